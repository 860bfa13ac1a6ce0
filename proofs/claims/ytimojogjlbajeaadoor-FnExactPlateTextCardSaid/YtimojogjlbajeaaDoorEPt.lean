/- What the functions that the law reaches come to. -/
import Derived.Test.YtimojogjlbajeaaDoorRPt
import Derived.Test.YtimojogjlbajeaaDoorPuAll
namespace Go.Cams.YtimojogjlbajeaaDoorLPt
open Go Go.Fw Go.Proofs Go.Proofs.YtimojogjlbajeaaDoor.LPt
/- laws.toPlate -/
theorem e6 {p : List Int} (hp : p.length = 64) : Evt (fun n => call T C n 6 (p, ())) ((p, ()), ()) := by
  refine Evt.next ?_ (fun n => r6 n p)
  refine for_evt' 0 64 (fun i (_ : Unit) => (p, List.replicate 64 (0 : Int), tb 64 (fun j => if j < i.toNat then g p j else 0), i, ())) (fun _ _ => True) (b0 := ()) (by simp [tb_rep]) (by omega) trivial ?_ ?_
  · intro i _ h2 h3 _
    have hg := g_idx (l := p) h2 (by omega)
    refine Round.yes (decide_eq_true h3) (Round.chk (decide_eq_true (show 0 ≤ i ∧ i < ((64 : Nat) : Int) by omega)) (Round.at hg.get (Round.chk (decide_eq_true (show 0 ≤ i ∧ i < ((64 : Nat) : Int) by omega)) (Round.at (tb_get (show i.toNat < 64 by omega)) (Round.again _ ⟨(), ?_, trivial⟩)))))
    rw [wr_succ h2 h3 (by omega), tb_set]
    have : tb 64 (fun j => if j = i.toNat then g p i.toNat else if j < i.toNat then g p j else 0) = tb 64 (fun j => if j < (i + 1).toNat then g p j else 0) := tb_ext fun j hj => by
      by_cases e : j = i.toNat
      · rw [if_pos e, if_pos (by omega), e]
      · rw [if_neg e]
        by_cases e2 : j < i.toNat
        · rw [if_pos e2, if_pos (by omega)]
        · rw [if_neg e2, if_neg (by omega)]
    rw [this]
  · intro _ _
    have : tb 64 (fun j => if j < (64 : Int).toNat then g p j else 0) = p := by
      conv => rhs; rw [tb_self hp]
      exact tb_ext fun j hj => if_pos (by omega)
    rw [this]
    exact Round.no (by simp) (Round.done (Evt.some _))
/- spec.l07Plate -/
theorem e13 {p : List Int} (hp : p.length = 64) (hb : ∀ v ∈ p, 0 ≤ v ∧ v < 18446744073709551616) : Evt (fun n => call T C n 13 (p, ())) ((tx (plT p), ()), ()) := by
  refine Evt.next ?_ (fun n => r13 n p)
  have cd : (⟨#[48, 49, 50, 51, 52, 53, 54, 55, 56, 57, 97, 98, 99, 100, 101, 102]⟩ : ByteArray) = tx [48, 49, 50, 51, 52, 53, 54, 55, 56, 57, 97, 98, 99, 100, 101, 102] := rfl
  rw [cd]
  refine for_evt' 0 64 (fun i (_ : Unit) => (p, tx [48, 49, 50, 51, 52, 53, 54, 55, 56, 57, 97, 98, 99, 100, 101, 102], numsL (plT (p.take i.toNat)), i, ())) (fun _ _ => True) (b0 := ()) rfl (by omega) trivial ?_ ?_
  · intro i _ i0 i1 _
    obtain ⟨v, hv⟩ := at_of (l := p) i0 (by omega)
    have vb := hb v hv.mem
    have hl := plT_len (p.take i.toNat)
    have htl : (p.take i.toNat).length ≤ 64 := by rw [List.length_take]; omega
    obtain ⟨u, rfl⟩ := Int.eq_ofNat_of_zero_le vb.1
    have hul : u < 18446744073709551616 := by omega
    dsimp only
    refine Round.yes (decide_eq_true i1) ?_
    refine for_round' 0 16 (fun j (_ : Unit) => (p, tx [48, 49, 50, 51, 52, 53, 54, 55, 56, 57, 97, 98, 99, 100, 101, 102], numsL (plT (p.take i.toNat) ++ hxN j.toNat (u / 16 ^ (16 - j.toNat))), i, 60 - 4 * j, ())) (fun _ _ => True) (b0 := ()) (by simp [hxN]) (by omega) trivial ?_ ?_
    · intro j _ j0 j1 _
      obtain ⟨j, rfl⟩ := Int.eq_ofNat_of_zero_le j0
      have hw : wr .u64 (60 - 4 * (j : Int)) = ((4 * (15 - j) : Nat) : Int) := by rw [show 60 - 4 * (j : Int) = ((4 * (15 - j) : Nat) : Int) by omega]; exact wrU (by omega) (by omega)
      have hsh : shr_ .u64 (u : Int) ((4 * (15 - j) : Nat) : Int) = ((u / 16 ^ (15 - j) : Nat) : Int) := by
        rw [shr_nat (by omega), Nat.pow_mul]
      have hq : u / 16 ^ (15 - j) ≤ u := Nat.div_le_self _ _
      have ha := and_15 (a := u / 16 ^ (15 - j)) (Nat.lt_of_le_of_lt hq hul)
      have hdg := nums_at (dig16_at (u / 16 ^ (15 - j) % 16) (Nat.mod_lt _ (by omega)))
      have hst := hxN_step u (j := j) (by omega)
      have hlen : (numsL (plT (p.take i.toNat) ++ hxN j (u / 16 ^ (16 - j)))).length ≤ 2000 := by
        unfold numsL
        rw [List.length_map, List.length_append, hl, hxN_len]
        omega
      dsimp only
      rw [Int.toNat_natCast]
      refine Round.yes (decide_eq_true (by omega)) (Round.at hv.idx ?_)
      rw [hw, hsh, ha]
      refine Round.chk (decide_eq_true (by omega)) (Round.at hdg (Round.chk (decide_eq_true (by simp only [List.length_singleton]; omega)) (Round.inr _ ⟨(), ?_, trivial⟩)))
      rw [show ((j : Int) + 1).toNat = j + 1 by omega, show 16 - (j + 1) = 15 - j by omega, hst, wrap_id (by omega) (by omega), show 60 - 4 * (j : Int) - 4 = 60 - 4 * ((j : Int) + 1) by omega]
      unfold numsL
      simp
    · intro _ _
      dsimp only
      have hlen : (numsL (plT (p.take i.toNat) ++ hxN (16 : Int).toNat (u / 16 ^ (16 - (16 : Int).toNat)))).length ≤ 2000 := by
        unfold numsL
        rw [List.length_map, List.length_append, hl, hxN_len]
        omega
      refine Round.no (by simp) (Round.chk (decide_eq_true (by simp only [List.length_singleton]; omega)) (Round.inl _ ⟨(), ?_, trivial⟩))
      rw [hv.take, plT_snoc, wr_succ i0 i1 (by omega), Int.toNat_natCast]
      unfold numsL
      simp
  · intro _ _
    dsimp only
    rw [List.take_of_length_le (by omega), strOf_nums]
    exact Round.no (by simp) (Round.done (Evt.some _))
/- spec.PlateText -/
theorem e5 {p : List Int} (hp : p.length = 64) (hb : ∀ v ∈ p, 0 ≤ v ∧ v < 18446744073709551616) : Evt (fun n => call T C n 5 (p, ())) ((tx (plT p), ()), ()) :=
  Evt.next (Evt.bind (e13 hp hb) (Evt.some _)) (fun n => r5 n p)
/- strconv.FormatUint -/
theorem e26 {u : Nat} (h : u < 18446744073709551616) : Evt (fun n => call T C n 26 ((u : Int), (16 : Int), ())) ((tx (hexD u), ()), ()) := by
  refine Evt.next ?_ (fun n => r26 n (u : Int) 16)
  dsimp only
  rw [if_pos ⟨by omega, by omega, rfl⟩, Int.toNat_natCast]
  exact Evt.some _
/- strings.Repeat -/
theorem e27 {k : Nat} (h : k ≤ 15) : Evt (fun n => call T C n 27 (tx [48], (k : Int), ())) ((tx (List.replicate k 48), ()), ()) := by
  refine Evt.next ?_ (fun n => r27 n (tx [48]) (k : Int))
  dsimp only
  rw [if_pos ⟨rfl, by omega, by omega⟩, Int.toNat_natCast]
  exact Evt.some _
/- impl.hex -/
theorem e15 {u : Nat} (h : u < 18446744073709551616) : Evt (fun n => call T C n 15 ((u : Int), ())) ((tx (hxN 16 u), ()), ()) := by
  obtain ⟨h1, h2⟩ := hex16 h
  have hpos : 1 ≤ (hexD u).length := by
    by_cases hu : u < 16
    · rw [hexD_lt hu]; simp
    · rw [hexD_ge (by omega)]; simp
  have c48 : (⟨#[48]⟩ : ByteArray) = tx [48] := rfl
  refine Evt.next (Evt.bind (e26 h) ?_) (fun n => r15 n (u : Int))
  have hw : wr .i64 ((16 : Int) - ((tx (hexD u)).size : Int)) = ((16 - (hexD u).length : Nat) : Int) := by
    rw [tx_size, wrap_id (by omega) (by omega)]; omega
  simp only [hw, c48]
  refine Evt.bind (e27 (k := 16 - (hexD u).length) (by omega)) ?_
  simp only [tx_app]
  rw [h2]
  exact Evt.chk (szT (by simp; omega) (by omega)) (Evt.some _)
/- (*strings.Builder).WriteString -/
theorem e14 (x s : List UInt8) (h : x.length + s.length ≤ 1000000000) : Evt (fun n => call T C n 14 (tx x, tx s, ())) ((((s.length : Nat) : Int), false, ()), (tx (x ++ s), ())) := by
  refine Evt.next ?_ (fun n => r14 n (tx x) (tx s))
  dsimp only
  rw [if_pos (by rw [tx_size, tx_size]; omega), tx_app, tx_size]
  exact Evt.some _
/- (*strings.Builder).String -/
theorem e16 (x : ByteArray) : Evt (fun n => call T C n 16 (x, ())) ((x, ()), ()) :=
  Evt.next (Evt.some _) (fun n => r16 n x)
/- impl.PlateText -/
theorem e7 {p : List Int} (hp : p.length = 64) (hb : ∀ v ∈ p, 0 ≤ v ∧ v < 18446744073709551616) : Evt (fun n => call T C n 7 (p, ())) ((tx (plT p), ()), ()) := by
  have c10 : (⟨#[10]⟩ : ByteArray) = tx [10] := rfl
  refine Evt.next ?_ (fun n => r7 n p)
  refine for_evt' 0 64 (fun i (_ : Unit) => (tx (plT (p.take i.toNat)), p, i, ())) (fun _ _ => True) (b0 := ()) rfl (by omega) trivial ?_ ?_
  · intro i _ i0 i1 _
    obtain ⟨v, hv⟩ := at_of (l := p) i0 (by omega)
    have vb := hb v hv.mem
    have hl := plT_len (p.take i.toNat)
    have htl : (p.take i.toNat).length ≤ 64 := by rw [List.length_take]; omega
    obtain ⟨u, rfl⟩ := Int.eq_ofNat_of_zero_le vb.1
    have hx := e15 (u := u) (by omega)
    have hxl := hxN_len 16 u
    dsimp only
    refine Round.yes (decide_eq_true i1) (Round.at hv.idx (Round.bind hx ?_))
    simp only [c10, tx_app]
    refine Round.chk (szT (by omega) (by simp)) (Round.bind (e14 _ _ (by rw [List.length_append, hxl, hl]; simp; omega)) (Round.again _ ⟨(), ?_, trivial⟩))
    rw [hv.take, plT_snoc, wr_succ i0 i1 (by omega), Int.toNat_natCast]
  · intro _ _
    dsimp only
    rw [List.take_of_length_le (by omega)]
    exact Round.no (by simp) (Round.bind (e16 _) (Round.done (Evt.some _)))
/- laws.FnExactPlateText -/
theorem e3 (p : List Int) (hd : DomA (C 3).params (p, ())) : Evt (fun n => call T C n 3 (p, ())) ((true, ()), ()) := by
  have hp : p.length = 64 := hd.1.1
  have hb : ∀ v ∈ p, 0 ≤ v ∧ v < 18446744073709551616 := fun v hv => by
    have := hd.1.2 v hv
    have h2 : (0 : Int) ≤ v ∧ v ≤ 18446744073709551615 := this
    omega
  refine Evt.next (Evt.bind (e6 hp) (Evt.bind (e5 hp hb) (Evt.bind (e6 hp) (Evt.bind (e7 hp hb) ?_)))) (fun n => r3 n p)
  exact Evt.no (by simp) (Evt.some _)

end Go.Cams.YtimojogjlbajeaaDoorLPt
