/- What the functions that the law reaches come to. -/
import Derived.Test.YtjeakogmccogmaaDoorRRp
import Derived.Test.YtjeakogmccogmaaDoorPuAll
namespace Go.Cams.YtjeakogmccogmaaDoorLRp
open Go Go.Fw Go.Proofs Go.Proofs.YtjeakogmccogmaaDoor.LRp
/- spec.l01Split -/
theorem e19 (c : UInt8) (l : List UInt8) (hl : l.length ≤ 10000000) : Evt (fun n => call T C n 19 (tx l, (c.toNat : Int), ())) (((splitC c l).map tx, ()), ()) := by
  refine Evt.next ?_ (fun n => r19 n (tx l) (c.toNat : Int))
  have hsz : ((tx l).size : Int) = (l.length : Int) := by rw [tx_size]
  refine for_evt' 0 (l.length : Int) (fun i (b : List ByteArray × Int) => (tx l, (c.toNat : Int), b.1, b.2, i, ())) (fun i b => ∃ (ws : List (List UInt8)) (k : Nat), b = (ws.map tx, (k : Int)) ∧ (k : Int) ≤ i ∧ ws ++ splitC c (l.drop k) = splitC c l ∧ c ∉ (l.drop k).take (i.toNat - k) ∧ (ws.length : Int) ≤ i) (b0 := ([], 0)) rfl (by omega) ⟨[], 0, rfl, by omega, rfl, by simp, by simp⟩ ?_ ?_
  · rintro i _ i0 i1 ⟨ws, k, rfl, hk, hw, hc, hn⟩
    obtain ⟨i, rfl⟩ := Int.eq_ofNat_of_zero_le i0
    rw [Int.toNat_natCast] at hc
    dsimp only
    obtain ⟨d, hd⟩ : ∃ d, l[i]? = some d := ⟨_, List.getElem?_eq_getElem (by omega)⟩
    refine Round.yes (decide_eq_true (by rw [hsz]; exact i1)) (Round.at (nums_at hd) ?_)
    have e1 : wr .i64 ((i : Int) + 1) = (i : Int) + 1 := wr_succ i0 i1 (by omega)
    simp only [byte_eq]
    by_cases hdc : d = c
    · subst hdc
      refine Round.yes (by simp) (Round.chk (decide_eq_true ⟨by omega, by omega, by rw [hsz]; omega⟩) (Round.chk (decide_eq_true ?_) (Round.again _ ⟨(_, _), ?_, ws ++ [(l.drop k).take (i - k)], i + 1, rfl, ?_, ?_, ?_, ?_⟩)))
      · rw [List.length_map]; simp only [List.length_singleton]; omega
      · rw [Int.toNat_natCast, Int.toNat_natCast, tx_ext, e1, List.map_append]
        rfl
      · omega
      · rw [← hw, (congrArg (splitC d) (cut_at (by omega) hd)).trans (splitC_hit hc _)]; simp
      · simp
      · simp; omega
    · refine Round.no (by simpa using hdc) (Round.again _ ⟨(_, _), ?_, ws, k, rfl, ?_, hw, ?_, ?_⟩)
      · rw [e1]
      · omega
      · rw [show ((i : Int) + 1).toNat = i + 1 by omega, take_on (by omega) hd]
        intro h
        rcases List.mem_append.1 h with h | h
        · exact hc h
        · exact hdc (List.mem_singleton.1 h).symm
      · omega
  · rintro _ ⟨ws, k, rfl, hk, hw, hc, hn⟩
    rw [Int.toNat_natCast, take_rest] at hc
    dsimp only
    refine Round.no (by simp [hsz]) (Round.chk (decide_eq_true ⟨by omega, by rw [hsz]; omega, Int.le_refl _⟩) (Round.chk (decide_eq_true ?_) (Round.done ?_)))
    · rw [List.length_map]; simp only [List.length_singleton]; omega
    · rw [Int.toNat_natCast, hsz, Int.toNat_natCast, tx_ext, take_rest, ← hw, splitC_miss hc, List.map_append]
      exact Evt.some _
/- spec.l05Hex -/
theorem e20 (l : List UInt8) (hl : l.length ≤ 10000000) : Evt (fun n => call T C n 20 (tx l, ())) (hxR l, ()) := by
  refine Evt.next ?_ (fun n => r20 n (tx l))
  have hf : hxS l 0 = none → Evt (fun (_ : Nat) => some (((0 : Int), false, ()), ())) (hxR l, ()) := fun h => by
    have e : hxR l = (0, false, ()) := by unfold hxR; rw [h]
    rw [e]
    exact Evt.some _
  refine for_evt' 0 (l.length : Int) (fun i (a : Nat) => (tx l, (a : Int), i, ())) (fun i a => a < 18446744073709551616 ∧ hxS (l.take i.toNat) 0 = some a) (b0 := 0) rfl (by omega) ⟨by omega, rfl⟩ ?_ ?_
  · intro i a i0 i1 ⟨ha, hR⟩
    obtain ⟨i, rfl⟩ := Int.eq_ofNat_of_zero_le i0
    have hil : i < l.length := by omega
    rw [Int.toNat_natCast] at hR
    have hi : l[i]? = some l[i] := List.getElem?_eq_getElem hil
    have hg := nums_at hi
    have hcut : l = l.take i ++ l[i] :: l.drop (i + 1) := by rw [← List.drop_eq_getElem_cons hil, List.take_append_drop]
    have hnext : l.take (i + 1) = l.take i ++ [l[i]] := List.take_succ_eq_append_getElem hil
    generalize l[i] = c at hg hcut hnext
    have hcb := c.toNat_lt
    have hws := wr_succ (i := (i : Int)) i0 i1 (by omega)
    have hbad : ¬ (48 ≤ c.toNat ∧ c.toNat ≤ 57) → ¬ (97 ≤ c.toNat ∧ c.toNat ≤ 102) → hxS l 0 = none := fun h1 h2 => by
      rw [hcut, hxS_app, hR, Option.bind_some]
      unfold hxS
      rw [if_neg h1, if_neg h2]
    dsimp only
    refine Round.yes (decide_eq_true (by rw [tx_size]; exact i1)) (Round.at hg ?_)
    have hl97 : ¬ (48 ≤ c.toNat ∧ c.toNat ≤ 57) → (97 ≤ c.toNat ∧ c.toNat ≤ 102) → a * 16 % 18446744073709551616 + (c.toNat - 87) < 18446744073709551616 ∧ hxS (l.take (i + 1)) 0 = some (a * 16 % 18446744073709551616 + (c.toNat - 87)) := fun h1 h2 => by
      refine ⟨by omega, ?_⟩
      rw [hnext, hxS_app, hR, Option.bind_some]
      unfold hxS
      rw [if_neg h1, if_pos h2]
      rfl
    have w8 : ∀ x : Int, 0 ≤ x → x < 256 → wr .u8 x = x := fun x h0 h1 => by
      show IntKind.u8.wrap x = x
      simp [IntKind.wrap, IntKind.signed, IntKind.bits]
      omega
    have hv97 : (97 ≤ c.toNat ∧ c.toNat ≤ 102) → wr .u64 (bitsI .or .u64 (shl_ .u64 (a : Int) 4) (wr .u64 (wr .u8 ((c.toNat : Int) - 97))) + 10) = ((a * 16 % 18446744073709551616 + (c.toNat - 87) : Nat) : Int) := fun h2 => by
      rw [w8 _ (by omega) (by omega), show (c.toNat : Int) - 97 = ((c.toNat - 97 : Nat) : Int) by omega, wrU (x := ((c.toNat - 97 : Nat) : Int)) (by omega) (by omega), hx_or (by omega), wrU (by omega) (by omega)]
      omega
    have hv48 : (48 ≤ c.toNat ∧ c.toNat ≤ 57) → bitsI .or .u64 (shl_ .u64 (a : Int) 4) (wr .u64 (wr .u8 ((c.toNat : Int) - 48))) = ((a * 16 % 18446744073709551616 + (c.toNat - 48) : Nat) : Int) := fun h2 => by
      rw [w8 _ (by omega) (by omega), show (c.toNat : Int) - 48 = ((c.toNat - 48 : Nat) : Int) by omega, wrU (x := ((c.toNat - 48 : Nat) : Int)) (by omega) (by omega), hx_or (by omega)]
    by_cases h48 : 48 ≤ c.toNat
    · refine Round.yes (decide_eq_true (by omega)) ?_
      by_cases h57 : c.toNat ≤ 57
      · refine Round.yes (by simp; omega) (Round.chk (by decide) (Round.again _ ⟨a * 16 % 18446744073709551616 + (c.toNat - 48), ?_, ?_⟩))
        · rw [hws, hv48 ⟨h48, h57⟩]
        · refine ⟨by omega, ?_⟩
          rw [show ((i : Int) + 1).toNat = i + 1 by omega, hnext, hxS_app, hR, Option.bind_some]
          unfold hxS
          rw [if_pos ⟨h48, h57⟩]
          rfl
      · refine Round.no (by simp; omega) ?_
        by_cases h97 : 97 ≤ c.toNat
        · refine Round.yes (decide_eq_true (by omega)) ?_
          by_cases h102 : c.toNat ≤ 102
          · refine Round.yes (by simp; omega) (Round.chk (by decide) (Round.again _ ⟨a * 16 % 18446744073709551616 + (c.toNat - 87), ?_, ?_⟩))
            · rw [hws, hv97 ⟨h97, h102⟩]
            · rw [show ((i : Int) + 1).toNat = i + 1 by omega]
              exact hl97 (by omega) ⟨h97, h102⟩
          · exact Round.no (by simp; omega) (Round.done (hf (hbad (by omega) (by omega))))
        · exact Round.no (by simp; omega) (Round.done (hf (hbad (by omega) (by omega))))
    · refine Round.no (by simp; omega) ?_
      refine Round.no (by simp; omega) (Round.done (hf (hbad (by omega) (by omega))))
  · intro a ⟨ha, hR⟩
    rw [Int.toNat_natCast, List.take_length] at hR
    dsimp only
    have e : hxR l = ((a : Int), (l.length : Int) == 16, ()) := by unfold hxR; rw [hR]
    refine Round.no (by simp [tx_size]) (Round.done ?_)
    rw [e, tx_size]
    exact Evt.some _
/- spec.ReadPlate -/
theorem e6 (l : List UInt8) (hl : l.length ≤ 1048576) : Evt (fun n => call T C n 6 (tx l, ())) (((rpP l).1, (rpP l).2, ()), ()) := by
  have hS := e19 10 l (by omega)
  refine Evt.next (Evt.bind hS ?_) (fun n => r6 n (tx l))
  clear hS
  have hrd : rdP l = if (splitC 10 l).length = 65 ∧ (splitC 10 l)[64]? = some [] then mapO hxO ((splitC 10 l).take 64) else none := rfl
  have hwl : ∀ w ∈ splitC 10 l, w.length ≤ l.length := fun w hw => splitC_wlen w hw
  have hbad : rdP l = none → Evt (fun (_ : Nat) => some ((List.replicate 64 (0 : Int), (5 : Int), ()), ())) (((rpP l).1, (rpP l).2, ()), ()) := fun h => by
    have e : rpP l = (List.replicate 64 0, 5) := by unfold rpP; rw [h]
    rw [e]
    exact Evt.some _
  generalize splitC 10 l = ws at hrd hwl ⊢
  dsimp only
  have hlm : (ws.map tx).length = ws.length := by simp
  by_cases h65 : ws.length = 65
  case neg => exact Evt.yes (by rw [hlm]; simp; omega) (hbad (by rw [hrd, if_neg (fun h => h65 h.1)]))
  refine Evt.no (by rw [hlm, h65]; decide) (Evt.chk (decide_eq_true (by rw [hlm, h65]; omega)) ?_)
  obtain ⟨z, hz⟩ : ∃ z, ws[64]? = some z := ⟨_, List.getElem?_eq_getElem (by omega)⟩
  have hz2 : (ws.map tx)[(Int.toNat 64)]? = some (tx z) := by
    show (ws.map tx)[64]? = _
    rw [List.getElem?_map, hz]
    rfl
  simp only [hz2, Option.bind_some]
  by_cases hz0 : z = []
  case neg =>
    refine Evt.yes ?_ (hbad (by rw [hrd, if_neg (fun h => hz0 (by rw [hz] at h; exact Option.some.inj h.2))]))
    have : ¬ ((tx z).toList = (⟨#[]⟩ : ByteArray).toList) := by
      rw [show (⟨#[]⟩ : ByteArray) = tx [] from rfl, tx_toList, tx_toList]
      exact hz0
    simpa using this
  subst hz0
  refine Evt.no (by rw [show (⟨#[]⟩ : ByteArray) = tx [] from rfl]; simp) ?_
  rw [if_pos ⟨h65, hz⟩] at hrd
  refine for_evt' 0 64 (fun i (p : List Int) => (List.replicate 64 (0 : Int), ws.map tx, p ++ List.replicate (64 - i.toNat) 0, i, ())) (fun i p => mapO hxO (ws.take i.toNat) = some p) (b0 := []) rfl (by omega) rfl ?_ ?_
  · intro i p i0 i1 hP
    obtain ⟨i, rfl⟩ := Int.eq_ofNat_of_zero_le i0
    rw [Int.toNat_natCast] at hP
    have hil : i < ws.length := by omega
    obtain ⟨w, hw⟩ : ∃ w, ws[i]? = some w := ⟨_, List.getElem?_eq_getElem hil⟩
    have hwm := List.mem_of_getElem? hw
    have hvi : idx (ws.map tx) (i : Int) = some (tx w) := by
      unfold idx
      rw [if_pos (by omega), Int.toNat_natCast, List.getElem?_map, hw]
      rfl
    have hpl : p.length = i := by
      have := (mapO_el hP).1
      rw [this, List.length_take]; omega
    have hws := wr_succ (i := (i : Int)) i0 i1 (by omega)
    have hX := hxR_o w
    dsimp only
    refine Round.yes (decide_eq_true i1) (Round.at hvi (Round.bind (e20 w (by have := hwl w hwm; omega)) ?_))
    cases hb : (hxR w).2.1 with
    | false =>
      refine Round.yes (by simp [hb]) (Round.done (hbad ?_))
      rw [hrd]
      refine mapO_none' (x := w) ?_ (by rw [hX, hb]; rfl)
      exact List.mem_of_getElem? (by rw [List.getElem?_take_of_lt (show i < 64 by omega)]; exact hw)
    | true =>
      refine Round.no (by simp [hb]) (Round.chk (decide_eq_true (by omega)) ?_)
      have hpi : (p ++ List.replicate (64 - (i : Int).toNat) 0)[(Int.toNat (i : Int))]? = some 0 := by
        rw [Int.toNat_natCast, List.getElem?_append_right (by omega), List.getElem?_replicate, if_pos (by omega)]
      simp only [hpi, Option.bind_some]
      refine Round.again _ ⟨p ++ [(hxR w).1], ?_, ?_⟩
      · rw [hws, Int.toNat_natCast, show ((i : Int) + 1).toNat = i + 1 by omega]
        have e : 64 - i = (64 - (i + 1)) + 1 := by omega
        rw [e, List.replicate_succ (n := 64 - (i + 1)), List.set_append_right _ _ (by omega), hpl, Nat.sub_self, List.set_cons_zero]
        simp
      · rw [show ((i : Int) + 1).toNat = i + 1 by omega, List.take_add_one, hw]
        exact mapO_snoc (by rw [hX, hb]; rfl) hP
  · intro p hP
    have hP : mapO hxO (ws.take 64) = some p := hP
    have e : rpP l = (p, 0) := by unfold rpP; rw [hrd, hP]
    dsimp only
    refine Round.no (by simp) (Round.done ?_)
    rw [e]
    simp only [show (64 : Int).toNat = 64 from rfl, Nat.sub_self, List.replicate_zero, List.append_nil]
    exact Evt.some _
/- strings.Split -/
theorem e21 {c : UInt8} {w : List UInt8} {ws : List (List UInt8)} (h : c ∉ w) (hs : ∀ v ∈ ws, c ∉ v) (hl : (Lib.join (w :: ws) [c]).length ≤ 1000000) : Evt (fun n => call T C n 21 (tx (Lib.join (w :: ws) [c]), tx [c], ())) (((w :: ws).map tx, ()), ()) := by
  refine Evt.next ?_ (fun n => r21 n (tx (Lib.join (w :: ws) [c])) (tx [c]))
  dsimp only
  rw [if_pos ⟨by rw [tx_size]; omega, by rw [tx_size]; simp⟩, split_tx h hs]
  exact Evt.some _
theorem e21_2 (c : UInt8) (l : List UInt8) (hl : l.length ≤ 10000000) : Evt (fun n => call T C n 21 (tx l, tx [c], ())) (((splitC c l).map tx, ()), ()) := by
  refine Evt.next ?_ (fun n => r21 n (tx l) (tx [c]))
  dsimp only
  rw [if_pos ⟨by rw [tx_size]; omega, by rw [tx_size]; simp⟩, split_all]
  exact Evt.some _
/- strconv.ParseUint -/
theorem e45 (l : List UInt8) (hl : l.length ≤ 10000000) : Evt (fun n => call T C n 45 (tx l, (16 : Int), (64 : Int), ())) ((((puT l).1 : Int), decide ((puT l).2 ≠ 0), ()), ()) := by
  refine Evt.next ?_ (fun n => r45 n (tx l) 16 64)
  dsimp only
  rw [if_pos ⟨by rw [tx_size]; omega, rfl, rfl⟩]
  exact Evt.some _
/- impl.unhex -/
theorem e22 (l : List UInt8) (hl : l.length ≤ 10000000) : Evt (fun n => call T C n 22 (tx l, ())) ((uhx l, ()), ()) := by
  refine Evt.next (Evt.bind (e45 l hl) (Evt.chk rfl ?_)) (fun n => r22 n (tx l))
  dsimp only
  unfold uhx
  by_cases h : (puT l).2 = 0
  · rw [if_pos h]
    exact Evt.no (by simp [h]) (Evt.some _)
  · rw [if_neg h]
    exact Evt.yes (by simp [h]) (Evt.some _)
/- strconv.FormatUint -/
theorem e74 {u : Nat} (h : u < 18446744073709551616) : Evt (fun n => call T C n 74 ((u : Int), (16 : Int), ())) ((tx (hexD u), ()), ()) := by
  refine Evt.next ?_ (fun n => r74 n (u : Int) 16)
  dsimp only
  rw [if_pos ⟨by omega, by omega, rfl⟩, Int.toNat_natCast]
  exact Evt.some _
/- strings.Repeat -/
theorem e75 {k : Nat} (h : k ≤ 15) : Evt (fun n => call T C n 75 (tx [48], (k : Int), ())) ((tx (List.replicate k 48), ()), ()) := by
  refine Evt.next ?_ (fun n => r75 n (tx [48]) (k : Int))
  dsimp only
  rw [if_pos ⟨rfl, by omega, by omega⟩, Int.toNat_natCast]
  exact Evt.some _
/- impl.hex -/
theorem e47 {u : Nat} (h : u < 18446744073709551616) : Evt (fun n => call T C n 47 ((u : Int), ())) ((tx (hxN 16 u), ()), ()) := by
  obtain ⟨h1, h2⟩ := hex16 h
  have hpos : 1 ≤ (hexD u).length := by
    by_cases hu : u < 16
    · rw [hexD_lt hu]; simp
    · rw [hexD_ge (by omega)]; simp
  have c48 : (⟨#[48]⟩ : ByteArray) = tx [48] := rfl
  refine Evt.next (Evt.bind (e74 h) ?_) (fun n => r47 n (u : Int))
  have hw : wr .i64 ((16 : Int) - ((tx (hexD u)).size : Int)) = ((16 - (hexD u).length : Nat) : Int) := by
    rw [tx_size, wrap_id (by omega) (by omega)]; omega
  simp only [hw, c48]
  refine Evt.bind (e75 (k := 16 - (hexD u).length) (by omega)) ?_
  simp only [tx_app]
  rw [h2]
  exact Evt.chk (szT (by simp; omega) (by omega)) (Evt.some _)
/- (*strings.Builder).WriteString -/
theorem e46 (x s : List UInt8) (h : x.length + s.length ≤ 1000000000) : Evt (fun n => call T C n 46 (tx x, tx s, ())) ((((s.length : Nat) : Int), false, ()), (tx (x ++ s), ())) := by
  refine Evt.next ?_ (fun n => r46 n (tx x) (tx s))
  dsimp only
  rw [if_pos (by rw [tx_size, tx_size]; omega), tx_app, tx_size]
  exact Evt.some _
/- (*strings.Builder).String -/
theorem e48 (x : ByteArray) : Evt (fun n => call T C n 48 (x, ())) ((x, ()), ()) :=
  Evt.next (Evt.some _) (fun n => r48 n x)
/- impl.PlateText -/
theorem e23 {p : List Int} (hp : p.length = 64) (hb : ∀ v ∈ p, 0 ≤ v ∧ v < 18446744073709551616) : Evt (fun n => call T C n 23 (p, ())) ((tx (plT p), ()), ()) := by
  have c10 : (⟨#[10]⟩ : ByteArray) = tx [10] := rfl
  refine Evt.next ?_ (fun n => r23 n p)
  refine for_evt' 0 64 (fun i (_ : Unit) => (tx (plT (p.take i.toNat)), p, i, ())) (fun _ _ => True) (b0 := ()) rfl (by omega) trivial ?_ ?_
  · intro i _ i0 i1 _
    obtain ⟨v, hv⟩ := at_of (l := p) i0 (by omega)
    have vb := hb v hv.mem
    have hl := plT_len (p.take i.toNat)
    have htl : (p.take i.toNat).length ≤ 64 := by rw [List.length_take]; omega
    obtain ⟨u, rfl⟩ := Int.eq_ofNat_of_zero_le vb.1
    have hx := e47 (u := u) (by omega)
    have hxl := hxN_len 16 u
    dsimp only
    refine Round.yes (decide_eq_true i1) (Round.at hv.idx (Round.bind hx ?_))
    simp only [c10, tx_app]
    refine Round.chk (szT (by omega) (by simp)) (Round.bind (e46 _ _ (by rw [List.length_append, hxl, hl]; simp; omega)) (Round.again _ ⟨(), ?_, trivial⟩))
    rw [hv.take, plT_snoc, wr_succ i0 i1 (by omega), Int.toNat_natCast]
  · intro _ _
    dsimp only
    rw [List.take_of_length_le (by omega)]
    exact Round.no (by simp) (Round.bind (e48 _) (Round.done (Evt.some _)))
/- impl.ReadPlate -/
theorem e7 (l : List UInt8) (hl : l.length ≤ 1048576) : Evt (fun n => call T C n 7 (tx l, ())) (((rpP l).1, (rpP l).2, ()), ()) := by
  refine Evt.next (Evt.bind (e21_2 10 l (by omega)) ?_) (fun n => r7 n (tx l))
  have hwl : ∀ w ∈ splitC 10 l, w.length ≤ l.length := fun w hw => splitC_wlen w hw
  have hsl := splitC_len 10 l
  have hlm : ((splitC 10 l).map tx).length = (splitC 10 l).length := by simp
  dsimp only
  refine for_evt' 0 ((splitC 10 l).length : Int) (fun i (_ : Unit) => (tx l, List.replicate 64 (0 : Int), ipS l i.toNat, (splitC 10 l).map tx, (((splitC 10 l).map tx).length : Int), i, ())) (fun _ _ => True) (b0 := ()) (by rw [show (0 : Int).toNat = 0 from rfl, ipS_zero]) (by omega) trivial ?_ ?_
  · intro i _ i0 i1 _
    obtain ⟨i, rfl⟩ := Int.eq_ofNat_of_zero_le i0
    have hil : i < (splitC 10 l).length := by omega
    obtain ⟨w, hw⟩ : ∃ w, (splitC 10 l)[i]? = some w := ⟨_, List.getElem?_eq_getElem hil⟩
    have hwm := List.mem_of_getElem? hw
    have hvi : idx ((splitC 10 l).map tx) (i : Int) = some (tx w) := by
      unfold idx
      rw [if_pos (by omega), Int.toNat_natCast, List.getElem?_map, hw]
      rfl
    have hws := wr_succ (i := (i : Int)) i0 i1 (by omega)
    have hsi := ipS_len l i
    dsimp only
    refine Round.yes (decide_eq_true (by rw [hlm]; exact i1)) (Round.at hvi ?_)
    rw [Int.toNat_natCast]
    by_cases h64 : i < 64
    · refine Round.yes (decide_eq_true (by omega)) (Round.bind (e22 w (by have := hwl w hwm; omega)) (Round.chk (decide_eq_true (by omega)) ?_))
      obtain ⟨v, hv⟩ : ∃ v, (ipS l i)[i]? = some v := ⟨_, List.getElem?_eq_getElem (by omega)⟩
      simp only [hv, Option.bind_some]
      refine Round.again _ ⟨(), ?_, trivial⟩
      rw [hws, show ((i : Int) + 1).toNat = i + 1 by omega, ipS_set l hw h64]
    · refine Round.no (by simp; omega) (Round.again _ ⟨(), ?_, trivial⟩)
      rw [hws, show ((i : Int) + 1).toNat = i + 1 by omega, ipS_over l (by omega)]
  · intro _ _
    rw [Int.toNat_natCast, ipS_all l (Nat.le_refl _)]
    dsimp only
    refine Round.no (by rw [hlm]; simp) (Round.bind (e23 (ipP_len l) (ipP_bd l)) ?_)
    rw [rpP_impl]
    simp only [tx_toList]
    by_cases h : plT (ipP l) = l
    · rw [if_pos h]
      exact Round.no (by simp [h]) (Round.done (Evt.some _))
    · rw [if_neg h]
      exact Round.yes (by simpa using h) (Round.done (Evt.some _))
/- laws.eqPlate -/
theorem e8 {p : List Int} (hp : p.length = 64) : Evt (fun n => call T C n 8 (p, p, ())) ((true, ()), ()) := by
  refine Evt.next ?_ (fun n => r8 n p p)
  refine for_evt' 0 64 (fun i (_ : Unit) => (p, p, i, ())) (fun _ _ => True) (b0 := ()) rfl (by omega) trivial ?_ ?_
  · intro i _ h2 h3 _
    have hg := g_idx (l := p) h2 (by omega)
    refine Round.yes (decide_eq_true h3) (Round.chk (decide_eq_true (show 0 ≤ i ∧ i < ((64 : Nat) : Int) by omega)) (Round.at hg.get (Round.chk (decide_eq_true (show 0 ≤ i ∧ i < ((64 : Nat) : Int) by omega)) (Round.at hg.get (Round.no (by simp) (Round.again _ ⟨(), ?_, trivial⟩))))))
    rw [wr_succ h2 h3 (by omega)]
  · intro _ _
    exact Round.no (by simp) (Round.done (Evt.some _))
/- laws.FnExactReadPlate -/
theorem e3 (a : ByteArray) (hd : DomA (C 3).params (a, ())) : Evt (fun n => call T C n 3 (a, ())) ((true, ()), ()) := by
  obtain ⟨l, rfl⟩ := tx_of a
  refine Evt.next (Evt.ite (fun _ => Evt.some _) (fun h => ?_)) (fun n => r3 n (tx l))
  have hl : l.length ≤ 1048576 := by
    simp only [decide_eq_true_eq, tx_size] at h
    omega
  have hE := e8 (rpP_len l)
  refine Evt.bind (e6 l hl) (Evt.bind (e7 l hl) (Evt.bind hE (Evt.no (by simp) (Evt.no (by simp) (Evt.some _)))))

end Go.Cams.YtjeakogmccogmaaDoorLRp
