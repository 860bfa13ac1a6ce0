/- What the functions that the law reaches come to. -/
import Derived.Test.YtjfkgmidnjiofaaDoorRProgramText
import Derived.Test.YtjfkgmidnjiofaaDoorPuAll
namespace Go.Cams.YtjfkgmidnjiofaaDoorLProgramText
open Go Go.Fw Go.Proofs Go.Proofs.YtjfkgmidnjiofaaDoor.LProgramText
/- laws.szMotionS -/
theorem e39 (l : List Ct) (a : Int) : Evt (fun n => call T C n 39 (l, a, ())) (((if wr .i64 (a - (l.length : Int)) < 0 then -1 else wr .i64 (a - (l.length : Int))), ()), ()) := by
  refine Evt.next ?_ (fun n => r39 n l a)
  refine Evt.ite (fun h => ?_) (fun h => ?_)
  · rw [if_pos (of_decide_eq_true h)]; exact Evt.some _
  · rw [if_neg (by simpa using h)]; exact Evt.some _
/- laws.szProgram -/
theorem e15 (p : Prg) (a : Int) : ∃ r : Int, Evt (fun n => call T C n 15 (p, a, ())) ((r, ()), ()) := by
  obtain ⟨s, hs⟩ : ∃ s, s = (if wr .i64 (a - (p.2.1.length : Int)) < 0 then (-1 : Int) else wr .i64 (a - (p.2.1.length : Int))) := ⟨_, rfl⟩
  have hS := e39 p.2.1 a
  rw [← hs] at hS
  cases h : decide (s < 0) with
  | true => exact ⟨-1, Evt.next (Evt.bind hS (Evt.yes h (Evt.some _))) (fun n => r15 n p a)⟩
  | false => exact ⟨s, Evt.next (Evt.bind hS (Evt.no (by rw [h]; decide) (Evt.some _))) (fun n => r15 n p a)⟩
/- laws.toMotion -/
theorem e71 (v : Ct) : Evt (fun n => call T C n 71 (v, ())) ((v, ()), ()) := Evt.next (Evt.some ((v, ()), ())) (fun n => r71 n v)
/- laws.toMotionS -/
theorem e42 (l : List Ct) (hr : RngMo l) : Evt (fun n => call T C n 42 (l, ())) ((l, ()), ()) := by
  have hl := hr.len
  refine Evt.next (Evt.chk (by simp; omega) ?_) (fun n => r42 n l)
  refine for_evt' 0 (l.length : Int) (fun i (b : List Ct) => (l, b, i, ())) (fun i b => b.length = l.length ∧ b.take i.toNat = l.take i.toNat) (b0 := List.replicate (Int.toNat (l.length : Int)) (0, 0, 0, ())) rfl (by omega) ⟨by simp, by simp⟩ ?_ ?_
  · intro i b h2 h3 ⟨hb, ht⟩
    have hi : i < (b.length : Int) := by omega
    obtain ⟨v, hv⟩ := at_of h2 h3
    obtain ⟨u, hu⟩ := get_of_lt h2 hi
    refine Round.yes (decide_eq_true h3) (Round.at hv.idx (Round.bind (e71 v) (Round.chk (chk_at h2 hi) (Round.at hu (Round.again _ ⟨b.set i.toNat v, ?_, by simpa using hb, ?_⟩)))))
    · rw [wr_succ h2 h3 (by omega)]
    · rw [take_set_succ h2 hi, ht, hv.take]
  · intro b ⟨hb, ht⟩
    have e : b = l := by rw [← take_all b, hb, ht]; simp
    rw [e]
    exact Round.no (by simp) (Round.done (Evt.some _))
/- laws.toProgram -/
theorem e17 (p : Prg) (hr : RngPg p) : Evt (fun n => call T C n 17 (p, ())) ((p, ()), ()) := Evt.next (Evt.bind (e42 p.2.1 hr.m) (Evt.some ((p, ()), ()))) (fun n => r17 n p)
/- spec.l00In -/
theorem e68 (a b c : Int) : Evt (fun n => call T C n 68 (a, b, c, ())) ((inR a b c, ()), ()) := by
  refine Evt.next ?_ (fun n => r68 n a b c)
  refine Evt.ite (fun h => ?_) (fun h => ?_)
  · refine (Evt.some _).of_eq fun n => ?_
    have h : b ≤ a := of_decide_eq_true h
    simp [inR, h]
    rfl
  · refine (Evt.some _).of_eq fun n => ?_
    have h : ¬ b ≤ a := by simpa using h
    simp [inR, h]
    rfl
/- spec.l01Lift -/
theorem e59 (a : Int) : Evt (fun n => call T C n 59 (a, ())) ((inR a 0 10000, ()), ()) := Evt.next (Evt.bind (e68 a 0 10000) (Evt.some _)) (fun n => r59 n a)
/- spec.l02Law -/
theorem e69 (a : Int) : Evt (fun n => call T C n 69 (a, ())) ((inR a 0 3, ()), ()) := Evt.next (Evt.bind (e68 a 0 3) (Evt.some _)) (fun n => r69 n a)
/- spec.l01Steps -/
theorem e58 (a : Int) : Evt (fun n => call T C n 58 (a, ())) ((inR a 8 360, ()), ()) := Evt.next (Evt.bind (e68 a 8 360) (Evt.some _)) (fun n => r58 n a)
/- spec.l02Ok -/
theorem e40 (p : Prg) (hr : RngPg p) : Evt (fun n => call T C n 40 (p, ())) ((okPg p, ()), ()) := by
  refine Evt.next (Evt.bind (e68 _ _ _) ?_) (fun n => r40 n p)
  unfold okPg
  cases h1 : inR (p.2.1.length : Int) 1 24 with
  | false => exact Evt.yes rfl (Evt.some _)
  | true =>
    have hn := inR_iff.1 h1
    refine Evt.no (by simp) (Evt.bind (e59 _) ?_)
    cases h2 : inR (wr .i64 p.1) 0 10000 with
    | false => exact Evt.yes rfl (Evt.some _)
    | true =>
      refine Evt.no (by simp) ?_
      have hb := sumM_take hr.m hn.2
      refine for_evt' 0 (p.2.1.length : Int) (fun i (_ : Unit) => (p, (p.2.1.length : Int), sumM (p.2.1.take i.toNat), i, ())) (fun i _ => p.2.1.all moOk = (p.2.1.drop i.toNat).all moOk) (b0 := ()) (by simp [sumM]) (by omega) (by simp) ?_ ?_
      · intro i _ h3 h4 hp
        obtain ⟨v, hv⟩ := at_of h3 h4
        have hrv := hr.m.el v hv.mem
        have hbi := hb i.toNat
        rw [hv.drop] at hp
        simp only [List.all_cons] at hp
        have bad : moOk v = false → (true && true && p.2.1.all moOk && inR (sumM p.2.1) 8 360 && (lastT p.2.1 == p.1)) = false := fun h => by rw [hp, h]; simp
        refine Round.yes (decide_eq_true h4) (Round.at hv.idx (Round.bind (e69 _) ?_))
        cases k1 : inR (wr .i64 v.1) 0 3 with
        | false =>
          rw [bad (by unfold moOk; rw [k1]; rfl)]
          exact Round.yes rfl (Round.done (Evt.some _))
        | true =>
          refine Round.no (by simp) ?_
          cases k2 : decide (v.2.1 < 1) with
          | true =>
            rw [bad (by unfold moOk; rw [k1, k2]; rfl)]
            exact Round.yes rfl (Round.done (Evt.some _))
          | false =>
            refine Round.no (by simp) (Round.bind (e59 _) ?_)
            cases k3 : inR (wr .i64 v.2.2.1) 0 10000 with
            | false =>
              rw [bad (by unfold moOk; rw [k1, k2, k3]; rfl)]
              exact Round.yes rfl (Round.done (Evt.some _))
            | true =>
              have hm : moOk v = true := by unfold moOk; rw [k1, k2, k3]; rfl
              rw [hm, Bool.true_and] at hp
              refine Round.no (by simp) (Round.again _ ⟨(), ?_, hp⟩)
              rw [hr.m.i2 hv.mem, wrap_id (x := sumM (p.2.1.take i.toNat) + v.2.1) (by omega) (by omega), hv.take, sumM_snoc, wr_succ h3 h4 (by omega)]
      · intro _ hp
        rw [drop_all] at hp
        have hp : p.2.1.all moOk = true := by rw [hp]; rfl
        rw [hp]
        simp only [take_all]
        refine Round.no (by simp) (Round.done (Evt.bind (e58 _) ?_))
        cases k4 : inR (sumM p.2.1) 8 360 with
        | false => exact Evt.no (by simp) (Evt.some _)
        | true =>
          obtain ⟨v, hv⟩ := at_of (l := p.2.1) (i := (p.2.1.length : Int) - 1) (by omega) (by omega)
          have hl : lastT p.2.1 = v.2.2.1 := by unfold lastT; rw [hv.idx]; rfl
          refine Evt.yes rfl ?_
          simp only [wrap_id (x := (p.2.1.length : Int) - 1) (by omega) (by omega)]
          refine Evt.at hv.idx ?_
          rw [hl]
          exact Evt.some _
/- spec.Decimal -/
theorem e60 (u : Nat) : u ≤ 9223372036854775807 → Evt (fun n => call T C n 60 ((u : Int), ())) ((tx (Lib.decDigits u), ()), ()) := by
  induction u using Nat.strongRecOn with
  | ind u ih =>
    intro hu
    have e1 : Int.tmod (u : Int) 10 = ((u % 10 : Nat) : Int) := by rw [show (10 : Int) = ((10 : Nat) : Int) from rfl, ← Int.ofNat_tmod]
    have e2 : Int.tdiv (u : Int) 10 = ((u / 10 : Nat) : Int) := by rw [show (10 : Int) = ((10 : Nat) : Int) from rfl, ← Int.ofNat_tdiv]
    have e3 : strOf [wr .u8 (wr .i64 ((48 : Int) + (Int.tmod (u : Int) (10 : Int))))] = tx [UInt8.ofNat (48 + u % 10)] := by
      rw [e1, digit_wr (Nat.mod_lt _ (by omega)), tx_strOf, show (48 + ((u % 10 : Nat) : Int)).toNat = 48 + u % 10 by omega]
    by_cases h : u < 10
    · refine Evt.next (Evt.yes (decide_eq_true (by omega)) (Evt.chk rfl ?_)) (fun n => r60 n u)
      rw [e3, dec_small h, show u % 10 = u by omega]
      exact Evt.some _
    · have hi := ih (u / 10) (by omega) (by omega)
      have hl := dec_len (u := u / 10) (by omega)
      refine Evt.next (Evt.no (by simp; omega) (Evt.chk rfl ?_)) (fun n => r60 n u)
      rw [e2, wrap_id (x := ((u / 10 : Nat) : Int)) (by omega) (by omega), e3]
      refine Evt.bind hi (Evt.chk rfl (Evt.chk ?_ ((Evt.some _).of_eq fun n => ?_)))
      · simp only [tx_size]; exact decide_eq_true (by simp; omega)
      · rw [tx_app, ← dec_big h]; rfl
/- spec.l02Letters -/
theorem e70 : Evt (fun n => call T C n 70 (())) (((⟨#[101, 115, 99, 102]⟩ : ByteArray), ()), ()) := Evt.next (Evt.some _) (fun n => r70 n)
/- spec.l02Text -/
theorem e41 (p : Prg) (hr : RngPg p) (G : GoodPg p) : Evt (fun n => call T C n 41 (p, ())) ((tx (Lib.join (pgW p.1 p.2.1) [32]), ()), ()) := by
  have hn := G.n
  have ht := G.t
  obtain ⟨t, et⟩ : ∃ t : Nat, p.1 = t := ⟨p.1.toNat, by omega⟩
  have c32 : (⟨#[32]⟩ : ByteArray) = tx [32] := rfl
  have c58 : (⟨#[58]⟩ : ByteArray) = tx [58] := rfl
  refine Evt.next ?_ (fun n => r41 n p)
  rw [wrap_id (x := p.1) (by omega) (by omega)]
  have hD := e60 t (by omega)
  rw [← et] at hD
  have ett : p.1.toNat = t := by omega
  refine Evt.bind hD ?_
  refine for_evt' 0 (p.2.1.length : Int) (fun i (_ : Unit) => (p, tx (Lib.join (pgW p.1 (p.2.1.take i.toNat)) [32]), i, ())) (fun _ _ => True) (b0 := ()) (by simp [pgW, Lib.join_one, ett]) (by omega) trivial ?_ ?_
  · intro i _ h2 h3 _
    obtain ⟨v, hv⟩ := at_of h2 h3
    obtain ⟨g1, g2, g3⟩ := G.el v hv.mem
    have hrv := hr.m.el v hv.mem
    obtain ⟨a, ea⟩ : ∃ a : Nat, v.2.1 = a := ⟨v.2.1.toNat, by omega⟩
    obtain ⟨b, eb⟩ : ∃ b : Nat, v.2.2.1 = b := ⟨v.2.2.1.toNat, by omega⟩
    have hA := e60 a (by omega)
    have hB := e60 b (by omega)
    rw [← ea] at hA
    rw [← eb] at hB
    have z1 := dec_len (u := a) (by omega)
    have z2 := dec_len (u := b) (by omega)
    have hJ := (pgW_len hr.m hr.t.2 hn.2 i.toNat).1
    have hcut := ltr_cut g1.1 g1.2
    refine Round.yes (decide_eq_true h3) (Round.at hv.idx (Round.bind e70 ?_))
    simp only [wr_i8 (x := v.1 + 1) (by omega) (by omega), hr.m.i2 hv.mem, hr.m.i3 hv.mem, hcut, c32, c58, tx_app]
    refine Round.chk (decide_eq_true ⟨g1.1, by omega, by show v.1 + 1 ≤ 4; omega⟩) (Round.chk (szT (by simp) (by simp)) (Round.bind hA ?_))
    simp only [tx_app]
    refine Round.chk (szT (by simp) (by omega)) (Round.chk (szT (by simp; omega) (by simp)) (Round.bind hB ?_))
    simp only [tx_app]
    refine Round.chk (szT (by simp; omega) (by omega)) (Round.chk (szT (by omega) (by simp; omega)) (Round.again _ ⟨(), ?_, trivial⟩))
    rw [hv.take, pgW_snoc, join_snoc (pgW_ne _ _), wr_succ h2 h3 (by omega)]
    have : motW v = ltr v.1 :: (Lib.decDigits a ++ 58 :: Lib.decDigits b) := by unfold motW; rw [ea, eb]; rfl
    rw [this]
    simp
  · intro _ _
    simp only [take_all]
    exact Round.no (by simp) (Round.done (Evt.some _))
/- spec.ProgramText -/
theorem e16 (p : Prg) (hr : RngPg p) : Evt (fun n => call T C n 16 (p, ())) ((ptR p, ()), ()) := by
  refine Evt.next (Evt.bind (e40 p hr) ?_) (fun n => r16 n p)
  unfold ptR
  cases h : okPg p with
  | false => exact Evt.yes rfl (Evt.some _)
  | true => exact Evt.no (by simp) (Evt.bind (e41 p hr (goodPg hr h)) (Evt.some _))
/- impl.inRange -/
theorem e72 (a b c : Int) : Evt (fun n => call T C n 72 (a, b, c, ())) ((inR a b c, ()), ()) := by
  refine Evt.next ?_ (fun n => r72 n a b c)
  refine Evt.ite (fun h => ?_) (fun h => ?_)
  · refine (Evt.some _).of_eq fun n => ?_
    have h : b ≤ a := of_decide_eq_true h
    simp [inR, h]
    rfl
  · refine (Evt.some _).of_eq fun n => ?_
    have h : ¬ b ≤ a := by simpa using h
    simp [inR, h]
    rfl
/- impl.isLift -/
theorem e65 (a : Int) : Evt (fun n => call T C n 65 (a, ())) ((inR a 0 10000, ()), ()) := Evt.next (Evt.bind (e72 a 0 10000) (Evt.some _)) (fun n => r65 n a)
/- impl.isLaw -/
theorem e75 (w : Int) : Evt (fun n => call T C n 75 (w, ())) ((inR w 0 3, ()), ()) := Evt.next (Evt.bind (e72 _ _ _) (Evt.some _)) (fun n => r75 n w)
/- impl.ValidProgram$1 -/
theorem e74 (v : Ct) : Evt (fun n => call T C n 74 (v, ())) ((!moOk v, ()), ()) := by
  refine Evt.next (Evt.bind (e75 _) ?_) (fun n => r74 n v)
  unfold moOk
  cases inR (wr .i64 v.1) 0 3 with
  | false => exact Evt.yes rfl (Evt.some _)
  | true =>
    refine Evt.no (by simp) ?_
    cases decide (v.2.1 < 1) with
    | true => exact Evt.yes rfl (Evt.some _)
    | false => exact Evt.no (by simp) (Evt.bind (e65 _) (Evt.some _))
/- slices.IndexFunc[[]impl.Motion,impl.Motion]{impl.ValidProgram$1} -/
theorem e91 (l : List Ct) (hr : RngMo l) : Evt (fun n => call T C n 91 (l, ((), ()), ())) ((fi (fun v => !moOk v) l 0, ()), ()) := by
  have hl : (l.length : Int) ≤ 140737488351232 := by have := hr.len'; omega
  refine Evt.next ?_ (fun n => r91 n l ((), ()))
  refine for_evt' 0 (l.length : Int) (fun i (_ : Unit) => (l, ((), ()), (l.length : Int), i, ())) (fun i _ => fi (fun v => !moOk v) l 0 = fi (fun v => !moOk v) (l.drop i.toNat) i) (b0 := ()) rfl (by omega) (by simp) ?_ ?_
  · intro i _ h2 h3 hp
    obtain ⟨v, hv⟩ := at_of h2 h3
    rw [hv.drop] at hp
    simp only [fi] at hp
    refine Round.yes (decide_eq_true h3) (Round.at hv.idx (Round.bind (e74 v) ?_))
    cases hb : !moOk v with
    | true =>
      simp only [hb, if_true] at hp
      rw [hp]
      exact Round.yes rfl (Round.done (Evt.some _))
    | false =>
      simp only [hb, Bool.false_eq_true, if_false] at hp
      exact Round.no (by simp) (Round.again _ ⟨(), by rw [wr_succ h2 h3 (by omega)], hp⟩)
  · intro _ hp
    rw [drop_all] at hp
    rw [hp]
    exact Round.no (by simp) (Round.done (Evt.some _))
/- slices.ContainsFunc[[]impl.Motion,impl.Motion]{impl.ValidProgram$1} -/
theorem e73 (l : List Ct) (hr : RngMo l) : Evt (fun n => call T C n 73 (l, ((), ()), ())) ((l.any (fun v => !moOk v), ()), ()) := by
  refine Evt.next (Evt.bind (e91 l hr) ((Evt.some _).of_eq fun n => ?_)) (fun n => r73 n l ((), ()))
  simp only [fi_any _ l 0 (Int.le_refl _)]
  rfl
/- (impl.Program).steps -/
theorem e76 (p : Prg) (hr : RngPg p) (hn : (p.2.1.length : Int) ≤ 24) : Evt (fun n => call T C n 76 (p, ())) ((sumM p.2.1, ()), ()) := by
  have hb := sumM_take hr.m hn
  refine Evt.next ?_ (fun n => r76 n p)
  refine for_evt' 0 (p.2.1.length : Int) (fun i (_ : Unit) => (sumM (p.2.1.take i.toNat), p.2.1, (p.2.1.length : Int), i, ())) (fun _ _ => True) (b0 := ()) (by simp [sumM]) (by omega) trivial ?_ ?_
  · intro i _ h3 h4 _
    obtain ⟨v, hv⟩ := at_of h3 h4
    have hrv := hr.m.el v hv.mem
    have hbi := hb i.toNat
    refine Round.yes (decide_eq_true h4) (Round.at hv.idx (Round.again _ ⟨(), ?_, trivial⟩))
    rw [hr.m.i2 hv.mem, wrap_id (x := sumM (p.2.1.take i.toNat) + v.2.1) (by omega) (by omega), hv.take, sumM_snoc, wr_succ h3 h4 (by omega)]
  · intro _ _
    simp only [take_all]
    exact Round.no (by simp) (Round.done (Evt.some _))
/- impl.isSteps -/
theorem e61 (a : Int) : Evt (fun n => call T C n 61 (a, ())) ((inR a 8 360, ()), ()) := Evt.next (Evt.bind (e72 a 8 360) (Evt.some _)) (fun n => r61 n a)
/- impl.ValidProgram -/
theorem e43 (p : Prg) (hr : RngPg p) : Evt (fun n => call T C n 43 (p, ())) ((okPg p, ()), ()) := by
  refine Evt.next (Evt.bind (e72 _ _ _) ?_) (fun n => r43 n p)
  unfold okPg
  cases h1 : inR (p.2.1.length : Int) 1 24 with
  | false => exact Evt.yes rfl (Evt.some _)
  | true =>
    have hn := inR_iff.1 h1
    refine Evt.no (by simp) (Evt.bind (e65 _) ?_)
    cases h2 : inR (wr .i64 p.1) 0 10000 with
    | false => exact Evt.yes rfl (Evt.some _)
    | true =>
      refine Evt.no (by simp) (Evt.bind (e73 p.2.1 hr.m) ?_)
      have ha : p.2.1.all moOk = !p.2.1.any (fun v => !moOk v) := by simp [List.any_eq_not_all_not]
      rw [ha]
      cases p.2.1.any (fun v => !moOk v) with
      | true => exact Evt.no (by simp) (Evt.some _)
      | false =>
        refine Evt.yes rfl (Evt.bind (e76 p hr hn.2) (Evt.bind (e61 _) ?_))
        cases k4 : inR (sumM p.2.1) 8 360 with
        | false => exact Evt.no (by simp) (Evt.some _)
        | true =>
          obtain ⟨v, hv⟩ := at_of (l := p.2.1) (i := (p.2.1.length : Int) - 1) (by omega) (by omega)
          have hl : lastT p.2.1 = v.2.2.1 := by unfold lastT; rw [hv.idx]; rfl
          refine Evt.yes rfl ?_
          simp only [wrap_id (x := (p.2.1.length : Int) - 1) (by omega) (by omega)]
          refine Evt.at hv.idx ?_
          rw [hl]
          exact Evt.some _
/- strconv.FormatInt -/
theorem e66 (u : Nat) (h : u ≤ 9223372036854775807) : Evt (fun n => call T C n 66 ((u : Int), 10, ())) ((tx (Lib.decDigits u), ()), ()) := by
  refine Evt.next ?_ (fun n => r66 n u 10)
  dsimp only
  rw [if_pos ⟨rfl, by omega, by omega⟩, Lib.itoa_nonneg]
  exact Evt.some _
/- impl.decimal -/
theorem e37 (u : Nat) (h : u ≤ 9223372036854775807) : Evt (fun n => call T C n 37 ((u : Int), ())) ((tx (Lib.decDigits u), ()), ()) :=
  Evt.next (Evt.bind (e66 u h) (Evt.some _)) (fun n => r37 n u)
/- strings.Join -/
theorem e38 (ws : List (List UInt8)) (s : List UInt8) (h1 : ws.length ≤ 1000000) (h2 : (Lib.join ws s).length ≤ 1000000000) : Evt (fun n => call T C n 38 (ws.map tx, tx s, ())) ((tx (Lib.join ws s), ()), (ws.map tx, ())) := by
  refine Evt.next ?_ (fun n => r38 n (ws.map tx) (tx s))
  have e : (ws.map tx).map (fun s => s.data.toList) = ws := by
    rw [List.map_map]
    exact (List.map_congr_left fun a _ => rfl).trans (List.map_id ws)
  dsimp only
  rw [e]
  show Evt (fun n => if (ws.map tx).length ≤ 140737488355328 ∧ (Lib.join ws s).length ≤ 140737488355328 then some ((tx (Lib.join ws s), ()), (ws.map tx, ())) else none) _
  rw [if_pos ⟨by simp; omega, by omega⟩]
  exact Evt.some _
/- impl.ProgramText -/
theorem e18 (p : Prg) (hr : RngPg p) : Evt (fun n => call T C n 18 (p, ())) ((ptR p, ()), ()) := by
  refine Evt.next (Evt.bind (e43 p hr) ?_) (fun n => r18 n p)
  unfold ptR
  cases h : okPg p with
  | false => exact Evt.yes rfl (Evt.some _)
  | true =>
    have G := goodPg hr h
    have hn := G.n
    have ht := G.t
    obtain ⟨t, et⟩ : ∃ t : Nat, p.1 = t := ⟨p.1.toNat, by omega⟩
    have c32 : (⟨#[32]⟩ : ByteArray) = tx [32] := rfl
    have c58 : (⟨#[58]⟩ : ByteArray) = tx [58] := rfl
    refine Evt.no (by simp) ?_
    rw [wrap_id (x := p.1) (by omega) (by omega)]
    have hD := e37 t (by omega)
    rw [← et] at hD
    have ett : p.1.toNat = t := by omega
    refine Evt.bind hD ?_
    refine for_evt' 0 (p.2.1.length : Int) (fun i (_ : Unit) => ((pgW p.1 (p.2.1.take i.toNat)).map tx, p.2.1, (p.2.1.length : Int), i, ())) (fun _ _ => True) (b0 := ()) (by simp [pgW, ett]) (by omega) trivial ?_ ?_
    · intro i _ h2 h3 _
      obtain ⟨v, hv⟩ := at_of h2 h3
      obtain ⟨g1, g2, g3⟩ := G.el v hv.mem
      have hrv := hr.m.el v hv.mem
      obtain ⟨a, ea⟩ : ∃ a : Nat, v.2.1 = a := ⟨v.2.1.toNat, by omega⟩
      obtain ⟨b, eb⟩ : ∃ b : Nat, v.2.2.1 = b := ⟨v.2.2.1.toNat, by omega⟩
      have hA := e37 a (by omega)
      have hB := e37 b (by omega)
      rw [← ea] at hA
      rw [← eb] at hB
      have z1 := dec_len (u := a) (by omega)
      have z2 := dec_len (u := b) (by omega)
      have hJ := (pgW_len hr.m hr.t.2 hn.2 i.toNat).2
      have hJ2 : ((pgW p.1 (p.2.1.take i.toNat)).map tx).length ≤ 25 := by simpa using hJ
      have hcut := ltr_cut g1.1 g1.2
      refine Round.yes (decide_eq_true h3) (Round.at hv.idx ?_)
      simp only [wr_i8 (x := v.1 + 1) (by omega) (by omega), hr.m.i2 hv.mem, hr.m.i3 hv.mem, hcut, c58, tx_app]
      refine Round.chk (decide_eq_true ⟨g1.1, by omega, by show v.1 + 1 ≤ 4; omega⟩) (Round.bind hA ?_)
      simp only [tx_app]
      refine Round.chk (szT (by simp) (by omega)) (Round.chk (szT (by simp; omega) (by simp)) (Round.bind hB ?_))
      simp only [tx_app]
      refine Round.chk (szT (by simp; omega) (by omega)) (Round.chk (decide_eq_true (by simp only [List.length_cons, List.length_nil]; omega)) (Round.again _ ⟨(), ?_, trivial⟩))
      rw [hv.take, pgW_snoc, wr_succ h2 h3 (by omega)]
      have : motW v = ltr v.1 :: (Lib.decDigits a ++ 58 :: Lib.decDigits b) := by unfold motW; rw [ea, eb]; rfl
      rw [this]
      simp
    · intro _ _
      obtain ⟨hJ, hJl⟩ := pgW_len hr.m hr.t.2 hn.2 p.2.1.length
      rw [List.take_length] at hJ hJl
      simp only [take_all, c32]
      exact Round.no (by simp) (Round.done (Evt.bind (e38 (pgW p.1 p.2.1) [32] (by omega) (by omega)) (Evt.some _)))
/- laws.eqMotion -/
theorem e77 (v : Ct) : Evt (fun n => call T C n 77 (v, v, ())) ((true, ()), ()) := Evt.next (Evt.no (by simp) (Evt.no (by simp) (Evt.no (by simp) (Evt.some _)))) (fun n => r77 n v v)
/- laws.eqMotionS -/
theorem e44 (l : List Ct) (hl : (l.length : Int) ≤ 140737488351232) : Evt (fun n => call T C n 44 (l, l, ())) ((true, ()), ()) := by
  refine Evt.next (Evt.no (by simp) ?_) (fun n => r44 n l l)
  refine for_evt 0 (l.length : Int) (fun i (_ : Unit) => (l, l, i, ())) (fun _ _ => True) (b0 := ()) (by omega) trivial ?_ ?_
  · intro i _ h2 h3 _
    obtain ⟨v, hv⟩ := at_of h2 h3
    refine Round.yes (decide_eq_true h3) (Round.at hv.idx (Round.at hv.idx (Round.bind (e77 v) (Round.no (by simp) (Round.again _ ⟨(), ?_, trivial⟩)))))
    rw [wr_succ h2 h3 (by omega)]
  · intro _ _
    exact Round.no (by simp) (Round.done (Evt.some _))
/- laws.eqProgram -/
theorem e19 (p : Prg) (hl : (p.2.1.length : Int) ≤ 140737488351232) : Evt (fun n => call T C n 19 (p, p, ())) ((true, ()), ()) := Evt.next (Evt.no (by simp) (Evt.bind (e44 p.2.1 hl) (Evt.no (by simp) (Evt.some _)))) (fun n => r19 n p p)
/- laws.FnExactProgramText -/
theorem e5 (p : Prg) (hd : DomA (C 5).params (p, ())) : Evt (fun n => call T C n 5 (p, ())) ((true, ()), ()) := by
  have hR : RngPg p := rngPg_of hd.1
  have hl := hR.m.len'
  obtain ⟨sz, hsz⟩ := e15 p 1048576
  refine Evt.next (Evt.bind hsz (Evt.ite (fun _ => Evt.some _) (fun _ => ?_))) (fun n => r5 n p)
  have to1 := e17 p hR
  refine Evt.bind to1 (Evt.bind (e16 p hR) (Evt.bind to1 (Evt.bind (e18 p hR) (Evt.no (by simp) ?_))))
  exact Evt.bind to1 (Evt.bind (e19 p (by omega)) (Evt.no (by simp) (Evt.some _)))

end Go.Cams.YtjfkgmidnjiofaaDoorLProgramText
