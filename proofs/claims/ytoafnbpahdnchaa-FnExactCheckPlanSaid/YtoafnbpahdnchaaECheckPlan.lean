/- What the functions that the law reaches come to. -/
import Derived.Test.YtoafnbpahdnchaaRCheckPlan
import Derived.Test.YtoafnbpahdnchaaPuAll
namespace Go.Cams.YtoafnbpahdnchaaLCheckPlan
open Go Go.Fw Go.Proofs Go.Proofs.Ytoafnbpahdnchaa.LCheckPlan
/- laws.szCutter -/
theorem e54 (l : List Int) (a : Int) : Evt (fun n => call T C n 54 (l, a, ())) ((sz1 l a, ()), ()) := by
  refine Evt.next ?_ (fun n => r54 n l a)
  unfold sz1
  refine Evt.ite (fun h => ?_) (fun h => ?_)
  · rw [if_pos (of_decide_eq_true h)]; exact Evt.some _
  · rw [if_neg (by simpa using h)]; exact Evt.some _
/- laws.szCutterS -/
theorem e7 (K : List (List Int)) (hl : (K.length : Int) ≤ 140737488351232) (a : Int) : Evt (fun n => call T C n 7 (K, a, ())) ((szL K a, ()), ()) := by
  refine Evt.next ?_ (fun n => r7 n K a)
  unfold szL
  refine Evt.ite (fun h => ?_) (fun h => ?_)
  · rw [if_pos (of_decide_eq_true h)]; exact Evt.some _
  · rw [if_neg (by simpa using h)]
    generalize wr .i64 (a - (K.length : Int)) = b
    refine for_evt' 0 (K.length : Int) (fun i (c : Int) => (K, c, i, ())) (fun i c => szLf K b = szLf (K.drop i.toNat) c) (b0 := b) rfl (by omega) (by simp) ?_ ?_
    · intro i c h2 h3 hp
      obtain ⟨v, hv⟩ := at_of h2 h3
      rw [hv.drop] at hp
      simp only [szLf] at hp
      refine Round.yes (decide_eq_true h3) (Round.at hv.idx (Round.bind (e54 v c) (Round.ite (fun hb => ?_) (fun hb => ?_))))
      · rw [hp, if_pos (of_decide_eq_true hb)]
        exact Round.done (Evt.some _)
      · rw [if_neg (by simpa using hb)] at hp
        exact Round.again _ ⟨sz1 v c, by rw [wr_succ h2 h3 (by omega)], hp⟩
    · intro c hp
      rw [drop_all] at hp
      rw [hp]
      exact Round.no (by simp) (Round.done (Evt.some _))
/- laws.szCutS -/
theorem e8 (l : List Ct) (a : Int) : Evt (fun n => call T C n 8 (l, a, ())) (((if wr .i64 (a - (l.length : Int)) < 0 then -1 else wr .i64 (a - (l.length : Int))), ()), ()) := by
  refine Evt.next ?_ (fun n => r8 n l a)
  refine Evt.ite (fun h => ?_) (fun h => ?_)
  · rw [if_pos (of_decide_eq_true h)]; exact Evt.some _
  · rw [if_neg (by simpa using h)]; exact Evt.some _
/- laws.toCam -/
theorem e10 (l : List Int) (hl : (l.length : Int) * 2 ≤ 140737488351232) : Evt (fun n => call T C n 10 (l, ())) ((l, ()), ()) := by
  refine Evt.next (Evt.chk (by simp; omega) ?_) (fun n => r10 n l)
  refine for_evt 0 (l.length : Int) (fun i (b : List Int) => (l, b, i, ())) (fun i b => b.length = l.length ∧ b.take i.toNat = l.take i.toNat) (b0 := List.replicate (Int.toNat (l.length : Int)) 0) (by omega) ⟨by simp, by simp⟩ ?_ ?_
  · intro i b h2 h3 ⟨hb, ht⟩
    have hi : i < (b.length : Int) := by omega
    obtain ⟨v, hv⟩ := at_of h2 h3
    obtain ⟨u, hu⟩ := get_of_lt h2 hi
    refine Round.yes (decide_eq_true h3) (Round.at hv.idx (Round.chk (chk_at h2 hi) (Round.at hu (Round.again _ ⟨b.set i.toNat v, ?_, by simpa using hb, ?_⟩))))
    · rw [wr_succ h2 h3 (by omega)]
    · rw [take_set_succ h2 hi, ht, hv.take]
  · intro b ⟨hb, ht⟩
    have e : b = l := by rw [← take_all b, hb, ht]; simp
    rw [e]
    exact Round.no (by simp) (Round.done (Evt.some _))
/- laws.toCutter -/
theorem e57 (l : List Int) (hl : (l.length : Int) * 2 ≤ 140737488351232) : Evt (fun n => call T C n 57 (l, ())) ((l, ()), ()) := by
  refine Evt.next (Evt.chk (by simp; omega) ?_) (fun n => r57 n l)
  refine for_evt 0 (l.length : Int) (fun i (b : List Int) => (l, b, i, ())) (fun i b => b.length = l.length ∧ b.take i.toNat = l.take i.toNat) (b0 := List.replicate (Int.toNat (l.length : Int)) 0) (by omega) ⟨by simp, by simp⟩ ?_ ?_
  · intro i b h2 h3 ⟨hb, ht⟩
    have hi : i < (b.length : Int) := by omega
    obtain ⟨v, hv⟩ := at_of h2 h3
    obtain ⟨u, hu⟩ := get_of_lt h2 hi
    refine Round.yes (decide_eq_true h3) (Round.at hv.idx (Round.chk (chk_at h2 hi) (Round.at hu (Round.again _ ⟨b.set i.toNat v, ?_, by simpa using hb, ?_⟩))))
    · rw [wr_succ h2 h3 (by omega)]
    · rw [take_set_succ h2 hi, ht, hv.take]
  · intro b ⟨hb, ht⟩
    have e : b = l := by rw [← take_all b, hb, ht]; simp
    rw [e]
    exact Round.no (by simp) (Round.done (Evt.some _))
/- laws.toCutterS -/
theorem e11 (K : List (List Int)) (hr : RngS K) : Evt (fun n => call T C n 11 (K, ())) ((K, ()), ()) := by
  have hl := hr.len
  refine Evt.next (Evt.chk (by simp; omega) ?_) (fun n => r11 n K)
  refine for_evt' 0 (K.length : Int) (fun i (b : List (List Int)) => (K, b, i, ())) (fun i b => b.length = K.length ∧ b.take i.toNat = K.take i.toNat) (b0 := List.replicate (Int.toNat (K.length : Int)) []) rfl (by omega) ⟨by simp, by simp⟩ ?_ ?_
  · intro i b h2 h3 ⟨hb, ht⟩
    have hi : i < (b.length : Int) := by omega
    obtain ⟨v, hv⟩ := at_of h2 h3
    obtain ⟨u, hu⟩ := get_of_lt h2 hi
    refine Round.yes (decide_eq_true h3) (Round.at hv.idx (Round.bind (e57 v (hr.el v hv.mem).len) (Round.chk (chk_at h2 hi) (Round.at hu (Round.again _ ⟨b.set i.toNat v, ?_, by simpa using hb, ?_⟩)))))
    · rw [wr_succ h2 h3 (by omega)]
    · rw [take_set_succ h2 hi, ht, hv.take]
  · intro b ⟨hb, ht⟩
    have e : b = K := by rw [← take_all b, hb, ht]; simp
    rw [e]
    exact Round.no (by simp) (Round.done (Evt.some _))
/- laws.toCut -/
theorem e58 (v : Ct) : Evt (fun n => call T C n 58 (v, ())) ((v, ()), ()) := Evt.next (Evt.some ((v, ()), ())) (fun n => r58 n v)
/- laws.toCutS -/
theorem e12 (l : List Ct) (hr : RngC l) : Evt (fun n => call T C n 12 (l, ())) ((l, ()), ()) := by
  have hl := hr.len
  refine Evt.next (Evt.chk (by simp; omega) ?_) (fun n => r12 n l)
  refine for_evt' 0 (l.length : Int) (fun i (b : List Ct) => (l, b, i, ())) (fun i b => b.length = l.length ∧ b.take i.toNat = l.take i.toNat) (b0 := List.replicate (Int.toNat (l.length : Int)) (0, 0, 0, ())) rfl (by omega) ⟨by simp, by simp⟩ ?_ ?_
  · intro i b h2 h3 ⟨hb, ht⟩
    have hi : i < (b.length : Int) := by omega
    obtain ⟨v, hv⟩ := at_of h2 h3
    obtain ⟨u, hu⟩ := get_of_lt h2 hi
    refine Round.yes (decide_eq_true h3) (Round.at hv.idx (Round.bind (e58 v) (Round.chk (chk_at h2 hi) (Round.at hu (Round.again _ ⟨b.set i.toNat v, ?_, by simpa using hb, ?_⟩)))))
    · rw [wr_succ h2 h3 (by omega)]
    · rw [take_set_succ h2 hi, ht, hv.take]
  · intro b ⟨hb, ht⟩
    have e : b = l := by rw [← take_all b, hb, ht]; simp
    rw [e]
    exact Round.no (by simp) (Round.done (Evt.some _))
/- spec.l00In -/
theorem e129 (a b c : Int) : Evt (fun n => call T C n 129 (a, b, c, ())) ((inR a b c, ()), ()) := by
  refine Evt.next ?_ (fun n => r129 n a b c)
  refine Evt.ite (fun h => ?_) (fun h => ?_)
  · refine (Evt.some _).of_eq fun n => ?_
    have h : b ≤ a := of_decide_eq_true h
    simp [inR, h]
    rfl
  · refine (Evt.some _).of_eq fun n => ?_
    have h : ¬ b ≤ a := by simpa using h
    simp [inR, h]
    rfl
/- spec.l01Steps -/
theorem e159 (a : Int) : Evt (fun n => call T C n 159 (a, ())) ((inR a 8 360, ()), ()) := Evt.next (Evt.bind (e129 a 8 360) (Evt.some _)) (fun n => r159 n a)
/- spec.l01Lift -/
theorem e65 (a : Int) : Evt (fun n => call T C n 65 (a, ())) ((inR a 0 10000, ()), ()) := Evt.next (Evt.bind (e129 a 0 10000) (Evt.some _)) (fun n => r65 n a)
/- spec.l01Ok -/
theorem e113 (l : List Int) (hl : (l.length : Int) ≤ 140737488351232) : Evt (fun n => call T C n 113 (l, ())) ((okC l, ()), ()) := by
  refine Evt.next ?_ (fun n => r113 n l)
  refine Evt.bind (e159 _) ?_
  refine Evt.ite (fun h => ?_) (fun h => ?_)
  · refine (Evt.some _).of_eq fun n => ?_
    have h : inR (l.length : Int) 8 360 = false := by simpa using h
    simp [okC, h]
    rfl
  · have h : inR (l.length : Int) 8 360 = true := by simpa using h
    have he : okC l = l.all okV := by simp [okC, h]
    rw [he]
    refine loop_evt (fun (x : List Int × Int × Unit) => x.1 = l ∧ 0 ≤ x.2.1 ∧ x.2.1 ≤ (l.length : Int) ∧ l.all okV = (l.drop x.2.1.toNat).all okV) (fun (x : List Int × Int × Unit) => ((l.length : Int) - x.2.1).toNat) (x := (l, 0, ())) ⟨rfl, Int.le_refl _, by simp, by simp⟩ ?_
    rintro ⟨x1, i, _⟩ ⟨h', h0, h1, h2⟩
    simp only at h' h0 h1 h2
    subst h'
    refine Round.ite (fun hlt => ?_) (fun hge => ?_)
    · have hlt : i < (x1.length : Int) := of_decide_eq_true hlt
      obtain ⟨v, hv, hv'⟩ := idx_at h0 hlt
      have hd := drop_cons hv'
      refine Round.at hv (Round.bind (e65 _) (Round.ite (fun hb => ?_) (fun hb => ?_)))
      · have hb : okV v = false := by simpa [okV] using hb
        have h3 : x1.all okV = false := by rw [h2, hd]; simp [hb]
        rw [h3]
        exact Round.done (Evt.some _)
      · have hb : okV v = true := by simpa [okV] using hb
        have hw : wr .i64 (i + 1) = i + 1 := wrap_id (by omega) (by omega)
        refine Round.again _ ⟨⟨rfl, ?_, ?_, ?_⟩, ?_⟩ <;> simp only [hw]
        · omega
        · omega
        · rw [h2, hd, show (i + 1).toNat = i.toNat + 1 by omega]
          simp [hb]
        · omega
    · have hge : ¬ i < (x1.length : Int) := by simpa using hge
      have : x1.drop i.toNat = [] := List.drop_of_length_le (by omega)
      rw [h2, this]
      exact Round.done (Evt.some _)
/- spec.l06Some -/
theorem e167 (K : List (List Int)) : Evt (fun n => call T C n 167 (K, ())) ((inR (K.length : Int) 1 8, ()), ()) := Evt.next (Evt.bind (e129 _ _ _) (Evt.some _)) (fun n => r167 n K)
/- spec.l06Ok -/
theorem e96 (k : List Int) (hr : Rng k) : Evt (fun n => call T C n 96 (k, ())) ((okK k, ()), ()) := by
  have hl := hr.len'
  refine Evt.next (Evt.bind (e129 _ _ _) ?_) (fun n => r96 n k)
  unfold okK
  cases h1 : inR (k.length : Int) 1 31 with
  | false => exact Evt.yes rfl (Evt.some _)
  | true =>
    have hb := inR_iff.1 h1
    have hm : Int.tmod (k.length : Int) 2 = ((k.length % 2 : Nat) : Int) := by rw [show (2 : Int) = ((2 : Nat) : Int) from rfl, ← Int.ofNat_tmod]
    have hd : Int.tdiv (k.length : Int) 2 = ((k.length / 2 : Nat) : Int) := by rw [show (2 : Int) = ((2 : Nat) : Int) from rfl, ← Int.ofNat_tdiv]
    rw [hm, hd, wrap_id (x := ((k.length / 2 : Nat) : Int)) (by omega) (by omega)]
    refine Evt.no (by simp) (Evt.chk rfl (Evt.ite (fun h => ?_) (fun h => ?_)))
    · have h : k.length % 2 = 0 := by
        have h' : (k.length : Int) % 2 = 0 := by simpa using h
        omega
      have e : decide (k.length % 2 = 1) = false := decide_eq_false (by omega)
      rw [e]; exact Evt.some _
    · have h : k.length % 2 = 1 := by
        have h' : ¬ (k.length : Int) % 2 = 0 := by simpa using h
        omega
      have e : decide (k.length % 2 = 1) = true := decide_eq_true h
      rw [e]
      have hmid := g_idx (l := k) (i := ((k.length / 2 : Nat) : Int)) (by omega) (by omega)
      rw [Int.toNat_natCast] at hmid
      refine Evt.chk rfl (Evt.at hmid.idx (Evt.ite (fun h0 => ?_) (fun h0 => ?_)))
      · have h0 : (g k (k.length / 2) == 0) = false := by simpa using h0
        rw [h0]; exact Evt.some _
      · have h0 : (g k (k.length / 2) == 0) = true := by simpa using h0
        rw [h0]
        simp only [Bool.true_and]
        refine for_evt' 0 (((k.length / 2 : Nat) : Int) + 1) (fun i (_ : Unit) => (k, (k.length : Int), i, ())) (fun i _ => allTo (kOne k) i.toNat = true) (b0 := ()) rfl (by omega) (by rfl) ?_ ?_
        · intro i _ h2 h3 hp
          obtain ⟨a, rfl⟩ : ∃ a : Nat, i = a := ⟨i.toNat, by omega⟩
          rw [Int.toNat_natCast] at hp
          have h3' : a < k.length / 2 + 1 := by omega
          have hai := g_idx (l := k) (i := (a : Int)) (by omega) (by omega)
          have haj := g_idx (l := k) (i := (k.length : Int) - 1 - a) (by omega) (by omega)
          rw [Int.toNat_natCast] at hai
          rw [show ((k.length : Int) - 1 - a).toNat = k.length - 1 - a by omega] at haj
          have bad : kOne k a = false → allTo (kOne k) (k.length / 2 + 1) = false := allTo_false h3'
          simp only [hd, wrap_id (x := ((k.length / 2 : Nat) : Int)) (by omega) (by omega), wrap_id (x := (a : Int) + 1) (by omega) (by omega), wrap_id (x := (a : Int) - 1) (by omega) (by omega), wrap_id (x := (k.length : Int) - 1) (by omega) (by omega), wrap_id (x := (k.length : Int) - 1 - (a : Int)) (by omega) (by omega)]
          refine Round.chk rfl (Round.yes (decide_eq_true (by omega)) (Round.at hai.idx (Round.bind (e65 _) (Round.ite (fun c1 => ?_) (fun c1 => ?_)))))
          · have c1 : inR (wr .i64 (g k a)) 0 10000 = false := by simpa using c1
            rw [bad (by simp [kOne, c1])]
            exact Round.done (Evt.some _)
          have c1 : inR (wr .i64 (g k a)) 0 10000 = true := by simpa using c1
          refine Round.at haj.idx (Round.at hai.idx (Round.ite (fun c2 => ?_) (fun c2 => ?_)))
          · have c2 : (g k (k.length - 1 - a) == g k a) = false := by simpa using c2
            rw [bad (by simp [kOne, c2])]
            exact Round.done (Evt.some _)
          have c2 : (g k (k.length - 1 - a) == g k a) = true := by simpa using c2
          have again : kOne k a = true → ∃ b' : Unit, ((k, (k.length : Int), (a : Int) + 1, ()) : List Int × Int × Int × Unit) = (k, (k.length : Int), (a : Int) + 1, ()) ∧ allTo (kOne k) ((a : Int) + 1).toNat = true := fun h => ⟨(), rfl, by rw [show ((a : Int) + 1).toNat = a + 1 by omega, allTo_succ, hp, h]; rfl⟩
          refine Round.ite (fun c3 => ?_) (fun c3 => ?_)
          · have c3 : (a : Int) > 0 := of_decide_eq_true c3
            have hab := g_idx (l := k) (i := (a : Int) - 1) (by omega) (by omega)
            rw [show ((a : Int) - 1).toNat = a - 1 by omega] at hab
            refine Round.at hab.idx (Round.at hai.idx (Round.ite (fun c4 => ?_) (fun c4 => ?_)))
            · have c4 : g k (a - 1) < g k a := by simpa using c4
              rw [bad (by simp [kOne, c4]; omega)]
              exact Round.done (Evt.some _)
            · have c4 : ¬ g k (a - 1) < g k a := by simpa using c4
              exact Round.again _ (again (by simp only [kOne, c1, c2]; simp; omega))
          · have c3 : ¬ (a : Int) > 0 := by simpa using c3
            exact Round.no (by simp) (Round.again _ (again (by simp only [kOne, c1, c2]; simp; omega)))
        · intro _ hp
          have hp : allTo (kOne k) (k.length / 2 + 1) = true := by
            rw [show (((k.length / 2 : Nat) : Int) + 1).toNat = k.length / 2 + 1 by omega] at hp; exact hp
          rw [hp]
          simp only [hd, wrap_id (x := ((k.length / 2 : Nat) : Int)) (by omega) (by omega)]
          exact Round.chk rfl (Round.no (by simp; omega) (Round.done (Evt.some _)))
/- spec.l06Cutters -/
theorem e168 (K : List (List Int)) (hr : RngS K) : Evt (fun n => call T C n 168 (K, ())) ((okKs K, ()), ()) := by
  have hl := hr.len'
  refine Evt.next ?_ (fun n => r168 n K)
  refine for_evt' 0 (K.length : Int) (fun i (_ : Unit) => (K, i, ())) (fun i _ => okKs K = (K.drop i.toNat).all okK) (b0 := ()) rfl (by omega) (by simp [okKs]) ?_ ?_
  · intro i _ h2 h3 hp
    obtain ⟨v, hv⟩ := at_of h2 h3
    rw [hv.drop, List.all_cons] at hp
    refine Round.yes (decide_eq_true h3) (Round.at hv.idx (Round.bind (e96 v (hr.el v hv.mem)) ?_))
    cases hb : okK v with
    | false => rw [hp, hb]; exact Round.yes rfl (Round.done (Evt.some _))
    | true =>
      rw [hb, Bool.true_and] at hp
      exact Round.no (by simp) (Round.again _ ⟨(), by rw [wr_succ h2 h3 (by omega)], hp⟩)
  · intro _ hp
    rw [drop_all] at hp
    rw [hp]
    exact Round.no (by simp) (Round.done (Evt.some _))
/- spec.l06Plain -/
theorem e169 (l : List Ct) (m : Int) : Evt (fun n => call T C n 169 (l, m, ())) ((okCt l m, ()), ()) := by
  refine Evt.next ?_ (fun n => r169 n l m)
  unfold okCt
  refine Evt.ite (fun h => ?_) (fun h => ?_)
  · have h : (l.length : Int) > 400 := of_decide_eq_true h
    rw [decide_eq_false (show ¬ (l.length : Int) ≤ 400 by omega)]
    exact Evt.some _
  have h : ¬ (l.length : Int) > 400 := by simpa using h
  rw [decide_eq_true (show (l.length : Int) ≤ 400 by omega)]
  simp only [Bool.true_and]
  refine for_evt' 0 (l.length : Int) (fun i (_ : Unit) => (l, m, i, ())) (fun i _ => l.all (ctOk m) = (l.drop i.toNat).all (ctOk m)) (b0 := ()) rfl (by omega) (by simp) ?_ ?_
  · intro i _ h2 h3 hp
    obtain ⟨v, hv⟩ := at_of h2 h3
    have bad : ctOk m v = false → l.all (ctOk m) = false := all_false hv.mem
    rw [hv.drop, List.all_cons] at hp
    refine Round.yes (decide_eq_true h3) (Round.at hv.idx (Round.bind (e129 _ _ _) ?_))
    cases c1 : inR (wr .i64 v.1) 0 359 with
    | false => rw [bad (by simp [ctOk, c1])]; exact Round.yes rfl (Round.done (Evt.some _))
    | true =>
      refine Round.no (by simp) (Round.bind (e65 _) ?_)
      cases c2 : inR (wr .i64 v.2.1) 0 10000 with
      | false => rw [bad (by simp [ctOk, c2])]; exact Round.yes rfl (Round.done (Evt.some _))
      | true =>
        refine Round.no (by simp) (Round.bind (e129 _ _ _) ?_)
        cases c3 : inR (wr .i64 v.2.2.1) 0 (wr .i64 (m - 1)) with
        | false => rw [bad (by simp [ctOk, c3])]; exact Round.yes rfl (Round.done (Evt.some _))
        | true =>
          have : ctOk m v = true := by simp [ctOk, c1, c2, c3]
          rw [this, Bool.true_and] at hp
          exact Round.no (by simp) (Round.again _ ⟨(), by rw [wr_succ h2 h3 (by omega)], hp⟩)
  · intro _ hp
    rw [drop_all] at hp
    rw [hp]
    exact Round.no (by simp) (Round.done (Evt.some _))
/- spec.l06Cuts -/
theorem e123 (l : List Ct) (K : List (List Int)) (hk : RngS K) : Evt (fun n => call T C n 123 (l, K, ())) ((okCuts l K, ()), ()) := by
  refine Evt.next (Evt.bind (e167 K) ?_) (fun n => r123 n l K)
  unfold okCuts
  cases inR (K.length : Int) 1 8 with
  | false => exact Evt.no (by simp) (Evt.some _)
  | true =>
    refine Evt.yes rfl (Evt.bind (e168 K hk) ?_)
    cases okKs K with
    | false => exact Evt.no (by simp) (Evt.some _)
    | true => exact Evt.yes rfl (Evt.bind (e169 l _) (Evt.some _))
/- spec.l06On -/
theorem e124 (l : List Ct) (hr : RngC l) (m : Int) : Evt (fun n => call T C n 124 (l, m, ())) ((onCt l m, ()), ()) := by
  have hl := hr.len'
  refine Evt.next ?_ (fun n => r124 n l m)
  refine for_evt' 0 (l.length : Int) (fun i (_ : Unit) => (l, m, i, ())) (fun i _ => onCt l m = onCt (l.drop i.toNat) m) (b0 := ()) rfl (by omega) (by simp) ?_ ?_
  · intro i _ h2 h3 hp
    obtain ⟨v, hv⟩ := at_of h2 h3
    rw [hv.drop] at hp
    simp only [onCt, List.all_cons] at hp
    refine Round.yes (decide_eq_true h3) (Round.at hv.idx (Round.ite (fun hb => ?_) (fun hb => ?_)))
    · have e : onCt l m = false := by unfold onCt; rw [hp, hb]; rfl
      rw [e]; exact Round.done (Evt.some _)
    · have hb : decide (wr .i64 v.1 ≥ m) = false := by simpa using hb
      refine Round.again _ ⟨(), by rw [wr_succ h2 h3 (by omega)], ?_⟩
      unfold onCt
      rw [hp, hb]; rfl
  · intro _ hp
    rw [drop_all] at hp
    rw [hp]
    exact Round.no (by simp) (Round.done (Evt.some _))
/- spec.l06Given -/
theorem e55 (c : List Int) (K : List (List Int)) (l : List Ct) (hc : Rng c) (hk : RngS K) (hr : RngC l) : Evt (fun n => call T C n 55 (c, K, l, ())) ((gvCode c K l, ()), ()) := by
  have hcl := hc.len'
  refine Evt.next (Evt.bind (e113 c (by omega)) ?_) (fun n => r55 n c K l)
  unfold gvCode
  cases okC c with
  | false => exact Evt.yes rfl (Evt.some _)
  | true =>
    refine Evt.no (by simp) (Evt.bind (e123 l K hk) ?_)
    cases okCuts l K with
    | false => exact Evt.yes rfl (Evt.some _)
    | true =>
      refine Evt.no (by simp) (Evt.bind (e124 l hr _) ?_)
      cases onCt l c.length with
      | false => exact Evt.yes rfl (Evt.some _)
      | true => exact Evt.no (by simp) (Evt.some _)
/- spec.l00Min -/
theorem e153 (a b : Int) : Evt (fun n => call T C n 153 (a, b, ())) ((min a b, ()), ()) := by
  refine Evt.next (Evt.ite (fun h => ?_) (fun h => ?_)) (fun n => r153 n a b)
  · have h : a < b := of_decide_eq_true h
    rw [show min a b = a by omega]; exact Evt.some _
  · have h : ¬ a < b := by simpa using h
    rw [show min a b = b by omega]; exact Evt.some _
/- spec.l00Max -/
theorem e117 (a b : Int) : Evt (fun n => call T C n 117 (a, b, ())) ((max a b, ()), ()) := by
  refine Evt.next (Evt.ite (fun h => ?_) (fun h => ?_)) (fun n => r117 n a b)
  · have h : a > b := of_decide_eq_true h
    rw [show max a b = a by omega]; exact Evt.some _
  · have h : ¬ a > b := by simpa using h
    rw [show max a b = b by omega]; exact Evt.some _
/- spec.l01Range -/
theorem e130 (l : List Int) (hr : Rng l) (h0 : 0 < (l.length : Int)) : Evt (fun n => call T C n 130 (l, ())) ((mnL l, mxL l, ()), ()) := by
  have hlen := hr.len'
  obtain ⟨v0, hv0⟩ := at_of (l := l) (Int.le_refl 0) h0
  refine Evt.next (Evt.at hv0.idx ?_) (fun n => r130 n l)
  rw [hr.id hv0.mem]
  have hh := (head_at hv0).1
  refine for_evt' 1 (l.length : Int) (fun i (_ : Unit) => (l, mnF (l.take i.toNat) v0, mxF (l.take i.toNat) v0, i, ())) (fun _ _ => True) (b0 := ()) (by
    have := (head_at hv0).2
    show _ = (l, mnF (l.take 1) v0, mxF (l.take 1) v0, 1, ())
    rw [this]; simp [mnF, mxF]) (by omega) trivial ?_ ?_
  · intro i _ h2 h3 _
    obtain ⟨v, hv⟩ := at_of (l := l) (show 0 ≤ i by omega) h3
    simp only [wrap_id (x := i + 1) (by omega) (by omega)]
    refine Round.yes (decide_eq_true h3) (Round.at hv.idx (Round.bind (e153 _ _) (Round.at hv.idx (Round.bind (e117 _ _) (Round.again _ ⟨(), ?_, trivial⟩)))))
    rw [hv.take, mnF_snoc, mxF_snoc, hr.id hv.mem]
  · intro _ _
    have e1 : mnF (l.take (l.length : Int).toNat) v0 = mnL l := by rw [take_all, mnL, hh]
    have e2 : mxF (l.take (l.length : Int).toNat) v0 = mxL l := by rw [take_all, mxL, hh]
    simp only [e1, e2]
    exact Round.no (by simp) (Round.done (Evt.some _))
/- spec.l06Over -/
theorem e66 (c : List Int) (hr : Rng c) (h0 : 0 < (c.length : Int)) (x : Int) : Evt (fun n => call T C n 66 (c, x, ())) ((decide (mxL c > x), ()), ()) := Evt.next (Evt.bind (e130 c hr h0) (Evt.some _)) (fun n => r66 n c x)
/- spec.l01At -/
theorem e161 {l : List Int} (hr : Rng l) (h0 : 0 < (l.length : Int)) (h1 : (l.length : Int) ≤ 1000000) {x : Int} (hx : -4000000 ≤ x) (hx' : x ≤ 4000000) : ∃ v, l[(x % l.length).toNat]? = some v ∧ v ∈ l ∧ Evt (fun n => call T C n 161 (l, x, ())) ((v, ()), ()) := by
  have hp := Int.emod_nonneg x (show (l.length : Int) ≠ 0 by omega)
  obtain ⟨v, hv⟩ := at_of (l := l) hp (Int.emod_lt_of_pos x h0)
  refine ⟨v, hv.get, hv.mem, ?_⟩
  refine Evt.next (Evt.chk (bne_pos h0) (Evt.chk (bne_pos h0) ?_)) (fun n => r161 n l x)
  rw [turn_at h0 h1 hx hx']
  refine Evt.at hv.idx ((Evt.some _).of_eq fun n => ?_)
  rw [hr.id hv.mem]
  rfl
theorem e161' {l : List Int} (hr : Rng l) (h0 : 0 < (l.length : Int)) (h1 : (l.length : Int) ≤ 1000000) {x : Int} (hx : -4000000 ≤ x) (hx' : x ≤ 4000000) : Evt (fun n => call T C n 161 (l, x, ())) ((cAt l x, ()), ()) := by
  obtain ⟨v, hv, hm, he⟩ := e161 hr h0 h1 hx hx'
  have : cAt l x = v := by unfold cAt g; rw [List.getD_eq_getElem?_getD, hv]; rfl
  rw [this]; exact he
/- spec.l06Tip -/
theorem e131 {c k : List Int} (hc : Rng c) (hk : Rng k) (hl0 : 0 < c.length) (hl1 : c.length ≤ 1000) (hC : ∀ v ∈ c, 0 ≤ v ∧ v ≤ 10000) (G : GoodK k) {s : Int} (h0 : 0 ≤ s) (h1 : s ≤ 1000000) : Evt (fun n => call T C n 131 (c, k, s, ())) ((tip c k s, ()), ()) := by
  have hd : Int.tdiv (k.length : Int) 2 = ((k.length / 2 : Nat) : Int) := by rw [show (2 : Int) = ((2 : Nat) : Int) from rfl, ← Int.ofNat_tdiv]
  have hlo := G.lo
  have hhi := G.hi
  have hodd := G.odd
  refine Evt.next (Evt.chk rfl ?_) (fun n => r131 n c k s)
  rw [hd, wrap_id (x := ((k.length / 2 : Nat) : Int)) (by omega) (by omega), wrap_id (x := 0 - ((k.length / 2 : Nat) : Int)) (by omega) (by omega)]
  refine for_evt' 0 (k.length : Int) (fun i (_ : Unit) => (c, k, s, ((k.length / 2 : Nat) : Int), tipTo c k s i.toNat, i - ((k.length / 2 : Nat) : Int), ())) (fun _ _ => True) (b0 := ()) rfl (by omega) trivial ?_ ?_
  · intro i _ h2 h3 _
    obtain ⟨a, rfl⟩ : ∃ a : Nat, i = a := ⟨i.toNat, by omega⟩
    have hai := g_idx (l := k) (i := (a : Int)) (by omega) (by omega)
    rw [Int.toNat_natCast] at hai
    have hbd := tipTo_bd hl0 hC G.el s a (by omega)
    have hck := hC _ (cAt_mem hl0 (s + ((a : Int) - ((k.length / 2 : Nat) : Int))))
    have hka := G.el a (by omega)
    simp only [wrap_id (x := s + ((a : Int) - ((k.length / 2 : Nat) : Int))) (by omega) (by omega), show ((k.length / 2 : Nat) : Int) + ((a : Int) - ((k.length / 2 : Nat) : Int)) = a by omega, wrap_id (x := (a : Int)) (by omega) (by omega), wrap_id (x := (a : Int) - ((k.length / 2 : Nat) : Int) + 1) (by omega) (by omega)]
    refine Round.yes (decide_eq_true (by omega)) (Round.bind (e161' hc (by omega) (by omega) (by omega) (by omega)) (Round.at hai.idx (Round.bind (e117 _ _) (Round.again _ ⟨(), ?_, trivial⟩))))
    rw [hk.id (g_mem (by omega)), wrap_id (x := cAt c (s + ((a : Int) - ((k.length / 2 : Nat) : Int))) - g k a) (by omega) (by omega)]
    rw [show ((a : Int) + 1).toNat = a + 1 by omega, Int.toNat_natCast]
    rw [tipTo_succ]
    unfold half
    rw [show s + ((a : Int) - ((k.length / 2 : Nat) : Int)) = s + (a : Int) - ((k.length / 2 : Nat) : Int) by omega, show (a : Int) - ((k.length / 2 : Nat) : Int) + 1 = (a : Int) + 1 - ((k.length / 2 : Nat) : Int) by omega]
  · intro _ _
    simp only [Int.toNat_natCast]
    exact Round.no (by simp; omega) (Round.done (Evt.some _))
/- spec.l06Deep -/
theorem e67 (c : List Int) (K : List (List Int)) (l : List Ct) (hc : Rng c) (hk : RngS K) (hr : RngC l) (G : GoodG c K l) : Evt (fun n => call T C n 67 (c, K, l, ())) ((fi (deepF c K) l 0, ()), ()) := by
  have hcl := okC_len G.hc
  have hC := okC_el G.hc hc
  have GK := goodKs hk G.hk
  have hl := G.l
  refine Evt.next ?_ (fun n => r67 n c K l)
  refine for_evt' 0 (l.length : Int) (fun i (_ : Unit) => (c, K, l, i, ())) (fun i _ => fi (deepF c K) l 0 = fi (deepF c K) (l.drop i.toNat) i) (b0 := ()) rfl (by omega) (by simp) ?_ ?_
  · intro i _ h2 h3 hp
    obtain ⟨v, hv⟩ := at_of h2 h3
    obtain ⟨g1, g2, g3⟩ := G.el v hv.mem
    obtain ⟨k, hk'⟩ := at_of (l := K) g3.1 g3.2
    have hkd : K.getD v.2.2.1.toNat [] = k := getD_at hk'
    rw [hv.drop] at hp
    simp only [fi] at hp
    refine Round.yes (decide_eq_true h3) (Round.at hv.idx (Round.at hv.idx (Round.at hk'.idx (Round.at hv.idx ?_))))
    simp only [hr.i1 hv.mem, hr.i2 hv.mem]
    refine Round.bind (e131 hc (hk.el k hk'.mem) (by omega) (by omega) hC (GK.el k hk'.mem) g1.1 (show v.1 ≤ 1000000 by omega)) ?_
    have hdf : deepF c K v = decide (v.2.1 < tip c k v.1) := by unfold deepF; rw [hkd]
    refine Round.ite (fun hb => ?_) (fun hb => ?_)
    · rw [hdf, if_pos hb] at hp
      rw [hp]
      exact Round.done (Evt.some _)
    · rw [hdf, if_neg hb] at hp
      exact Round.again _ ⟨(), by rw [wr_succ h2 h3 (by omega)], hp⟩
  · intro _ hp
    rw [drop_all] at hp
    rw [hp]
    exact Round.no (by simp) (Round.done (Evt.some _))
/- spec.l06Tips -/
theorem e87 {c k : List Int} (hc : Rng c) (hk : Rng k) (hl0 : 0 < c.length) (hl1 : c.length ≤ 1000) (hC : ∀ v ∈ c, 0 ≤ v ∧ v ≤ 10000) (G : GoodK k) : Evt (fun n => call T C n 87 (c, k, ())) ((tipsL c k c.length, ()), ()) := by
  refine Evt.next ?_ (fun n => r87 n c k)
  refine for_evt' 0 (c.length : Int) (fun i (_ : Unit) => (c, k, tipsL c k i.toNat, i, ())) (fun _ _ => True) (b0 := ()) rfl (by omega) trivial ?_ ?_
  · intro i _ h2 h3 _
    refine Round.yes (decide_eq_true h3) (Round.bind (e131 hc hk hl0 hl1 hC G h2 (show i ≤ 1000000 by omega)) (Round.chk (by simp [tipsL_len]; omega) (Round.again _ ⟨(), ?_, trivial⟩)))
    rw [tipsL_succ c k h2, wr_succ h2 h3 (by omega)]
  · intro _ _
    simp only [Int.toNat_natCast]
    exact Round.no (by simp) (Round.done (Evt.some _))
/- spec.l06Cut -/
theorem e125 {o k : List Int} (hk : Rng k) (hl0 : 0 < o.length) (hl1 : o.length ≤ 1000) (ho : ∀ v ∈ o, 0 ≤ v ∧ v ≤ 10000) (G : GoodK k) {s t : Int} (h0 : 0 ≤ s) (h1 : s ≤ 1000000) (t0 : 0 ≤ t) (t1 : t ≤ 1000000) : Evt (fun n => call T C n 125 (o, k, s, t, ())) (((cutTo k s t o k.length).1, (cutTo k s t o k.length).2, ()), ()) := by
  have hd : Int.tdiv (k.length : Int) 2 = ((k.length / 2 : Nat) : Int) := by rw [show (2 : Int) = ((2 : Nat) : Int) from rfl, ← Int.ofNat_tdiv]
  have hlo := G.lo
  have hhi := G.hi
  have hodd := G.odd
  refine Evt.next (Evt.chk (by simp; omega) (Evt.chk rfl ?_)) (fun n => r125 n o k s t)
  rw [hd, wrap_id (x := ((k.length / 2 : Nat) : Int)) (by omega) (by omega), wrap_id (x := 0 - ((k.length / 2 : Nat) : Int)) (by omega) (by omega)]
  refine for_evt' 0 (k.length : Int) (fun i (_ : Unit) => (k, s, t, (cutTo k s t o i.toNat).1, (o.length : Int), ((k.length / 2 : Nat) : Int), (cutTo k s t o i.toNat).2, i - ((k.length / 2 : Nat) : Int), ())) (fun _ _ => True) (b0 := ()) (by simp [cutTo]) (by omega) trivial ?_ ?_
  · intro i _ h2 h3 _
    obtain ⟨a, rfl⟩ : ∃ a : Nat, i = a := ⟨i.toNat, by omega⟩
    have hai := g_idx (l := k) (i := (a : Int)) (by omega) (by omega)
    rw [Int.toNat_natCast] at hai
    have hka := G.el a (by omega)
    obtain ⟨b1, b2, b3⟩ := cutTo_bd k s hl0 t0 (fun i hi => (G.el i hi).1) ho a (by omega)
    have hlen := cutTo_len k s t o a
    have hpl := place_lt k s hl0 a
    have hplace : ((place k s o.length a : Nat) : Int) = (s + (a : Int) - ((k.length / 2 : Nat) : Int)) % (o.length : Int) := by
      have := Int.emod_nonneg (s + (a : Int) - ((k.length / 2 : Nat) : Int)) (show (o.length : Int) ≠ 0 by omega)
      unfold place half
      omega
    have hat := g_idx (l := (cutTo k s t o a).1) (i := ((place k s o.length a : Nat) : Int)) (by omega) (by omega)
    rw [Int.toNat_natCast] at hat
    have hv := b1 _ (g_mem (l := (cutTo k s t o a).1) (i := place k s o.length a) (by omega))
    have hget : (cutTo k s t o a).1[place k s o.length a]? = some (g (cutTo k s t o a).1 (place k s o.length a)) := by have := hat.get; rwa [Int.toNat_natCast] at this
    have hat2 : Int.tmod (wr .i64 (Int.tmod (s + (a : Int) - ((k.length / 2 : Nat) : Int)) (o.length : Int) + (o.length : Int))) (o.length : Int) = ((place k s o.length a : Nat) : Int) := by
      rw [hplace]; exact turn_at (by omega) (by omega) (by omega) (by omega)
    simp only [Int.toNat_natCast, wrap_id (x := s + (a : Int) - ((k.length / 2 : Nat) : Int)) (by omega) (by omega), wrap_id (x := s + ((a : Int) - ((k.length / 2 : Nat) : Int))) (by omega) (by omega), show s + ((a : Int) - ((k.length / 2 : Nat) : Int)) = s + (a : Int) - ((k.length / 2 : Nat) : Int) by omega, hat2, show ((k.length / 2 : Nat) : Int) + ((a : Int) - ((k.length / 2 : Nat) : Int)) = a by omega, wrap_id (x := (a : Int)) (by omega) (by omega), wrap_id (x := (a : Int) - ((k.length / 2 : Nat) : Int) + 1) (by omega) (by omega)]
    refine Round.yes (decide_eq_true (by omega)) (Round.chk (bne_pos (by omega)) (Round.chk (bne_pos (by omega)) (Round.at hai.idx ?_)))
    simp only [hk.id (g_mem (l := k) (i := a) (by omega)), wrap_id (x := t + g k a) (by omega) (by omega)]
    refine Round.chk (decide_eq_true ⟨by omega, by omega⟩) (Round.at hget ?_)
    simp only [wrap_id (x := g (cutTo k s t o a).1 (place k s o.length a)) (by omega) (by omega)]
    refine Round.ite (fun hc => ?_) (fun hc => ?_)
    · have hc : g (cutTo k s t o a).1 (place k s o.length a) > t + g k a := of_decide_eq_true hc
      refine Round.chk (decide_eq_true ⟨by omega, by omega⟩) (Round.at hget (Round.chk (decide_eq_true ⟨by omega, by omega⟩) (Round.at hget (Round.again _ ⟨(), ?_, trivial⟩))))
      rw [show ((a : Int) + 1).toNat = a + 1 by omega, cutTo_succ, if_pos hc, wrap16 (x := t + g k a) (by omega) (by omega), wrap_id (x := g (cutTo k s t o a).1 (place k s o.length a)) (by omega) (by omega), wrap_id (x := g (cutTo k s t o a).1 (place k s o.length a) - (t + g k a)) (by omega) (by omega), wrap_id (x := (cutTo k s t o a).2 + (g (cutTo k s t o a).1 (place k s o.length a) - (t + g k a))) (by omega) (by omega)]
      rw [show (a : Int) - ((k.length / 2 : Nat) : Int) + 1 = (a : Int) + 1 - ((k.length / 2 : Nat) : Int) by omega]
    · have hc : ¬ g (cutTo k s t o a).1 (place k s o.length a) > t + g k a := by simpa using hc
      refine Round.again _ ⟨(), ?_, trivial⟩
      rw [show ((a : Int) + 1).toNat = a + 1 by omega, cutTo_succ, if_neg hc]
      rw [show (a : Int) - ((k.length / 2 : Nat) : Int) + 1 = (a : Int) + 1 - ((k.length / 2 : Nat) : Int) by omega]
  · intro _ _
    simp only [Int.toNat_natCast]
    exact Round.no (by simp; omega) (Round.done (Evt.some _))
/- spec.l06Left -/
theorem e69 {c k : List Int} (hc : Rng c) (hk : Rng k) (hl0 : 0 < c.length) (hl1 : c.length ≤ 1000) (hC : ∀ v ∈ c, 0 ≤ v ∧ v ≤ 10000) (G : GoodK k) : Evt (fun n => call T C n 69 (c, k, ())) ((leftL c k, ()), ()) := by
  refine Evt.next ?_ (fun n => r69 n c k)
  refine for_evt' 0 (c.length : Int) (fun i (_ : Unit) => (c, k, List.replicate i.toNat (10000 : Int), (c.length : Int), i, ())) (fun _ _ => True) (b0 := ()) rfl (by omega) trivial ?_ ?_
  · intro i _ h2 h3 _
    refine Round.yes (decide_eq_true h3) (Round.chk (by simp; omega) (Round.again _ ⟨(), ?_, trivial⟩))
    rw [wr_succ h2 h3 (by omega), show (i + 1).toNat = i.toNat + 1 by omega, List.replicate_succ']
  · intro _ _
    simp only [Int.toNat_natCast]
    refine Round.no (by simp) (Round.bind (e87 hc hk hl0 hl1 hC G) (Round.done ?_))
    refine for_evt' 0 (c.length : Int) (fun i (_ : Unit) => (k, leftTo c k i.toNat, tipsL c k c.length, i, ())) (fun _ _ => True) (b0 := ()) rfl (by omega) trivial ?_ ?_
    · intro i _ h2 h3 _
      obtain ⟨a, rfl⟩ : ∃ a : Nat, i = a := ⟨i.toNat, by omega⟩
      have hta := g_idx (l := tipsL c k c.length) (i := (a : Int)) (by omega) (by rw [tipsL_len]; omega)
      rw [Int.toNat_natCast, g_tips c k (show a < c.length by omega)] at hta
      have hlen := leftTo_len c k a
      have ht := tipTo_bd hl0 hC G.el (a : Nat) k.length (Nat.le_refl _)
      simp only [Int.toNat_natCast]
      refine Round.yes (decide_eq_true (by rw [tipsL_len]; omega)) (Round.at hta.idx (Round.bind (e125 hk (by omega) (by omega) (leftTo_bd hl0 hC G a) G (s := (a : Int)) (t := tip c k (a : Nat)) (by omega) (by omega) ht.1 (show tip c k (a : Nat) ≤ 1000000 by have : tip c k (a : Nat) ≤ 10000 := ht.2; omega)) (Round.again _ ⟨(), ?_, trivial⟩)))
      rw [wr_succ h2 h3 (by omega), show ((a : Int) + 1).toNat = a + 1 by omega, leftTo_succ]
    · intro _ _
      simp only [Int.toNat_natCast]
      exact Round.no (by simp [tipsL_len]) (Round.done (Evt.some _))
/- spec.l06Waste -/
theorem e132 {c k : List Int} (hc : Rng c) (hk : Rng k) (hl0 : 0 < c.length) (hl1 : c.length ≤ 1000) (hC : ∀ v ∈ c, 0 ≤ v ∧ v ≤ 10000) (G : GoodK k) : Evt (fun n => call T C n 132 (c, k, ())) ((waste c k, ()), ()) := by
  have hll := leftL_len c k
  refine Evt.next (Evt.bind (e69 hc hk hl0 hl1 hC G) ?_) (fun n => r132 n c k)
  refine for_evt' 0 (c.length : Int) (fun i (_ : Unit) => (c, leftL c k, wsTo c (leftL c k) i.toNat, i, ())) (fun _ _ => True) (b0 := ()) rfl (by omega) trivial ?_ ?_
  · intro i _ h2 h3 _
    obtain ⟨a, rfl⟩ : ∃ a : Nat, i = a := ⟨i.toNat, by omega⟩
    have ha := g_idx (l := leftL c k) (i := (a : Int)) (by omega) (by omega)
    have hb := g_idx (l := c) (i := (a : Int)) (by omega) (by omega)
    rw [Int.toNat_natCast] at ha hb
    have h4 := wsTo_bd hl0 hC G a (by omega)
    have h5 := leftTo_bd hl0 hC G c.length _ (g_mem (l := leftL c k) (i := a) (by omega))
    have h6 := hC _ (g_mem (l := c) (i := a) (by omega))
    simp only [Int.toNat_natCast, wr_succ h2 h3 (by omega)]
    refine Round.yes (decide_eq_true h3) (Round.at ha.idx (Round.at hb.idx (Round.again _ ⟨(), ?_, trivial⟩)))
    rw [show ((a : Int) + 1).toNat = a + 1 by omega, wsTo_succ, wrap_id (x := g (leftL c k) a) (by omega) (by omega), wrap_id (x := g c a) (by omega) (by omega), wrap_id (x := g (leftL c k) a - g c a) (by omega) (by omega), wrap_id (x := wsTo c (leftL c k) a + (g (leftL c k) a - g c a)) (by omega) (by omega)]
  · intro _ _
    simp only [Int.toNat_natCast]
    exact Round.no (by simp) (Round.done (Evt.some _))
/- spec.l06Best -/
theorem e68 {c : List Int} {K : List (List Int)} (hc : Rng c) (hr : RngS K) (hl0 : 0 < c.length) (hl1 : c.length ≤ 1000) (hC : ∀ v ∈ c, 0 ≤ v ∧ v ≤ 10000) (G : GoodKs K) (hk0 : 0 < K.length) (hk1 : K.length ≤ 1000) : Evt (fun n => call T C n 68 (c, K, ())) (((bkTo c K K.length).1, (bkTo c K K.length).2, ()), ()) := by
  obtain ⟨v0, hv0⟩ := at_of (l := K) (Int.le_refl 0) (by omega)
  have e0 : K.getD 0 [] = v0 := getD_at hv0
  have hw0 := (wsTo_bd hl0 hC (G.el _ hv0.mem) c.length (Nat.le_refl _)).1
  refine Evt.next (Evt.at hv0.idx (Evt.bind (e132 hc (hr.el _ hv0.mem) hl0 hl1 hC (G.el _ hv0.mem)) ?_)) (fun n => r68 n c K)
  refine for_evt' 1 (K.length : Int) (fun i (_ : Unit) => (c, K, (bkTo c K i.toNat).1, (bkTo c K i.toNat).2, i, ())) (fun _ _ => True) (b0 := ()) (by
    show _ = (c, K, (bkTo c K (0 + 1)).1, (bkTo c K (0 + 1)).2, (1 : Int), ())
    rw [bkTo_succ, if_pos (.inl (show (-1 : Int) < 0 by decide)), e0]; rfl) (by omega) trivial ?_ ?_
  · intro i _ h2 h3 _
    obtain ⟨a, rfl⟩ : ∃ a : Nat, i = a := ⟨i.toNat, by omega⟩
    obtain ⟨v, hv⟩ := at_of (l := K) (i := (a : Int)) (by omega) h3
    have e : K.getD a [] = v := by have := getD_at (d := []) hv; rwa [Int.toNat_natCast] at this
    have hpos := bkTo_pos hl0 hC G a (by omega) (by omega)
    simp only [Int.toNat_natCast, wrap_id (x := (a : Int) + 1) (by omega) (by omega)]
    refine Round.yes (decide_eq_true h3) (Round.at hv.idx (Round.bind (e132 hc (hr.el _ hv.mem) hl0 hl1 hC (G.el _ hv.mem)) (Round.ite (fun hb => ?_) (fun hb => ?_))))
    · have hb : waste c v < (bkTo c K a).2 := of_decide_eq_true hb
      refine Round.again _ ⟨(), ?_, trivial⟩
      rw [show ((a : Int) + 1).toNat = a + 1 by omega, bkTo_succ, e, if_pos (.inr hb)]
    · have hb : ¬ waste c v < (bkTo c K a).2 := by simpa using hb
      refine Round.again _ ⟨(), ?_, trivial⟩
      rw [show ((a : Int) + 1).toNat = a + 1 by omega, bkTo_succ, e, if_neg (by omega)]
  · intro _ _
    simp only [Int.toNat_natCast]
    exact Round.no (by simp) (Round.done (Evt.some _))
/- spec.l06Blank -/
theorem e70 {n0 x : Int} (hn : inR n0 8 360 = true) (hx : inR x 0 10000 = true) : Evt (fun n => call T C n 70 (n0, x, ())) ((List.replicate n0.toNat x, ()), ()) := by
  have hn := inR_iff.1 hn
  have hx := inR_iff.1 hx
  refine Evt.next ?_ (fun n => r70 n n0 x)
  refine for_evt' 0 n0 (fun i (_ : Unit) => (n0, x, List.replicate i.toNat x, i, ())) (fun _ _ => True) (b0 := ()) rfl (by omega) trivial ?_ ?_
  · intro i _ h2 h3 _
    refine Round.yes (decide_eq_true h3) (Round.chk (by simp; omega) (Round.again _ ⟨(), ?_, trivial⟩))
    rw [wr_succ h2 h3 (by omega), wrap16 (x := x) (by omega) (by omega), show (i + 1).toNat = i.toNat + 1 by omega, List.replicate_succ']
  · intro _ _
    exact Round.no (by simp) (Round.done (Evt.some _))
/- spec.l06Do -/
theorem e56 {m : Nat} {o : List Int} {K : List (List Int)} {l : List Ct} (hk : RngS K) (hr : RngC l) (G : GoodL m K l) (S : Surf m o) : Evt (fun n => call T C n 56 (o, K, l, ())) (((doF K l o).1, (doF K l o).2, ()), ()) := by
  have m0 := G.m0
  have m1 := G.m1
  have hl := G.l
  have hol := S.len
  refine Evt.next (Evt.chk (by simp; omega) ?_) (fun n => r56 n o K l)
  refine for_evt' 0 (l.length : Int) (fun i (_ : Unit) => (K, l, (doF K (l.take i.toNat) o).1, (doF K (l.take i.toNat) o).2, i, ())) (fun _ _ => True) (b0 := ()) (by simp [doF]) (by omega) trivial ?_ ?_
  · intro i _ h2 h3 _
    obtain ⟨v, hv⟩ := at_of h2 h3
    obtain ⟨g1, g2, g3⟩ := G.el v hv.mem
    obtain ⟨k, hk'⟩ := at_of (l := K) g3.1 g3.2
    have e : kOf K v = k := getD_at hk'
    obtain ⟨S1, b1, b2, _⟩ := doF_surf hk G S i.toNat
    obtain ⟨S2, c1, c2, _⟩ := cut1_surf hk G hv.mem S1
    refine Round.yes (decide_eq_true h3) (Round.at hv.idx (Round.at hk'.idx (Round.at hv.idx (Round.at hv.idx ?_))))
    simp only [hr.i1 hv.mem, hr.i2 hv.mem]
    have hl1 := S1.len
    refine Round.bind (e125 (hk.el k hk'.mem) (by omega) (by omega) S1.el ((goodKs hk G.hk).el k hk'.mem) g1.1 (by omega) g2.1 (by omega)) (Round.again _ ⟨(), ?_, trivial⟩)
    have e2 : cutTo k v.1 v.2.1 (doF K (l.take i.toNat) o).1 k.length = cut1 K v (doF K (l.take i.toNat) o).1 := by unfold cut1; rw [e]
    rw [e2, hv.take, doF_snoc, wr_succ h2 h3 (by omega), wrap_id (x := (doF K (l.take i.toNat) o).2 + (cut1 K v (doF K (l.take i.toNat) o).1).2) (by omega) (by omega)]
  · intro _ _
    simp only [take_all]
    exact Round.no (by simp) (Round.done (Evt.some _))
/- spec.CheckPlan -/
theorem eSC {c : List Int} {x : Int} {K : List (List Int)} {l : List Ct} (hc : Rng c) (hk : RngS K) (hr : RngC l) (G : GoodG c K l) (hx : inR x 0 10000 = true) : Evt (fun n => (call T C n 67 (c, K, l, ())).bind fun r4 => (if (decide (r4.1.1 ≥ (0 : Int))) = true then some ((false, (0 : Int), ()), (())) else (call T C n 68 (c, K, ())).bind fun r5 => (idx K r5.1.1).bind fun v6 => (call T C n 69 (c, v6, ())).bind fun r7 => (call T C n 70 ((c.length : Int), x, ())).bind fun r9 => (call T C n 56 (r9.1.1, K, l, ())).bind fun r11 =>
    loopK (fun (x13 : (List Int) × (List Int) × Int × Unit) again14 => (if (decide (x13.2.2.1 < (x13.2.1.length : Int))) = true then (idx x13.2.1 x13.2.2.1).bind fun v15 => (idx x13.1 x13.2.2.1).bind fun v16 => (if (decide (v15 > v16)) = true then some ((false, (0 : Int), ()), (())) else again14 (x13.1, x13.2.1, (wr .i64 (x13.2.2.1 + (1 : Int))), ())) else some ((true, (0 : Int), ()), (())))) n (r7.1.1, r11.1.1, (0 : Int), ()))) (cpT c x K l, ()) := by
  have hcl := okC_len G.hc
  have hC := okC_el G.hc hc
  have GL := G.toL
  have hn := G.n
  have hc0 : 0 < c.length := by omega
  have hc1 : c.length ≤ 1000 := by omega
  refine Evt.bind (e67 c K l hc hk hr G) ?_
  unfold cpT
  refine Evt.ite (fun hb => ?_) (fun hb => ?_)
  · rw [if_pos (of_decide_eq_true hb)]; exact Evt.some _
  rw [if_neg (by simpa using hb)]
  obtain ⟨i0, i1⟩ := bkTo_in c K K.length (by omega)
  obtain ⟨k, hk'⟩ := at_of (l := K) i0 i1
  have e : K.getD (bkTo c K K.length).1.toNat [] = k := getD_at hk'
  have Gk := (goodKs hk G.hk).el k hk'.mem
  have h8 : inR (c.length : Int) 8 360 = true := inR_iff.2 hcl
  have S := flat_surf (m := c.length) hx
  rw [e]
  refine Evt.bind (e68 hc hk hc0 hc1 hC (goodKs hk G.hk) (by omega) (by omega)) (Evt.at hk'.idx (Evt.bind (e69 hc (hk.el k hk'.mem) hc0 hc1 hC Gk) (Evt.bind (e70 h8 hx) ?_)))
  simp only [Int.toNat_natCast]
  refine Evt.bind (e56 hk hr GL S) ?_
  obtain ⟨d, hd⟩ : ∃ d, d = (doF K l (List.replicate c.length x)).1 := ⟨_, rfl⟩
  obtain ⟨t, ht⟩ : ∃ t, t = leftL c k := ⟨_, rfl⟩
  have hdl : d.length = c.length := by
    obtain ⟨S1, _⟩ := doF_surf hk GL S l.length
    rw [List.take_length] at S1
    rw [hd, S1.len]
  have htl : t.length = c.length := by rw [ht, leftL_len]
  rw [← hd, ← ht]
  refine for_evt' 0 (d.length : Int) (fun i (_ : Unit) => (t, d, i, ())) (fun i _ => allTo (fun i => !decide (g d i > g t i)) i.toNat = true) (b0 := ()) rfl (by omega) (by simp [allTo]) ?_ ?_
  · intro i _ h2 h3 hp
    have h4 := g_idx (l := d) (i := i) h2 h3
    have h5 := g_idx (l := t) (i := i) h2 (by omega)
    refine Round.yes (decide_eq_true h3) (Round.at h4.idx (Round.at h5.idx (Round.ite (fun hb => ?_) (fun hb => ?_))))
    · have : notOver d t = false := allTo_false (i := i.toNat) (by omega) (by rw [hb]; rfl)
      rw [this]
      exact Round.done (Evt.some _)
    · have hb : decide (g d i.toNat > g t i.toNat) = false := by simpa using hb
      refine Round.again _ ⟨(), by rw [wr_succ h2 h3 (by omega)], ?_⟩
      rw [show (i + 1).toNat = i.toNat + 1 by omega, allTo_succ, hp, hb]
      rfl
  · intro _ hp
    have : notOver d t = true := by rw [Int.toNat_natCast] at hp; exact hp
    rw [this]
    exact Round.no (by simp) (Round.done (Evt.some _))
theorem e21 (c : List Int) (x : Int) (K : List (List Int)) (l : List Ct) (hc : Rng c) (hk : RngS K) (hr : RngC l) : Evt (fun n => call T C n 21 (c, x, K, l, ())) (cpR c x K l, ()) := by
  refine Evt.next (Evt.bind (e55 c K l hc hk hr) ?_) (fun n => r21 n c x K l)
  by_cases h1 : gvCode c K l = 0
  · have G := goodG hr h1
    have hcl := okC_len G.hc
    refine Evt.yes (by rw [h1]; rfl) (Evt.bind (e65 x) ?_)
    cases h2 : inR x 0 10000 with
    | false =>
      have e : cpCode c x K l = 2 := by unfold cpCode; rw [if_neg (by simpa using h1), h2]; rfl
      rw [cpR_bad e (by decide)]
      exact Evt.yes rfl (Evt.no (by decide) (Evt.yes (by decide) (Evt.some _)))
    | true =>
      refine Evt.no (by simp) (Evt.yes (by rw [h1]; rfl) (Evt.bind (e66 c hc (by omega) x) ?_))
      by_cases h3 : mxL c > x
      · have e : cpCode c x K l = 4 := by unfold cpCode; rw [if_neg (by simpa using h1), h2, if_pos rfl, if_pos h3]
        rw [cpR_bad e (by decide)]
        exact Evt.yes (by simpa using h3) (Evt.yes (by decide) (Evt.some _))
      · have e : cpCode c x K l = 0 := by unfold cpCode; rw [if_neg (by simpa using h1), h2, if_pos rfl, if_neg h3]
        rw [cpR_ok e]
        exact Evt.no (by simpa using h3) (Evt.no (by rw [h1]; decide) (eSC hc hk hr G h2))
  · have e : cpCode c x K l = gvCode c K l := by unfold cpCode; rw [if_pos h1]
    rw [cpR_bad e h1]
    exact Evt.no (by simpa using h1) (Evt.no (by simpa using h1) (Evt.yes (by simpa using h1) (Evt.some _)))
/- (impl.Cam).steps -/
theorem e77 (a : List Int) : Evt (fun n => call T C n 77 (a, ())) (((a.length : Int), ()), ()) := Evt.next (Evt.some _) (fun n => r77 n a)
/- impl.inRange -/
theorem e133 (a b c : Int) : Evt (fun n => call T C n 133 (a, b, c, ())) ((inR a b c, ()), ()) := by
  refine Evt.next ?_ (fun n => r133 n a b c)
  refine Evt.ite (fun h => ?_) (fun h => ?_)
  · refine (Evt.some _).of_eq fun n => ?_
    have h : b ≤ a := of_decide_eq_true h
    simp [inR, h]
    rfl
  · refine (Evt.some _).of_eq fun n => ?_
    have h : ¬ b ≤ a := by simpa using h
    simp [inR, h]
    rfl
/- impl.isSteps -/
theorem e91 (a : Int) : Evt (fun n => call T C n 91 (a, ())) ((inR a 8 360, ()), ()) := Evt.next (Evt.bind (e133 a 8 360) (Evt.some _)) (fun n => r91 n a)
/- impl.isLift -/
theorem e73 (a : Int) : Evt (fun n => call T C n 73 (a, ())) ((inR a 0 10000, ()), ()) := Evt.next (Evt.bind (e133 a 0 10000) (Evt.some _)) (fun n => r73 n a)
/- impl.ValidCam$1 -/
theorem e93 (v : Int) : Evt (fun n => call T C n 93 (v, ())) ((!okV v, ()), ()) := Evt.next (Evt.bind (e73 _) (Evt.some _)) (fun n => r93 n v)
/- slices.IndexFunc[impl.Cam,int16]{impl.ValidCam$1} -/
theorem e148 (l : List Int) (hl : (l.length : Int) ≤ 140737488351232) : Evt (fun n => call T C n 148 (l, ((), ()), ())) ((fi (fun v => !okV v) l 0, ()), ()) := by
  refine Evt.next ?_ (fun n => r148 n l ((), ()))
  refine loop_evt (fun (x : List Int × (Unit × Unit) × Int × Int × Unit) => x.1 = l ∧ x.2.2.1 = (l.length : Int) ∧ 0 ≤ x.2.2.2.1 ∧ x.2.2.2.1 ≤ (l.length : Int) ∧ fi (fun v => !okV v) l 0 = fi (fun v => !okV v) (l.drop x.2.2.2.1.toNat) x.2.2.2.1) (fun (x : List Int × (Unit × Unit) × Int × Int × Unit) => ((l.length : Int) - x.2.2.2.1).toNat) (x := (l, ((), ()), (l.length : Int), 0, ())) ⟨rfl, rfl, Int.le_refl _, by simp, by simp⟩ ?_
  rintro ⟨x1, u, m, i, _⟩ ⟨h', hm, h0, h1, h2⟩
  simp only at h' hm h0 h1 h2
  subst h'; subst hm
  refine Round.ite (fun hlt => ?_) (fun hge => ?_)
  · have hlt : i < (x1.length : Int) := of_decide_eq_true hlt
    obtain ⟨v, hv, hv'⟩ := idx_at h0 hlt
    have hd := drop_cons hv'
    refine Round.at hv (Round.bind (e93 _) (Round.ite (fun hb => ?_) (fun hb => ?_)))
    · have hb : okV v = false := by simpa using hb
      have h3 : fi (fun v => !okV v) x1 0 = i := by rw [h2, hd]; simp [fi, hb]
      rw [h3]
      exact Round.done (Evt.some _)
    · have hb : okV v = true := by simpa using hb
      have hw : wr .i64 (i + 1) = i + 1 := wrap_id (by omega) (by omega)
      refine Round.again _ ⟨⟨rfl, rfl, ?_, ?_, ?_⟩, ?_⟩ <;> simp only [hw]
      · omega
      · omega
      · rw [h2, hd, show (i + 1).toNat = i.toNat + 1 by omega]
        simp [fi, hb]
      · omega
  · have hge : ¬ i < (x1.length : Int) := by simpa using hge
    have : x1.drop i.toNat = [] := List.drop_of_length_le (by omega)
    rw [h2, this]
    exact Round.done (Evt.some _)
/- slices.ContainsFunc[impl.Cam,int16]{impl.ValidCam$1} -/
theorem e92 (l : List Int) (hl : (l.length : Int) ≤ 140737488351232) : Evt (fun n => call T C n 92 (l, ((), ()), ())) ((l.any (fun v => !okV v), ()), ()) := by
  refine Evt.next (Evt.bind (e148 l hl) ((Evt.some _).of_eq fun n => ?_)) (fun n => r92 n l ((), ()))
  simp only [fi_any _ l 0 (Int.le_refl _)]
  rfl
/- impl.ValidCam -/
theorem e35 (l : List Int) (hl : (l.length : Int) ≤ 140737488351232) : Evt (fun n => call T C n 35 (l, ())) ((okC l, ()), ()) := by
  refine Evt.next (Evt.bind (e77 l) (Evt.bind (e91 _) ?_)) (fun n => r35 n l)
  refine Evt.ite (fun h => ?_) (fun h => ?_)
  · refine Evt.bind (e92 l hl) ((Evt.some _).of_eq fun n => ?_)
    have h : inR (l.length : Int) 8 360 = true := h
    have : okC l = !l.any (fun v => !okV v) := by simp [okC, h, List.any_eq_not_all_not]
    rw [this]
    rfl
  · refine (Evt.some _).of_eq fun n => ?_
    have h : inR (l.length : Int) 8 360 = false := by simpa using h
    simp [okC, h]
    rfl
/- impl.isCount -/
theorem e99 (K : List (List Int)) : Evt (fun n => call T C n 99 (K, ())) ((inR (K.length : Int) 1 8, ()), ()) := Evt.next (Evt.bind (e133 _ _ _) (Evt.some _)) (fun n => r99 n K)
/- impl.ValidCutter -/
theorem e34 (k : List Int) (hr : Rng k) : Evt (fun n => call T C n 34 (k, ())) ((okK k, ()), ()) := by
  have hl := hr.len'
  have hm : Int.tmod (k.length : Int) 2 = ((k.length % 2 : Nat) : Int) := by rw [show (2 : Int) = ((2 : Nat) : Int) from rfl, ← Int.ofNat_tmod]
  have hd : Int.tdiv (k.length : Int) 2 = ((k.length / 2 : Nat) : Int) := by rw [show (2 : Int) = ((2 : Nat) : Int) from rfl, ← Int.ofNat_tdiv]
  refine Evt.next (Evt.chk rfl ?_) (fun n => r34 n k)
  rw [hm, hd, wrap_id (x := ((k.length / 2 : Nat) : Int)) (by omega) (by omega)]
  refine Evt.ite (fun h => ?_) (fun h => ?_)
  · have h : k.length % 2 = 0 := by
      have h' : (k.length : Int) % 2 = 0 := by simpa using h
      omega
    have e : okK k = false := by unfold okK; rw [show decide (k.length % 2 = 1) = false from decide_eq_false (by omega)]; simp
    rw [e]; exact Evt.some _
  have h : k.length % 2 = 1 := by
    have h' : ¬ (k.length : Int) % 2 = 0 := by simpa using h
    omega
  refine Evt.ite (fun h1 => ?_) (fun h1 => ?_)
  · have h1 : (k.length : Int) > 31 := by simpa using h1
    have e : okK k = false := by
      unfold okK
      have : inR (k.length : Int) 1 31 = false := by rw [Bool.eq_false_iff]; intro hh; have := inR_iff.1 hh; omega
      rw [this]; simp
    rw [e]; exact Evt.some _
  have h1 : ¬ (k.length : Int) > 31 := by simpa using h1
  have hin : inR (k.length : Int) 1 31 = true := inR_iff.2 ⟨by omega, by omega⟩
  have e : okK k = ((g k (k.length / 2) == 0) && allTo (kOne k) (k.length / 2 + 1)) := by unfold okK; rw [hin, show decide (k.length % 2 = 1) = true from decide_eq_true h]; simp
  rw [e]
  have hmid := g_idx (l := k) (i := ((k.length / 2 : Nat) : Int)) (by omega) (by omega)
  rw [Int.toNat_natCast] at hmid
  refine Evt.chk rfl (Evt.at hmid.idx (Evt.ite (fun h0 => ?_) (fun h0 => ?_)))
  · have h0 : (g k (k.length / 2) == 0) = false := by simpa using h0
    rw [h0]; exact Evt.some _
  have h0 : (g k (k.length / 2) == 0) = true := by simpa using h0
  rw [h0]
  simp only [Bool.true_and]
  have e2 : allTo (kOne k) (k.length / 2 + 1) = allTo (kTwo k) k.length := by
    rw [Bool.eq_iff_iff]
    exact ⟨kTwo_of h, kOne_of h⟩
  rw [e2]
  refine for_evt' 0 (k.length : Int) (fun i (_ : Unit) => (k, (k.length : Int), k, (k.length : Int), i, ())) (fun i _ => allTo (kTwo k) i.toNat = true) (b0 := ()) rfl (by omega) (by rfl) ?_ ?_
  · intro i _ h2 h3 hp
    obtain ⟨a, rfl⟩ : ∃ a : Nat, i = a := ⟨i.toNat, by omega⟩
    rw [Int.toNat_natCast] at hp
    have hai := g_idx (l := k) (i := (a : Int)) (by omega) (by omega)
    have haj := g_idx (l := k) (i := (k.length : Int) - 1 - a) (by omega) (by omega)
    rw [Int.toNat_natCast] at hai
    rw [show ((k.length : Int) - 1 - a).toNat = k.length - 1 - a by omega] at haj
    have bad : kTwo k a = false → allTo (kTwo k) k.length = false := allTo_false (by omega)
    simp only [hd, wrap_id (x := ((k.length / 2 : Nat) : Int)) (by omega) (by omega), wrap_id (x := (a : Int) + 1) (by omega) (by omega), wrap_id (x := (a : Int) - 1) (by omega) (by omega), wrap_id (x := (k.length : Int) - 1) (by omega) (by omega), wrap_id (x := (k.length : Int) - 1 - (a : Int)) (by omega) (by omega)]
    refine Round.yes (decide_eq_true h3) (Round.at hai.idx (Round.bind (e73 _) (Round.ite (fun c1 => ?_) (fun c1 => ?_))))
    · have c1 : inR (wr .i64 (g k a)) 0 10000 = false := by simpa using c1
      rw [bad (by simp [kTwo, c1])]
      exact Round.done (Evt.some _)
    have c1 : inR (wr .i64 (g k a)) 0 10000 = true := by simpa using c1
    refine Round.at haj.idx (Round.ite (fun c2 => ?_) (fun c2 => ?_))
    · have c2 : (g k a == g k (k.length - 1 - a)) = false := by simpa using c2
      rw [bad (by simp [kTwo, c2])]
      exact Round.done (Evt.some _)
    have c2 : (g k a == g k (k.length - 1 - a)) = true := by simpa using c2
    have again : kTwo k a = true → ∃ b' : Unit, ((k, (k.length : Int), k, (k.length : Int), (a : Int) + 1, ()) : List Int × Int × List Int × Int × Int × Unit) = (k, (k.length : Int), k, (k.length : Int), (a : Int) + 1, ()) ∧ allTo (kTwo k) ((a : Int) + 1).toNat = true := fun h => ⟨(), rfl, by rw [show ((a : Int) + 1).toNat = a + 1 by omega, allTo_succ, hp, h]; rfl⟩
    refine Round.chk rfl (Round.ite (fun c3 => ?_) (fun c3 => ?_))
    · have c3 : (a : Int) > ((k.length / 2 : Nat) : Int) := of_decide_eq_true c3
      have hab := g_idx (l := k) (i := (a : Int) - 1) (by omega) (by omega)
      rw [show ((a : Int) - 1).toNat = a - 1 by omega] at hab
      refine Round.at hab.idx (Round.ite (fun c4 => ?_) (fun c4 => ?_))
      · have c4 : g k a < g k (a - 1) := by simpa using c4
        rw [bad (by
          have c5 : a > k.length / 2 := by omega
          simp [kTwo, c4, c5])]
        exact Round.done (Evt.some _)
      · have c4 : ¬ g k a < g k (a - 1) := by simpa using c4
        exact Round.again _ (again (by simp only [kTwo, c1, c2, decide_eq_false c4]; simp))
    · have c3 : ¬ (a : Int) > ((k.length / 2 : Nat) : Int) := by simpa using c3
      exact Round.no (by simp) (Round.again _ (again (by simp only [kTwo, c1, c2, decide_eq_false (show ¬ a > k.length / 2 by omega)]; simp)))
  · intro _ hp
    have hp : allTo (kTwo k) k.length = true := by simpa using hp
    rw [hp]
    exact Round.no (by simp) (Round.done (Evt.some _))
/- impl.areCutters$1 -/
theorem e151 (k : List Int) (hr : Rng k) : Evt (fun n => call T C n 151 (k, ())) ((!okK k, ()), ()) := Evt.next (Evt.bind (e34 k hr) (Evt.some _)) (fun n => r151 n k)
/- slices.IndexFunc[[]impl.Cutter,impl.Cutter]{impl.areCutters$1} -/
theorem e176 (K : List (List Int)) (hr : RngS K) : Evt (fun n => call T C n 176 (K, ((), ()), ())) ((fi (fun v => !okK v) K 0, ()), ()) := by
  have hl := hr.len'
  refine Evt.next ?_ (fun n => r176 n K ((), ()))
  refine for_evt' 0 (K.length : Int) (fun i (_ : Unit) => (K, ((), ()), (K.length : Int), i, ())) (fun i _ => fi (fun v => !okK v) K 0 = fi (fun v => !okK v) (K.drop i.toNat) i) (b0 := ()) rfl (by omega) (by simp) ?_ ?_
  · intro i _ h2 h3 hp
    obtain ⟨v, hv⟩ := at_of h2 h3
    rw [hv.drop] at hp
    simp only [fi] at hp
    refine Round.yes (decide_eq_true h3) (Round.at hv.idx (Round.bind (e151 v (hr.el v hv.mem)) ?_))
    cases hb : okK v with
    | false =>
      simp only [hb, Bool.not_false, if_true] at hp
      rw [hp]
      exact Round.yes rfl (Round.done (Evt.some _))
    | true =>
      simp only [hb, Bool.not_true, Bool.false_eq_true, if_false] at hp
      exact Round.no (by simp) (Round.again _ ⟨(), by rw [wr_succ h2 h3 (by omega)], hp⟩)
  · intro _ hp
    rw [drop_all] at hp
    rw [hp]
    exact Round.no (by simp) (Round.done (Evt.some _))
/- slices.ContainsFunc[[]impl.Cutter,impl.Cutter]{impl.areCutters$1} -/
theorem e150 (K : List (List Int)) (hr : RngS K) : Evt (fun n => call T C n 150 (K, ((), ()), ())) ((K.any (fun v => !okK v), ()), ()) := by
  refine Evt.next (Evt.bind (e176 K hr) ((Evt.some _).of_eq fun n => ?_)) (fun n => r150 n K ((), ()))
  simp only [fi_any _ K 0 (Int.le_refl _)]
  rfl
/- impl.areCutters -/
theorem e98 (K : List (List Int)) (hr : RngS K) : Evt (fun n => call T C n 98 (K, ())) ((okKs K, ()), ()) := by
  refine Evt.next (Evt.bind (e150 K hr) ((Evt.some _).of_eq fun n => ?_)) (fun n => r98 n K)
  have : okKs K = !K.any (fun v => !okK v) := by simp [okKs, List.any_eq_not_all_not]
  rw [this]
  rfl
/- impl.isPlace -/
theorem e107 (a b : Int) : Evt (fun n => call T C n 107 (a, b, ())) ((inR a 0 (wr .i64 (b - 1)), ()), ()) := Evt.next (Evt.bind (e133 _ _ _) (Evt.some _)) (fun n => r107 n a b)
/- impl.areCuts$1 -/
theorem e182 (v : Ct) (m : Int) : Evt (fun n => call T C n 182 (v, m, ())) ((!ctOk m v, ()), (m, ())) := by
  refine Evt.next (Evt.bind (e133 _ _ _) ?_) (fun n => r182 n v m)
  unfold ctOk
  cases inR (wr .i64 v.1) 0 359 with
  | false => exact Evt.yes rfl (Evt.some _)
  | true =>
    refine Evt.no (by simp) (Evt.bind (e73 _) ?_)
    cases inR (wr .i64 v.2.1) 0 10000 with
    | false => exact Evt.yes rfl (Evt.some _)
    | true => exact Evt.no (by simp) (Evt.bind (e107 _ _) (Evt.some _))
/- slices.IndexFunc[[]impl.Cut,impl.Cut]{impl.areCuts$1} -/
theorem e134 (l : List Ct) (m : Int) (hr : RngC l) : Evt (fun n => call T C n 134 (l, ((), m, ()), ())) ((fi (fun v => !ctOk m v) l 0, ()), (((), m, ()), ())) := by
  have hl : (l.length : Int) ≤ 140737488351232 := by have := hr.len'; omega
  refine Evt.next ?_ (fun n => r134 n l ((), m, ()))
  refine for_evt' 0 (l.length : Int) (fun i (_ : Unit) => (l, ((), m, ()), (l.length : Int), i, ())) (fun i _ => fi (fun v => !ctOk m v) l 0 = fi (fun v => !ctOk m v) (l.drop i.toNat) i) (b0 := ()) rfl (by omega) (by simp) ?_ ?_
  · intro i _ h2 h3 hp
    obtain ⟨v, hv⟩ := at_of h2 h3
    rw [hv.drop] at hp
    simp only [fi] at hp
    refine Round.yes (decide_eq_true h3) (Round.at hv.idx (Round.bind (e182 v m) ?_))
    cases hb : !ctOk m v with
    | true =>
      simp only [hb, if_true] at hp
      rw [hp]
      exact Round.yes rfl (Round.done (Evt.some _))
    | false =>
      simp only [hb, Bool.false_eq_true, if_false] at hp
      exact Round.no (by simp) (Round.again _ ⟨(), by rw [wr_succ h2 h3 (by omega)], hp⟩)
  · intro _ hp
    rw [drop_all] at hp
    rw [hp]
    exact Round.no (by simp) (Round.done (Evt.some _))
/- slices.ContainsFunc[[]impl.Cut,impl.Cut]{impl.areCuts$1} -/
theorem e171 (l : List Ct) (m : Int) (hr : RngC l) : Evt (fun n => call T C n 171 (l, ((), m, ()), ())) ((l.any (fun v => !ctOk m v), ()), (((), m, ()), ())) := by
  refine Evt.next (Evt.bind (e134 l m hr) ((Evt.some _).of_eq fun n => ?_)) (fun n => r171 n l ((), m, ()))
  simp only [fi_any _ l 0 (Int.le_refl _)]
  rfl
/- impl.areCuts -/
theorem e170 (l : List Ct) (hr : RngC l) (m : Int) : Evt (fun n => call T C n 170 (l, m, ())) ((okCt l m, ()), ()) := by
  refine Evt.next ?_ (fun n => r170 n l m)
  unfold okCt
  cases decide ((l.length : Int) ≤ 400) with
  | false => exact Evt.no (by simp) (Evt.some _)
  | true =>
    refine Evt.yes rfl (Evt.bind (e171 l m hr) ((Evt.some _).of_eq fun n => ?_))
    have : l.all (ctOk m) = !l.any (fun v => !ctOk m v) := by simp [List.any_eq_not_all_not]
    rw [this]
    rfl
/- impl.ValidCuts -/
theorem e126 (l : List Ct) (K : List (List Int)) (hk : RngS K) (hr : RngC l) : Evt (fun n => call T C n 126 (l, K, ())) ((okCuts l K, ()), ()) := by
  refine Evt.next (Evt.bind (e99 K) ?_) (fun n => r126 n l K)
  unfold okCuts
  cases inR (K.length : Int) 1 8 with
  | false => exact Evt.no (by simp) (Evt.some _)
  | true =>
    refine Evt.yes rfl (Evt.bind (e98 K hk) ?_)
    cases okKs K with
    | false => exact Evt.no (by simp) (Evt.some _)
    | true => exact Evt.yes rfl (Evt.bind (e170 l hr _) (Evt.some _))
/- impl.codeIf -/
theorem e72 (c : Bool) (v : Int) : Evt (fun n => call T C n 72 (c, v, ())) (((if c = true then v else 0), ()), ()) := by
  refine Evt.next ?_ (fun n => r72 n c v)
  cases c with
  | true => exact Evt.yes rfl (Evt.some _)
  | false => exact Evt.no (by simp) (Evt.some _)
/- impl.areOn$1 -/
theorem e172 (v : Ct) (m : Int) : Evt (fun n => call T C n 172 (v, m, ())) ((decide (wr .i64 v.1 ≥ m), ()), (m, ())) := Evt.next (Evt.some _) (fun n => r172 n v m)
/- slices.IndexFunc[[]impl.Cut,impl.Cut]{impl.areOn$1} -/
theorem e1134 (l : List Ct) (m : Int) (hr : RngC l) : Evt (fun n => call T C n 1134 (l, ((), m, ()), ())) ((fi (fun v => decide (wr .i64 v.1 ≥ m)) l 0, ()), (((), m, ()), ())) := by
  have hl : (l.length : Int) ≤ 140737488351232 := by have := hr.len'; omega
  refine Evt.next ?_ (fun n => r1134 n l ((), m, ()))
  refine for_evt' 0 (l.length : Int) (fun i (_ : Unit) => (l, ((), m, ()), (l.length : Int), i, ())) (fun i _ => fi (fun v => decide (wr .i64 v.1 ≥ m)) l 0 = fi (fun v => decide (wr .i64 v.1 ≥ m)) (l.drop i.toNat) i) (b0 := ()) rfl (by omega) (by simp) ?_ ?_
  · intro i _ h2 h3 hp
    obtain ⟨v, hv⟩ := at_of h2 h3
    rw [hv.drop] at hp
    simp only [fi] at hp
    refine Round.yes (decide_eq_true h3) (Round.at hv.idx (Round.bind (e172 v m) ?_))
    cases hb : decide (wr .i64 v.1 ≥ m) with
    | true =>
      simp only [hb, if_true] at hp
      rw [hp]
      exact Round.yes rfl (Round.done (Evt.some _))
    | false =>
      simp only [hb, Bool.false_eq_true, if_false] at hp
      exact Round.no (by simp) (Round.again _ ⟨(), by rw [wr_succ h2 h3 (by omega)], hp⟩)
  · intro _ hp
    rw [drop_all] at hp
    rw [hp]
    exact Round.no (by simp) (Round.done (Evt.some _))
/- slices.ContainsFunc[[]impl.Cut,impl.Cut]{impl.areOn$1} -/
theorem e1171 (l : List Ct) (m : Int) (hr : RngC l) : Evt (fun n => call T C n 1171 (l, ((), m, ()), ())) ((l.any (fun v => decide (wr .i64 v.1 ≥ m)), ()), (((), m, ()), ())) := by
  refine Evt.next (Evt.bind (e1134 l m hr) ((Evt.some _).of_eq fun n => ?_)) (fun n => r1171 n l ((), m, ()))
  simp only [fi_any _ l 0 (Int.le_refl _)]
  rfl
/- impl.areOn -/
theorem e127 (l : List Ct) (hr : RngC l) (m : Int) : Evt (fun n => call T C n 127 (l, m, ())) ((onCt l m, ()), ()) := by
  refine Evt.next (Evt.bind (e1171 l m hr) ((Evt.some _).of_eq fun n => ?_)) (fun n => r127 n l m)
  have : onCt l m = !l.any (fun v => decide (wr .i64 v.1 ≥ m)) := by unfold onCt; rw [List.any_eq_not_all_not]; simp
  rw [this]
  rfl
/- impl.firstCode -/
theorem e71 (l : List Int) (hl : (l.length : Int) ≤ 140737488351232) : Evt (fun n => call T C n 71 (l, ())) ((fst0 l, ()), ()) := by
  refine Evt.next ?_ (fun n => r71 n l)
  refine loop_evt (fun (x : List Int × Int × Int × Unit) => x.1 = l ∧ x.2.1 = (l.length : Int) ∧ 0 ≤ x.2.2.1 ∧ x.2.2.1 ≤ (l.length : Int) ∧ fst0 l = fst0 (l.drop x.2.2.1.toNat)) (fun (x : List Int × Int × Int × Unit) => ((l.length : Int) - x.2.2.1).toNat) (x := (l, (l.length : Int), 0, ())) ⟨rfl, rfl, Int.le_refl _, by simp, by simp⟩ ?_
  rintro ⟨x1, m, i, _⟩ ⟨h', hm, h0, h1, h2⟩
  simp only at h' hm h0 h1 h2
  subst h'; subst hm
  refine Round.ite (fun hlt => ?_) (fun hge => ?_)
  · have hlt : i < (x1.length : Int) := of_decide_eq_true hlt
    obtain ⟨v, hv, hv'⟩ := idx_at h0 hlt
    have hd := drop_cons hv'
    refine Round.at hv (Round.ite (fun hb => ?_) (fun hb => ?_))
    · have hb : v ≠ 0 := by simpa using hb
      have h3 : fst0 x1 = v := by rw [h2, hd]; simp [fst0, hb]
      rw [h3]
      exact Round.done (Evt.some _)
    · have hb : v = 0 := by simpa using hb
      have hw : wr .i64 (i + 1) = i + 1 := wrap_id (by omega) (by omega)
      refine Round.again _ ⟨⟨rfl, rfl, ?_, ?_, ?_⟩, ?_⟩ <;> simp only [hw]
      · omega
      · omega
      · rw [h2, hd, show (i + 1).toNat = i.toNat + 1 by omega]
        simp [fst0, hb]
      · omega
  · have hge : ¬ i < (x1.length : Int) := by simpa using hge
    have : x1.drop i.toNat = [] := List.drop_of_length_le (by omega)
    rw [h2, this]
    exact Round.done (Evt.some _)
/- impl.cutsCode -/
theorem e59 (c : List Int) (K : List (List Int)) (l : List Ct) (hc : Rng c) (hk : RngS K) (hr : RngC l) : Evt (fun n => call T C n 59 (c, K, l, ())) ((gvCode c K l, ()), ()) := by
  have hcl := hc.len'
  refine Evt.next (Evt.bind (e35 c (by omega)) ?_) (fun n => r59 n c K l)
  unfold gvCode
  cases okC c with
  | false =>
    refine Evt.yes rfl (Evt.bind (e72 _ _) (Evt.bind (e77 c) (Evt.bind (e127 l hr _) (Evt.bind (e72 _ _) (Evt.bind (e71 _ (by simp)) ((Evt.some _).of_eq fun n => ?_))))))
    simp [fst0]
    rfl
  | true =>
    refine Evt.no (by simp) (Evt.bind (e126 l K hk hr) (Evt.bind (e72 _ _) (Evt.bind (e77 c) (Evt.bind (e127 l hr _) (Evt.bind (e72 _ _) (Evt.bind (e71 _ (by simp)) ((Evt.some _).of_eq fun n => ?_)))))))
    cases okCuts l K <;> cases onCt l c.length <;> simp [fst0] <;> rfl
/- slices.Max[impl.Cam,int16] -/
theorem e74 (l : List Int) (hr : Rng l) (h0 : 0 < (l.length : Int)) : Evt (fun n => call T C n 74 (l, ())) ((mxL l, ()), ()) := by
  have hlen := hr.len'
  obtain ⟨v0, hv0⟩ := at_of (l := l) (Int.le_refl 0) h0
  refine Evt.next (Evt.no (by simp; omega) (Evt.at hv0.idx ?_)) (fun n => r74 n l)
  have hh := (head_at hv0).1
  refine for_evt' 1 (l.length : Int) (fun i (_ : Unit) => (l, mxF (l.take i.toNat) v0, i, ())) (fun _ _ => True) (b0 := ()) (by
    have := (head_at hv0).2
    show _ = (l, mxF (l.take 1) v0, 1, ())
    rw [this]; simp [mxF]) (by omega) trivial ?_ ?_
  · intro i _ h2 h3 _
    obtain ⟨v, hv⟩ := at_of (l := l) (show 0 ≤ i by omega) h3
    simp only [wrap_id (x := i + 1) (by omega) (by omega)]
    refine Round.yes (decide_eq_true h3) (Round.at hv.idx (Round.again _ ⟨(), ?_, trivial⟩))
    rw [hv.take, mxF_snoc]
    congr 2
    split <;> omega
  · intro _ _
    have e2 : mxF (l.take (l.length : Int).toNat) v0 = mxL l := by rw [take_all, mxL, hh]
    simp only [e2]
    exact Round.no (by simp) (Round.done (Evt.some _))
/- impl.floorDiv -/
theorem e109 {a b : Int} (hb : 0 < b) (h1 : -4500000000000000000 ≤ a) (h2 : a ≤ 4500000000000000000) : Evt (fun n => call T C n 109 (a, b, ())) ((a / b, ()), ()) := by
  have hbd := ediv_bd hb h1 h2 (by omega)
  have he := floorDiv_eq (a := a) hb
  refine Evt.next (Evt.chk (bne_pos hb) (Evt.chk (bne_pos hb) (Evt.ite (fun h => ?_) (fun h => ?_)))) (fun n => r109 n a b)
  · have h : Int.tmod a b < 0 := of_decide_eq_true h
    rw [if_pos h] at he
    refine (Evt.some _).of_eq fun n => ?_
    rw [wrap_id (x := Int.tdiv a b) (by omega) (by omega), wrap_id (by omega) (by omega), he]
    rfl
  · have h : ¬ Int.tmod a b < 0 := by simpa using h
    rw [if_neg h] at he
    refine (Evt.some _).of_eq fun n => ?_
    rw [wrap_id (x := Int.tdiv a b) (by omega) (by omega), he]
    rfl
/- impl.mod -/
theorem e141 {a b : Int} (hb : 0 < b) (hb' : b ≤ 1000000000000) (h1 : -1000000000000 ≤ a) (h2 : a ≤ 1000000000000) : Evt (fun n => call T C n 141 (a, b, ())) ((a % b, ()), ()) := by
  have hd := Int.emod_def a b
  have h3 := Int.emod_nonneg a (show b ≠ 0 by omega)
  have h4 := Int.emod_lt_of_pos a hb
  refine Evt.next (Evt.bind (e109 hb (by omega) (by omega)) ((Evt.some _).of_eq fun n => ?_)) (fun n => r141 n a b)
  simp only
  rw [wrap_id (x := b * (a / b)) (by omega) (by omega), ← hd, wrap_id (by omega) (by omega)]
  rfl
/- (impl.Cam).at -/
theorem e112 {l : List Int} (hr : Rng l) (h0 : 0 < (l.length : Int)) (h1 : (l.length : Int) ≤ 1000000) {x : Int} (hx : -4000000 ≤ x) (hx' : x ≤ 4000000) : Evt (fun n => call T C n 112 (l, x, ())) ((cAt l x, ()), ()) := by
  have hp := Int.emod_nonneg x (show (l.length : Int) ≠ 0 by omega)
  have hq := Int.emod_lt_of_pos x h0
  have hv := g_idx (l := l) hp hq
  refine Evt.next (Evt.bind (e77 l) (Evt.bind (e141 (a := x) h0 (by omega) (by omega) (by omega)) (Evt.at hv.idx ((Evt.some _).of_eq fun n => ?_)))) (fun n => r112 n l x)
  rw [hr.id hv.mem]
  rfl
/- (impl.Cam).tips$1$1 -/
theorem e147 {c : List Int} (hr : Rng c) (h0 : 0 < (c.length : Int)) (h1 : (c.length : Int) ≤ 1000000) (hC : ∀ v ∈ c, 0 ≤ v ∧ v ≤ 10000) {x y z : Int} (hx : -4000000 ≤ x) (hx' : x ≤ 4000000) (hy : 0 ≤ y) (hy' : y ≤ 10000) : Evt (fun n => call T C n 147 (x, y, z, c, ())) ((), (max z (cAt c x - y), c, ())) := by
  have hv := hC _ (cAt_mem (by omega) x)
  refine Evt.next (Evt.bind (e112 hr h0 h1 hx hx') ((Evt.some _).of_eq fun n => ?_)) (fun n => r147 n x y z c)
  simp only [wrap_id (x := cAt c x - y) (by omega) (by omega)]
  have : (if cAt c x - y > z then cAt c x - y else z) = max z (cAt c x - y) := by split <;> omega
  rw [this]
  rfl
/- (impl.Cutter).each{(impl.Cam).tips$1$1} -/
theorem e139 {c k : List Int} (hc : Rng c) (hk : Rng k) (hl0 : 0 < c.length) (hl1 : c.length ≤ 1000) (hC : ∀ v ∈ c, 0 ≤ v ∧ v ≤ 10000) (G : GoodK k) {s : Int} (h0 : 0 ≤ s) (h1 : s ≤ 1000000) : Evt (fun n => call T C n 139 (k, s, ((), 0, c, ()), ())) ((), (((), tip c k s, c, ()), ())) := by
  have hd : Int.tdiv (k.length : Int) 2 = ((k.length / 2 : Nat) : Int) := by rw [show (2 : Int) = ((2 : Nat) : Int) from rfl, ← Int.ofNat_tdiv]
  have hhi := G.hi
  refine Evt.next (Evt.chk rfl ?_) (fun n => r139 n k s ((), 0, c, ()))
  rw [hd, wrap_id (x := ((k.length / 2 : Nat) : Int)) (by omega) (by omega)]
  refine for_evt' 0 (k.length : Int) (fun i (_ : Unit) => (s, ((), (tipTo c k s i.toNat, (c, ()))), ((k.length / 2 : Nat) : Int), k, (k.length : Int), i, ())) (fun _ _ => True) (b0 := ()) rfl (by omega) trivial ?_ ?_
  · intro i _ h2 h3 _
    obtain ⟨a, rfl⟩ : ∃ a : Nat, i = a := ⟨i.toNat, by omega⟩
    have hai := g_idx (l := k) (i := (a : Int)) (by omega) (by omega)
    rw [Int.toNat_natCast] at hai
    have hka := G.el a (by omega)
    simp only [Int.toNat_natCast, wr_succ h2 h3 (by omega), wrap_id (x := s + (a : Int)) (by omega) (by omega), wrap_id (x := s + (a : Int) - ((k.length / 2 : Nat) : Int)) (by omega) (by omega)]
    refine Round.yes (decide_eq_true h3) (Round.at hai.idx ?_)
    simp only [hk.id hai.mem]
    refine Round.bind (e147 hc (by omega) (by omega) hC (by omega) (by omega) hka.1 hka.2) (Round.again _ ⟨(), ?_, trivial⟩)
    rw [show ((a : Int) + 1).toNat = a + 1 by omega, tipTo_succ]
    rfl
  · intro _ _
    simp only [Int.toNat_natCast]
    exact Round.no (by simp) (Round.done (Evt.some _))
/- (impl.Cam).tips$1 -/
theorem e146 {c k : List Int} (hc : Rng c) (hk : Rng k) (hl0 : 0 < c.length) (hl1 : c.length ≤ 1000) (hC : ∀ v ∈ c, 0 ≤ v ∧ v ≤ 10000) (G : GoodK k) {s : Int} (h0 : 0 ≤ s) (h1 : s ≤ 1000000) : Evt (fun n => call T C n 146 (s, k, c, ())) ((tip c k s, ()), (k, c, ())) := Evt.next (Evt.bind (e139 hc hk hl0 hl1 hC G h0 h1) (Evt.some _)) (fun n => r146 n s k c)
/- (impl.Cam).numbers{(impl.Cam).tips$1} -/
theorem e145 {c k : List Int} (hc : Rng c) (hk : Rng k) (hl0 : 0 < c.length) (hl1 : c.length ≤ 1000) (hC : ∀ v ∈ c, 0 ≤ v ∧ v ≤ 10000) (G : GoodK k) : Evt (fun n => call T C n 145 (c, ((), k, c, ()), ())) ((tipsL c k c.length, ()), (((), k, c, ()), ())) := by
  refine Evt.next (Evt.bind (e77 c) ?_) (fun n => r145 n c ((), k, c, ()))
  refine for_evt' 0 (c.length : Int) (fun i (_ : Unit) => (((), (k, (c, ()))), tipsL c k i.toNat, (c.length : Int), i, ())) (fun _ _ => True) (b0 := ()) rfl (by omega) trivial ?_ ?_
  · intro i _ h2 h3 _
    refine Round.yes (decide_eq_true h3) (Round.bind (e146 hc hk hl0 hl1 hC G h2 (show i ≤ 1000000 by omega)) (Round.chk (by simp [tipsL_len]; omega) (Round.again _ ⟨(), ?_, trivial⟩)))
    rw [tipsL_succ c k h2, wr_succ h2 h3 (by omega)]
  · intro _ _
    simp only [Int.toNat_natCast]
    exact Round.no (by simp) (Round.done (Evt.some _))
/- (impl.Cam).tips -/
theorem e86 {c k : List Int} (hc : Rng c) (hk : Rng k) (hl0 : 0 < c.length) (hl1 : c.length ≤ 1000) (hC : ∀ v ∈ c, 0 ≤ v ∧ v ≤ 10000) (G : GoodK k) : Evt (fun n => call T C n 86 (c, k, ())) ((tipsL c k c.length, ()), ()) := Evt.next (Evt.bind (e145 hc hk hl0 hl1 hC G) (Evt.some _)) (fun n => r86 n c k)
/- (impl.Cam).tooDeep$1 -/
theorem e135 (v : Ct) (t : List (List Int)) (c : List Int) (K : List (List Int)) (hv2 : wr .i64 v.2.1 = v.2.1) (hg : (0 ≤ v.1 ∧ v.1 < (c.length : Int)) ∧ (0 ≤ v.2.1 ∧ v.2.1 ≤ 10000) ∧ (0 ≤ v.2.2.1 ∧ v.2.2.1 < (K.length : Int))) (ht : t = K.map fun k => tipsL c k c.length) : Evt (fun n => call T C n 135 (v, t, ())) ((deepF c K v, ()), (t, ())) := by
  obtain ⟨g1, g2, g3⟩ := hg
  obtain ⟨k, hk'⟩ := at_of (l := K) g3.1 g3.2
  have hkd : K.getD v.2.2.1.toNat [] = k := getD_at hk'
  have htk := hk'.map fun k => tipsL c k c.length
  rw [← ht] at htk
  have htl : t.length = K.length := by rw [ht, List.length_map]
  have hs := g_idx (l := tipsL c k c.length) (i := v.1) g1.1 (by rw [tipsL_len]; exact g1.2)
  rw [g_tips c k (by omega), show ((v.1.toNat : Nat) : Int) = v.1 by omega] at hs
  refine Evt.next (Evt.chk (chk_at g3.1 (by omega)) (Evt.at htk.get (Evt.at hs.idx ((Evt.some _).of_eq fun n => ?_)))) (fun n => r135 n v t)
  rw [hv2]
  unfold deepF
  rw [hkd]
  rfl
/- slices.IndexFunc[[]impl.Cut,impl.Cut]{(impl.Cam).tooDeep$1} -/
theorem e2134 (l : List Ct) (t : List (List Int)) (c : List Int) (K : List (List Int)) (hr : RngC l) (G : GoodG c K l) (ht : t = K.map fun k => tipsL c k c.length) : Evt (fun n => call T C n 2134 (l, ((), t, ()), ())) ((fi (fun v => deepF c K v) l 0, ()), (((), t, ()), ())) := by
  have hl : (l.length : Int) ≤ 140737488351232 := by have := hr.len'; omega
  refine Evt.next ?_ (fun n => r2134 n l ((), t, ()))
  refine for_evt' 0 (l.length : Int) (fun i (_ : Unit) => (l, ((), t, ()), (l.length : Int), i, ())) (fun i _ => fi (fun v => deepF c K v) l 0 = fi (fun v => deepF c K v) (l.drop i.toNat) i) (b0 := ()) rfl (by omega) (by simp) ?_ ?_
  · intro i _ h2 h3 hp
    obtain ⟨v, hv⟩ := at_of h2 h3
    rw [hv.drop] at hp
    simp only [fi] at hp
    refine Round.yes (decide_eq_true h3) (Round.at hv.idx (Round.bind (e135 v t c K (hr.i2 hv.mem) (G.el v hv.mem) ht) ?_))
    cases hb : deepF c K v with
    | true =>
      simp only [hb, if_true] at hp
      rw [hp]
      exact Round.yes rfl (Round.done (Evt.some _))
    | false =>
      simp only [hb, Bool.false_eq_true, if_false] at hp
      exact Round.no (by simp) (Round.again _ ⟨(), by rw [wr_succ h2 h3 (by omega)], hp⟩)
  · intro _ hp
    rw [drop_all] at hp
    rw [hp]
    exact Round.no (by simp) (Round.done (Evt.some _))
/- (impl.Cam).tooDeep -/
theorem e75 (c : List Int) (K : List (List Int)) (l : List Ct) (hc : Rng c) (hk : RngS K) (hr : RngC l) (G : GoodG c K l) : Evt (fun n => call T C n 75 (c, K, l, ())) ((fi (deepF c K) l 0, ()), ()) := by
  have hcl := okC_len G.hc
  have hC := okC_el G.hc hc
  have GK := goodKs hk G.hk
  have hn := G.n
  have hc0 : 0 < c.length := by omega
  have hc1 : c.length ≤ 1000 := by omega
  refine Evt.next ?_ (fun n => r75 n c K l)
  refine for_evt' 0 (K.length : Int) (fun i (_ : Unit) => (c, l, (K.take i.toNat).map (fun k => tipsL c k c.length), K, (K.length : Int), i, ())) (fun _ _ => True) (b0 := ()) rfl (by omega) trivial ?_ ?_
  · intro i _ h2 h3 _
    obtain ⟨k, hk'⟩ := at_of h2 h3
    have hlen : ((K.take i.toNat).map (fun k => tipsL c k c.length)).length ≤ 8 := by rw [List.length_map, List.length_take]; omega
    refine Round.yes (decide_eq_true h3) (Round.at hk'.idx (Round.bind (e86 hc (hk.el k hk'.mem) hc0 hc1 hC (GK.el k hk'.mem)) (Round.chk (decide_eq_true (by simp only [List.length_cons, List.length_nil]; omega)) (Round.again _ ⟨(), ?_, trivial⟩))))
    rw [hk'.take, wr_succ h2 h3 (by omega)]
    simp
  · intro _ _
    simp only [take_all]
    exact Round.no (by simp) (Round.done (Evt.bind (e2134 l (K.map fun k => tipsL c k c.length) c K hr G rfl) (Evt.some _)))
/- impl.FlatCam$1 -/
theorem e137 (s x : Int) : Evt (fun n => call T C n 137 (s, x, ())) ((x, ()), (x, ())) := Evt.next (Evt.some _) (fun n => r137 n s x)
/- impl.camOf{impl.FlatCam$1} -/
theorem e136 {n0 x : Int} (hn : inR n0 8 360 = true) (hx : inR x 0 10000 = true) : Evt (fun n => call T C n 136 (n0, ((), x, ()), ())) ((List.replicate n0.toNat x, 0, ()), (((), x, ()), ())) := by
  have hb := inR_iff.1 hn
  have hx' := inR_iff.1 hx
  refine Evt.next ?_ (fun n => r136 n n0 ((), x, ()))
  refine for_evt' 0 n0 (fun i (_ : Unit) => (((), (x, ())), List.replicate i.toNat x, n0, i, ())) (fun _ _ => True) (b0 := ()) rfl (by omega) trivial ?_ ?_
  · intro i _ h2 h3 _
    refine Round.yes (decide_eq_true h3) (Round.bind (e137 i x) (Round.bind (e73 _) (Round.no (by simp [hx]) (Round.chk (by simp; omega) (Round.again _ ⟨(), ?_, trivial⟩)))))
    rw [wr_succ h2 h3 (by omega), wrap16 (x := x) (by omega) (by omega), show (i + 1).toNat = i.toNat + 1 by omega, List.replicate_succ']
  · intro _ _
    exact Round.no (by simp) (Round.done (Evt.some _))
/- impl.FlatCam -/
theorem e76 {n0 x : Int} (hn : inR n0 8 360 = true) (hx : inR x 0 10000 = true) : Evt (fun n => call T C n 76 (n0, x, ())) ((List.replicate n0.toNat x, 0, ()), ()) := by
  refine Evt.next (Evt.bind (e91 n0) ?_) (fun n => r76 n n0 x)
  rw [hn]
  refine Evt.no (by simp) (Evt.bind (e73 x) ?_)
  rw [hx]
  exact Evt.no (by simp) (Evt.bind (e136 hn hx) (Evt.some _))
/- (impl.Cam).cut$1 -/
theorem e173 {o : List Int} (h0 : 0 < o.length) (h1 : o.length ≤ 1000) (ho : ∀ v ∈ o, 0 ≤ v ∧ v ≤ 10000) {x y t z : Int} (hx : -4000000 ≤ x) (hx' : x ≤ 4000000) (hy : 0 ≤ y) (hy' : y ≤ 10000) (ht : 0 ≤ t) (ht' : t ≤ 1000000) (hz : 0 ≤ z) (hz' : z ≤ 1000000) :
    Evt (fun n => call T C n 173 (x, y, o, t, z, ())) ((), (if g o (x % (o.length : Int)).toNat > t + y then o.set (x % (o.length : Int)).toNat (t + y) else o), t, (if g o (x % (o.length : Int)).toNat > t + y then z + (g o (x % (o.length : Int)).toNat - (t + y)) else z), ()) := by
  have hp := Int.emod_nonneg x (show (o.length : Int) ≠ 0 by omega)
  have hq := Int.emod_lt_of_pos x (show 0 < (o.length : Int) by omega)
  have hv := g_idx (l := o) (i := x % o.length) hp hq
  have hb := ho _ hv.mem
  refine Evt.next (Evt.bind (e77 o) (Evt.bind (e141 (a := x) (show 0 < (o.length : Int) by omega) (by omega) (by omega) (by omega)) (Evt.chk (decide_eq_true ⟨hp, hq⟩) (Evt.at hv.get ?_)))) (fun n => r173 n x y o t z)
  simp only [wrap_id (x := g o (x % (o.length : Int)).toNat) (by omega) (by omega), wrap_id (x := t + y) (by omega) (by omega)]
  refine Evt.ite (fun hc => ?_) (fun hc => ?_)
  · have hc : g o (x % (o.length : Int)).toNat > t + y := of_decide_eq_true hc
    refine Evt.chk (decide_eq_true ⟨hp, hq⟩) (Evt.at hv.get (Evt.chk (decide_eq_true ⟨hp, hq⟩) (Evt.at hv.get ?_)))
    rw [if_pos hc, if_pos hc]
    simp only [wrap_id (x := g o (x % (o.length : Int)).toNat) (by omega) (by omega), wrap_id (x := g o (x % (o.length : Int)).toNat - (t + y)) (by omega) (by omega), wrap_id (x := z + (g o (x % (o.length : Int)).toNat - (t + y))) (by omega) (by omega), wrap16 (x := t + y) (by omega) (by omega)]
    exact Evt.some _
  · have hc : ¬ g o (x % (o.length : Int)).toNat > t + y := by simpa using hc
    rw [if_neg hc, if_neg hc]
    exact Evt.some _
/- (impl.Cutter).each{(impl.Cam).cut$1} -/
theorem e1139 {o k : List Int} (hk : Rng k) (hl0 : 0 < o.length) (hl1 : o.length ≤ 1000) (ho : ∀ v ∈ o, 0 ≤ v ∧ v ≤ 10000) (G : GoodK k) {s t : Int} (h0 : 0 ≤ s) (h1 : s ≤ 1000000) (t0 : 0 ≤ t) (t1 : t ≤ 1000000) : Evt (fun n => call T C n 1139 (k, s, ((), o, t, 0, ()), ())) ((), (((), (cutTo k s t o k.length).1, t, (cutTo k s t o k.length).2, ()), ())) := by
  have hd : Int.tdiv (k.length : Int) 2 = ((k.length / 2 : Nat) : Int) := by rw [show (2 : Int) = ((2 : Nat) : Int) from rfl, ← Int.ofNat_tdiv]
  have hhi := G.hi
  refine Evt.next (Evt.chk rfl ?_) (fun n => r1139 n k s ((), o, t, 0, ()))
  rw [hd, wrap_id (x := ((k.length / 2 : Nat) : Int)) (by omega) (by omega)]
  refine for_evt' 0 (k.length : Int) (fun i (_ : Unit) => (s, ((), ((cutTo k s t o i.toNat).1, (t, ((cutTo k s t o i.toNat).2, ())))), ((k.length / 2 : Nat) : Int), k, (k.length : Int), i, ())) (fun _ _ => True) (b0 := ()) rfl (by omega) trivial ?_ ?_
  · intro i _ h2 h3 _
    obtain ⟨a, rfl⟩ : ∃ a : Nat, i = a := ⟨i.toNat, by omega⟩
    have hai := g_idx (l := k) (i := (a : Int)) (by omega) (by omega)
    rw [Int.toNat_natCast] at hai
    have hka := G.el a (by omega)
    obtain ⟨b1, b2, b3⟩ := cutTo_bd k s hl0 t0 (fun i hi => (G.el i hi).1) ho a (by omega)
    have hlen := cutTo_len k s t o a
    simp only [Int.toNat_natCast, wr_succ h2 h3 (by omega), wrap_id (x := s + (a : Int)) (by omega) (by omega), wrap_id (x := s + (a : Int) - ((k.length / 2 : Nat) : Int)) (by omega) (by omega)]
    refine Round.yes (decide_eq_true h3) (Round.at hai.idx ?_)
    simp only [hk.id hai.mem]
    refine Round.bind (e173 (by omega) (by omega) b1 (by omega) (by omega) hka.1 hka.2 t0 t1 b2 (by omega)) (Round.again _ ⟨(), ?_, trivial⟩)
    rw [show ((a : Int) + 1).toNat = a + 1 by omega, cutTo_succ, hlen]
    show _ = (s, ((), ((if g (cutTo k s t o a).1 ((s + (a : Int) - ((k.length / 2 : Nat) : Int)) % (o.length : Int)).toNat > t + g k a then _ else _ : List Int × Int).1, (t, ((if g (cutTo k s t o a).1 ((s + (a : Int) - ((k.length / 2 : Nat) : Int)) % (o.length : Int)).toNat > t + g k a then _ else _ : List Int × Int).2, ())))), _)
    by_cases hc : g (cutTo k s t o a).1 ((s + (a : Int) - ((k.length / 2 : Nat) : Int)) % (o.length : Int)).toNat > t + g k a
    · simp only [if_pos hc]
      rfl
    · simp only [if_neg hc]
  · intro _ _
    simp only [Int.toNat_natCast]
    exact Round.no (by simp) (Round.done (Evt.some _))
/- (impl.Cam).cut -/
theorem e128 {o k : List Int} (hk : Rng k) (hl0 : 0 < o.length) (hl1 : o.length ≤ 1000) (ho : ∀ v ∈ o, 0 ≤ v ∧ v ≤ 10000) (G : GoodK k) {s t : Int} (h0 : 0 ≤ s) (h1 : s ≤ 1000000) (t0 : 0 ≤ t) (t1 : t ≤ 1000000) : Evt (fun n => call T C n 128 (o, k, s, t, ())) (((cutTo k s t o k.length).2, ()), ((cutTo k s t o k.length).1, ())) :=
  Evt.next (Evt.bind (e1139 hk hl0 hl1 ho G h0 h1 t0 t1) (Evt.some (((cutTo k s t o k.length).2, ()), ((cutTo k s t o k.length).1, ())))) (fun n => r128 n o k s t)
/- (impl.Cam).do -/
theorem e61 {m : Nat} {o : List Int} {K : List (List Int)} {l : List Ct} (hk : RngS K) (hr : RngC l) (G : GoodL m K l) (S : Surf m o) {v : Ct} (hv : v ∈ l) : Evt (fun n => call T C n 61 (o, K, v, ())) (((cut1 K v o).2, ()), ((cut1 K v o).1, ())) := by
  obtain ⟨g1, g2, g3⟩ := G.el v hv
  obtain ⟨k, hk'⟩ := at_of (l := K) g3.1 g3.2
  have e : kOf K v = k := getD_at hk'
  have m0 := G.m0
  have m1 := G.m1
  have hol := S.len
  refine Evt.next (Evt.at hk'.idx ?_) (fun n => r61 n o K v)
  simp only [hr.i1 hv, hr.i2 hv]
  have e2 : cut1 K v o = cutTo k v.1 v.2.1 o k.length := by unfold cut1; rw [e]
  rw [e2]
  exact Evt.bind (e128 (hk.el k hk'.mem) (by omega) (by omega) S.el ((goodKs hk G.hk).el k hk'.mem) g1.1 (by omega) g2.1 (by omega)) (Evt.some _)
/- (impl.Cam).left$1$1 -/
theorem e140 {c k : List Int} (h0 : 0 < c.length) (h1 : c.length ≤ 1000) (hC : ∀ v ∈ c, 0 ≤ v ∧ v ≤ 10000) (G : GoodK k) {x y z : Int} (hx : -4000000 ≤ x) (hx' : x ≤ 4000000) (hy : 0 ≤ y) (hy' : y ≤ 10000) : Evt (fun n => call T C n 140 (x, y, z, tipsL c k c.length, c, ())) ((), (min z (tip c k (x % c.length) + y), tipsL c k c.length, c, ())) := by
  have hp := Int.emod_nonneg x (show (c.length : Int) ≠ 0 by omega)
  have hq := Int.emod_lt_of_pos x (show 0 < (c.length : Int) by omega)
  have hv := g_idx (l := tipsL c k c.length) (i := x % c.length) hp (by rw [tipsL_len]; exact hq)
  rw [g_tips c k (by omega), show (((x % (c.length : Int)).toNat : Nat) : Int) = x % (c.length : Int) by omega] at hv
  have hb := tipTo_bd h0 hC G.el (x % c.length) k.length (Nat.le_refl _)
  have hb1 : 0 ≤ tip c k (x % c.length) := hb.1
  have hb2 : tip c k (x % c.length) ≤ 10000 := hb.2
  refine Evt.next (Evt.bind (e77 c) (Evt.bind (e141 (a := x) (show 0 < (c.length : Int) by omega) (by omega) (by omega) (by omega)) (Evt.at hv.idx ((Evt.some _).of_eq fun n => ?_)))) (fun n => r140 n x y z (tipsL c k c.length) c)
  simp only [wrap_id (x := tip c k (x % c.length) + y) (by omega) (by omega)]
  have : (if tip c k (x % c.length) + y < z then tip c k (x % c.length) + y else z) = min z (tip c k (x % c.length) + y) := by split <;> omega
  rw [this]
  rfl
/- (impl.Cutter).each{(impl.Cam).left$1$1} -/
theorem e2139 {c k : List Int} (hk : Rng k) (hl0 : 0 < c.length) (hl1 : c.length ≤ 1000) (hC : ∀ v ∈ c, 0 ≤ v ∧ v ≤ 10000) (G : GoodK k) {s : Int} (h0 : 0 ≤ s) (h1 : s ≤ 1000000) : Evt (fun n => call T C n 2139 (k, s, ((), tip c k s, tipsL c k c.length, c, ()), ())) ((), (((), lf c k s, tipsL c k c.length, c, ()), ())) := by
  have hd : Int.tdiv (k.length : Int) 2 = ((k.length / 2 : Nat) : Int) := by rw [show (2 : Int) = ((2 : Nat) : Int) from rfl, ← Int.ofNat_tdiv]
  have hhi := G.hi
  refine Evt.next (Evt.chk rfl ?_) (fun n => r2139 n k s ((), tip c k s, tipsL c k c.length, c, ()))
  rw [hd, wrap_id (x := ((k.length / 2 : Nat) : Int)) (by omega) (by omega)]
  refine for_evt' 0 (k.length : Int) (fun i (_ : Unit) => (s, ((), (lfTo c k s i.toNat, (tipsL c k c.length, (c, ())))), ((k.length / 2 : Nat) : Int), k, (k.length : Int), i, ())) (fun _ _ => True) (b0 := ()) rfl (by omega) trivial ?_ ?_
  · intro i _ h2 h3 _
    obtain ⟨a, rfl⟩ : ∃ a : Nat, i = a := ⟨i.toNat, by omega⟩
    have hai := g_idx (l := k) (i := (a : Int)) (by omega) (by omega)
    rw [Int.toNat_natCast] at hai
    have hka := G.el a (by omega)
    simp only [Int.toNat_natCast, wr_succ h2 h3 (by omega), wrap_id (x := s + (a : Int)) (by omega) (by omega), wrap_id (x := s + (a : Int) - ((k.length / 2 : Nat) : Int)) (by omega) (by omega)]
    refine Round.yes (decide_eq_true h3) (Round.at hai.idx ?_)
    simp only [hk.id hai.mem]
    refine Round.bind (e140 hl0 hl1 hC G (by omega) (by omega) hka.1 hka.2) (Round.again _ ⟨(), ?_, trivial⟩)
    rw [show ((a : Int) + 1).toNat = a + 1 by omega, lfTo_succ]
    rfl
  · intro _ _
    simp only [Int.toNat_natCast]
    exact Round.no (by simp) (Round.done (Evt.some _))
/- (impl.Cam).left$1 -/
theorem e138 {c k : List Int} (hk : Rng k) (hl0 : 0 < c.length) (hl1 : c.length ≤ 1000) (hC : ∀ v ∈ c, 0 ≤ v ∧ v ≤ 10000) (G : GoodK k) {s : Nat} (h : s < c.length) : Evt (fun n => call T C n 138 ((s : Int), tipsL c k c.length, k, c, ())) ((lf c k s, ()), (tipsL c k c.length, k, c, ())) := by
  have hv := g_idx (l := tipsL c k c.length) (i := (s : Int)) (by omega) (by rw [tipsL_len]; omega)
  rw [Int.toNat_natCast, g_tips c k h] at hv
  exact Evt.next (Evt.at hv.idx (Evt.bind (e2139 hk hl0 hl1 hC G (s := (s : Int)) (by omega) (by omega)) (Evt.some ((lf c k s, ()), (tipsL c k c.length, k, c, ()))))) (fun n => r138 n s (tipsL c k c.length) k c)
/- impl.camOf{(impl.Cam).left$1} -/
theorem e1136 {c k : List Int} (hk : Rng k) (hl0 : 0 < c.length) (hl1 : c.length ≤ 1000) (hC : ∀ v ∈ c, 0 ≤ v ∧ v ≤ 10000) (G : GoodK k) : Evt (fun n => call T C n 1136 ((c.length : Int), ((), tipsL c k c.length, k, c, ()), ())) ((leftL c k, 0, ()), (((), tipsL c k c.length, k, c, ()), ())) := by
  have hll := leftL_len c k
  refine Evt.next ?_ (fun n => r1136 n (c.length : Int) ((), tipsL c k c.length, k, c, ()))
  refine for_evt' 0 (c.length : Int) (fun i (_ : Unit) => (((), (tipsL c k c.length, (k, (c, ())))), (leftL c k).take i.toNat, (c.length : Int), i, ())) (fun _ _ => True) (b0 := ()) rfl (by omega) trivial ?_ ?_
  · intro i _ h2 h3 _
    obtain ⟨a, rfl⟩ : ∃ a : Nat, i = a := ⟨i.toNat, by omega⟩
    have hb := lf_bd hl0 hC G (show a < c.length by omega)
    have hin : inR (lf c k a) 0 10000 = true := inR_iff.2 hb
    have hlen : ((leftL c k).take a).length = a := by rw [List.length_take]; omega
    simp only [Int.toNat_natCast, wr_succ h2 h3 (by omega)]
    refine Round.yes (decide_eq_true h3) (Round.bind (e138 hk hl0 hl1 hC G (show a < c.length by omega)) (Round.bind (e73 _) (Round.no (by simp [hin]) (Round.chk (by simp [hlen]; omega) (Round.again _ ⟨(), ?_, trivial⟩)))))
    rw [show ((a : Int) + 1).toNat = a + 1 by omega, leftL_take hl0 hC G (by omega), wrap16 (x := lf c k a) (by omega) (by omega)]
  · intro _ _
    have e : (leftL c k).take (c.length : Int).toNat = leftL c k := List.take_of_length_le (by omega)
    simp only [e]
    exact Round.no (by simp) (Round.done (Evt.some _))
/- (impl.Cam).left -/
theorem e79 {c k : List Int} (hc : Rng c) (hk : Rng k) (hl0 : 0 < c.length) (hl1 : c.length ≤ 1000) (hC : ∀ v ∈ c, 0 ≤ v ∧ v ≤ 10000) (G : GoodK k) : Evt (fun n => call T C n 79 (c, k, ())) ((leftL c k, ()), ()) := Evt.next (Evt.bind (e86 hc hk hl0 hl1 hC G) (Evt.bind (e77 c) (Evt.bind (e1136 hk hl0 hl1 hC G) (Evt.some ((leftL c k, ()), ()))))) (fun n => r79 n c k)
/- (impl.Cam).waste -/
theorem e88 {c k : List Int} (hc : Rng c) (hk : Rng k) (hl0 : 0 < c.length) (hl1 : c.length ≤ 1000) (hC : ∀ v ∈ c, 0 ≤ v ∧ v ≤ 10000) (G : GoodK k) : Evt (fun n => call T C n 88 (c, k, ())) ((waste c k, ()), ()) := by
  have hll := leftL_len c k
  refine Evt.next (Evt.bind (e79 hc hk hl0 hl1 hC G) ?_) (fun n => r88 n c k)
  refine for_evt' 0 (c.length : Int) (fun i (_ : Unit) => (c, wsTo c (leftL c k) i.toNat, leftL c k, ((leftL c k).length : Int), i, ())) (fun _ _ => True) (b0 := ()) rfl (by omega) trivial ?_ ?_
  · intro i _ h2 h3 _
    obtain ⟨a, rfl⟩ : ∃ a : Nat, i = a := ⟨i.toNat, by omega⟩
    have ha := g_idx (l := leftL c k) (i := (a : Int)) (by omega) (by omega)
    have hb := g_idx (l := c) (i := (a : Int)) (by omega) (by omega)
    rw [Int.toNat_natCast] at ha hb
    have h4 := wsTo_bd hl0 hC G a (by omega)
    have h5 := leftTo_bd hl0 hC G c.length _ (g_mem (l := leftL c k) (i := a) (by omega))
    have h6 := hC _ (g_mem (l := c) (i := a) (by omega))
    have e16 : wr .i16 (g (leftL c k) a - g c a) = g (leftL c k) a - g c a := wrap16 (by omega) (by omega)
    simp only [Int.toNat_natCast, wr_succ h2 h3 (by omega)]
    refine Round.yes (decide_eq_true (by omega)) (Round.at ha.idx (Round.at hb.idx (Round.again _ ⟨(), ?_, trivial⟩)))
    rw [show ((a : Int) + 1).toNat = a + 1 by omega, wsTo_succ, e16, wrap_id (x := g (leftL c k) a - g c a) (by omega) (by omega), wrap_id (x := wsTo c (leftL c k) a + (g (leftL c k) a - g c a)) (by omega) (by omega)]
  · intro _ _
    simp only [Int.toNat_natCast]
    exact Round.no (by simp [hll]) (Round.done (Evt.some _))
/- (impl.Cam).best -/
theorem e78 {c : List Int} {K : List (List Int)} (hc : Rng c) (hr : RngS K) (hl0 : 0 < c.length) (hl1 : c.length ≤ 1000) (hC : ∀ v ∈ c, 0 ≤ v ∧ v ≤ 10000) (G : GoodKs K) (hk1 : K.length ≤ 1000) : Evt (fun n => call T C n 78 (c, K, ())) (((bkTo c K K.length).1, (bkTo c K K.length).2, ()), ()) := by
  refine Evt.next ?_ (fun n => r78 n c K)
  refine for_evt' 0 (K.length : Int) (fun i (_ : Unit) => (c, (bkTo c K i.toNat).1, (bkTo c K i.toNat).2, K, (K.length : Int), i, ())) (fun _ _ => True) (b0 := ()) rfl (by omega) trivial ?_ ?_
  · intro i _ h2 h3 _
    obtain ⟨a, rfl⟩ : ∃ a : Nat, i = a := ⟨i.toNat, by omega⟩
    obtain ⟨v, hv⟩ := at_of (l := K) (i := (a : Int)) (by omega) h3
    have e : K.getD a [] = v := by have := getD_at (d := []) hv; rwa [Int.toNat_natCast] at this
    simp only [Int.toNat_natCast, wrap_id (x := (a : Int) + 1) (by omega) (by omega)]
    refine Round.yes (decide_eq_true h3) (Round.at hv.idx (Round.bind (e88 hc (hr.el _ hv.mem) hl0 hl1 hC (G.el _ hv.mem)) (Round.ite (fun hb => ?_) (fun hb => ?_))))
    · have hb : (bkTo c K a).2 < 0 := of_decide_eq_true hb
      refine Round.again _ ⟨(), ?_, trivial⟩
      rw [show ((a : Int) + 1).toNat = a + 1 by omega, bkTo_succ, e, if_pos (.inl hb)]
    · have hb : ¬ (bkTo c K a).2 < 0 := by simpa using hb
      refine Round.ite (fun hx => ?_) (fun hx => ?_)
      · have hx : waste c v < (bkTo c K a).2 := by simpa using hx
        refine Round.again _ ⟨(), ?_, trivial⟩
        rw [show ((a : Int) + 1).toNat = a + 1 by omega, bkTo_succ, e, if_pos (.inr hx)]
      · have hx : ¬ waste c v < (bkTo c K a).2 := by simpa using hx
        refine Round.again _ ⟨(), ?_, trivial⟩
        rw [show ((a : Int) + 1).toNat = a + 1 by omega, bkTo_succ, e, if_neg (by omega)]
  · intro _ _
    simp only [Int.toNat_natCast]
    exact Round.no (by simp) (Round.done (Evt.some _))
/- impl.CheckPlan -/
theorem e22 (c : List Int) (x : Int) (K : List (List Int)) (l : List Ct) (hc : Rng c) (hk : RngS K) (hr : RngC l) : Evt (fun n => call T C n 22 (c, x, K, l, ())) (cpR c x K l, ()) := by
  refine Evt.next (Evt.bind (e59 c K l hc hk hr) (Evt.bind (e73 x) (Evt.bind (e72 _ _) (Evt.bind (e71 _ (by simp)) ?_)))) (fun n => r22 n c x K l)
  by_cases h1 : gvCode c K l = 0
  · have G := goodG hr h1
    have hcl := okC_len G.hc
    have hC := okC_el G.hc hc
    have GL := G.toL
    have hn := G.n
    have hll := G.l
    have hc0 : 0 < c.length := by omega
    have hc1 : c.length ≤ 1000 := by omega
    rw [h1]
    cases h2 : inR x 0 10000 with
    | false =>
      have e : cpCode c x K l = 2 := by unfold cpCode; rw [if_neg (by simpa using h1), h2]; rfl
      rw [cpR_bad e (by decide)]
      exact Evt.yes rfl (Evt.some _)
    | true =>
      refine Evt.no (by decide) (Evt.bind (e74 c hc (by omega)) ?_)
      have hm := mxL_bd hc G.hc
      show Evt (fun n => if decide (wr .i64 (mxL c) > x) = true then _ else _) _
      rw [wrap_id (x := mxL c) (by omega) (by omega)]
      by_cases h3 : mxL c > x
      · have e : cpCode c x K l = 4 := by unfold cpCode; rw [if_neg (by simpa using h1), h2, if_pos rfl, if_pos h3]
        rw [cpR_bad e (by decide)]
        exact Evt.yes (decide_eq_true h3) (Evt.some _)
      · have e : cpCode c x K l = 0 := by unfold cpCode; rw [if_neg (by simpa using h1), h2, if_pos rfl, if_neg h3]
        rw [cpR_ok e]
        refine Evt.no (by simpa using h3) (Evt.bind (e75 c K l hc hk hr G) ?_)
        unfold cpT
        refine Evt.ite (fun hb => ?_) (fun hb => ?_)
        · rw [if_pos (of_decide_eq_true hb)]; exact Evt.some _
        rw [if_neg (by simpa using hb)]
        obtain ⟨i0, i1⟩ := bkTo_in c K K.length (by omega)
        obtain ⟨k, hk'⟩ := at_of (l := K) i0 i1
        have ek : K.getD (bkTo c K K.length).1.toNat [] = k := getD_at hk'
        have Gk := (goodKs hk G.hk).el k hk'.mem
        have h8 : inR (c.length : Int) 8 360 = true := inR_iff.2 hcl
        have S := flat_surf (m := c.length) h2
        rw [ek]
        refine Evt.bind (e77 c) (Evt.bind (e76 h8 h2) ?_)
        simp only [Int.toNat_natCast]
        refine for_evt' 0 (l.length : Int) (fun i (_ : Unit) => (c, x, K, (doF K (l.take i.toNat) (List.replicate c.length x)).1, l, (l.length : Int), i, ())) (fun _ _ => True) (b0 := ()) (by simp [doF]) (by omega) trivial ?_ ?_
        · intro i _ h5 h6 _
          obtain ⟨v, hv⟩ := at_of h5 h6
          obtain ⟨S1, b1, b2, _⟩ := doF_surf hk GL S i.toNat
          refine Round.yes (decide_eq_true h6) (Round.at hv.idx (Round.bind (e61 hk hr GL S1 hv.mem) (Round.again _ ⟨(), ?_, trivial⟩)))
          rw [hv.take, doF_snoc, wr_succ h5 h6 (by omega)]
        · intro _ _
          simp only [take_all]
          refine Round.no (by simp) (Round.done (Evt.bind (e78 hc hk hc0 hc1 hC (goodKs hk G.hk) (by omega)) (Evt.at hk'.idx (Evt.bind (e79 hc (hk.el k hk'.mem) hc0 hc1 hC Gk) ?_))))
          obtain ⟨S1, _, _, hle⟩ := doF_surf hk GL S l.length
          rw [List.take_length] at S1 hle
          have hte := leftL_bd hc0 hC Gk
          have htl := leftL_len c k
          obtain ⟨d, hd⟩ : ∃ d, d = (doF K l (List.replicate c.length x)).1 := ⟨_, rfl⟩
          rw [← hd] at S1 hle
          obtain ⟨t, ht⟩ : ∃ t, t = leftL c k := ⟨_, rfl⟩
          rw [← ht] at hte htl
          have hdl := S1.len
          have hde := S1.el
          rw [← hd, ← ht]
          have hx := inR_iff.1 h2
          refine for_evt' 0 (t.length : Int) (fun i (_ : Unit) => (x, d, t, (t.length : Int), i, ())) (fun i _ => allTo (fun i => !decide (g d i > g t i)) i.toNat = true) (b0 := ()) rfl (by omega) (by simp [allTo]) ?_ ?_
          · intro i _ h5 h6 hp
            have a1 := g_idx (l := d) (i := i) h5 (by omega)
            have a2 := g_idx (l := t) (i := i) h5 h6
            have b1 := hde _ a1.mem
            have b2 := hte _ a2.mem
            have b3 := hle i.toNat (by omega)
            rw [g_flat _ _ (by omega)] at b3
            refine Round.yes (decide_eq_true h6) (Round.at a2.idx (Round.chk (decide_eq_true (show 0 ≤ i ∧ i < (d.length : Int) by omega)) (Round.at a1.get ?_)))
            simp only [wrap_id (x := g d i.toNat) (by omega) (by omega), wrap_id (x := g t i.toNat) (by omega) (by omega)]
            have hiff : decide (g d i.toNat > (if x < g t i.toNat then x else g t i.toNat)) = decide (g d i.toNat > g t i.toNat) := by
              split
              · rw [decide_eq_decide]; omega
              · rfl
            rw [hiff]
            refine Round.ite (fun hb => ?_) (fun hb => ?_)
            · have : notOver d t = false := allTo_false (i := i.toNat) (by omega) (by rw [hb]; rfl)
              rw [this]
              exact Round.done (Evt.some _)
            · have hb : decide (g d i.toNat > g t i.toNat) = false := by simpa using hb
              refine Round.again _ ⟨(), by rw [wr_succ h5 h6 (by omega)], ?_⟩
              rw [show (i + 1).toNat = i.toNat + 1 by omega, allTo_succ, hp, hb]
              rfl
          · intro _ hp
            have : notOver d t = true := by rw [Int.toNat_natCast, htl, ← hdl] at hp; exact hp
            rw [this]
            exact Round.no (by simp) (Round.done (Evt.some _))
  · have e : cpCode c x K l = gvCode c K l := by unfold cpCode; rw [if_pos h1]
    rw [cpR_bad e h1]
    have hf : fst0 [gvCode c K l, if (!inR x 0 10000) = true then 2 else 0] = gvCode c K l := by simp [fst0, h1]
    rw [hf]
    exact Evt.yes (by simpa using h1) (Evt.some _)
/- laws.eqCam -/
theorem e14 (l : List Int) (hl : (l.length : Int) ≤ 140737488351232) : Evt (fun n => call T C n 14 (l, l, ())) ((true, ()), ()) := by
  refine Evt.next (Evt.no (by simp) ?_) (fun n => r14 n l l)
  refine for_evt 0 (l.length : Int) (fun i (_ : Unit) => (l, l, i, ())) (fun _ _ => True) (b0 := ()) (by omega) trivial ?_ ?_
  · intro i _ h2 h3 _
    obtain ⟨v, hv⟩ := at_of h2 h3
    refine Round.yes (decide_eq_true h3) (Round.at hv.idx (Round.at hv.idx (Round.no (by simp) (Round.again _ ⟨(), ?_, trivial⟩))))
    rw [wr_succ h2 h3 (by omega)]
  · intro _ _
    exact Round.no (by simp) (Round.done (Evt.some _))
/- laws.eqCutter -/
theorem e62 (l : List Int) (hl : (l.length : Int) ≤ 140737488351232) : Evt (fun n => call T C n 62 (l, l, ())) ((true, ()), ()) := by
  refine Evt.next (Evt.no (by simp) ?_) (fun n => r62 n l l)
  refine for_evt 0 (l.length : Int) (fun i (_ : Unit) => (l, l, i, ())) (fun _ _ => True) (b0 := ()) (by omega) trivial ?_ ?_
  · intro i _ h2 h3 _
    obtain ⟨v, hv⟩ := at_of h2 h3
    refine Round.yes (decide_eq_true h3) (Round.at hv.idx (Round.at hv.idx (Round.no (by simp) (Round.again _ ⟨(), ?_, trivial⟩))))
    rw [wr_succ h2 h3 (by omega)]
  · intro _ _
    exact Round.no (by simp) (Round.done (Evt.some _))
/- laws.eqCutterS -/
theorem e15 (K : List (List Int)) (hr : RngS K) : Evt (fun n => call T C n 15 (K, K, ())) ((true, ()), ()) := by
  have hl := hr.len'
  refine Evt.next (Evt.no (by simp) ?_) (fun n => r15 n K K)
  refine for_evt' 0 (K.length : Int) (fun i (_ : Unit) => (K, K, i, ())) (fun _ _ => True) (b0 := ()) rfl (by omega) trivial ?_ ?_
  · intro i _ h2 h3 _
    obtain ⟨v, hv⟩ := at_of h2 h3
    have hvl := (hr.el v hv.mem).len'
    refine Round.yes (decide_eq_true h3) (Round.at hv.idx (Round.at hv.idx (Round.bind (e62 v (by omega)) (Round.no (by simp) (Round.again _ ⟨(), ?_, trivial⟩)))))
    rw [wr_succ h2 h3 (by omega)]
  · intro _ _
    exact Round.no (by simp) (Round.done (Evt.some _))
/- laws.eqCut -/
theorem e63 (v : Ct) : Evt (fun n => call T C n 63 (v, v, ())) ((true, ()), ()) := Evt.next (Evt.no (by simp) (Evt.no (by simp) (Evt.no (by simp) (Evt.some _)))) (fun n => r63 n v v)
/- laws.eqCutS -/
theorem e16 (l : List Ct) (hl : (l.length : Int) ≤ 140737488351232) : Evt (fun n => call T C n 16 (l, l, ())) ((true, ()), ()) := by
  refine Evt.next (Evt.no (by simp) ?_) (fun n => r16 n l l)
  refine for_evt 0 (l.length : Int) (fun i (_ : Unit) => (l, l, i, ())) (fun _ _ => True) (b0 := ()) (by omega) trivial ?_ ?_
  · intro i _ h2 h3 _
    obtain ⟨v, hv⟩ := at_of h2 h3
    refine Round.yes (decide_eq_true h3) (Round.at hv.idx (Round.at hv.idx (Round.bind (e63 v) (Round.no (by simp) (Round.again _ ⟨(), ?_, trivial⟩)))))
    rw [wr_succ h2 h3 (by omega)]
  · intro _ _
    exact Round.no (by simp) (Round.done (Evt.some _))
/- laws.FnExactCheckPlan -/
theorem e4 (c : List Int) (x : Int) (K : List (List Int)) (l : List Ct) (hd : DomA (C 4).params (c, x, K, l, ())) : Evt (fun n => call T C n 4 (c, x, K, l, ())) ((true, ()), ()) := by
  have hc : Rng c := rng_of hd.1
  have hk : RngS K := rngS_of hd.2.2.1
  have hr : RngC l := rngC_of hd.2.2.2.1
  have hcl := hc.len'
  have hkl := hk.len'
  have hll := hr.len'
  refine Evt.next (Evt.ite (fun _ => Evt.some _) (fun _ => ?_)) (fun n => r4 n c x K l)
  refine Evt.bind (e7 K (by omega) 1048576) (Evt.ite (fun _ => Evt.some _) (fun _ => ?_))
  refine Evt.bind (e8 l _) (Evt.ite (fun _ => Evt.some _) (fun _ => ?_))
  have to1 := e10 c hc.len
  have to2 := e11 K hk
  have to3 := e12 l hr
  refine Evt.bind to1 (Evt.bind to2 (Evt.bind to3 (Evt.bind (e21 c x K l hc hk hr) (Evt.bind to1 (Evt.bind to2 (Evt.bind to3 (Evt.bind (e22 c x K l hc hk hr) ?_)))))))
  refine Evt.no (by simp) (Evt.no (by simp) ?_)
  exact Evt.bind to1 (Evt.bind (e14 c (by omega)) (Evt.no (by simp) (Evt.bind to2 (Evt.bind (e15 K hk) (Evt.no (by simp) (Evt.bind to3 (Evt.bind (e16 l (by omega)) (Evt.no (by simp) (Evt.some _)))))))))

end Go.Cams.YtoafnbpahdnchaaLCheckPlan
