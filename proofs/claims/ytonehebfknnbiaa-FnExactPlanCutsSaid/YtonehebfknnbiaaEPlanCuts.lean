/- What the functions that the law reaches come to. -/
import Derived.Test.YtonehebfknnbiaaRPlanCuts
import Derived.Test.YtonehebfknnbiaaPu13
namespace Go.Cams.YtonehebfknnbiaaLPlanCuts
open Go Go.Fw Go.Proofs Go.Proofs.Ytonehebfknnbiaa.LPlanCuts
/- laws.szCutter -/
theorem e83 (l : List Int) (a : Int) : Evt (fun n => call T C n 83 (l, a, ())) ((sz1 l a, ()), ()) := by
  refine Evt.next ?_ (fun n => r83 n l a)
  unfold sz1
  refine Evt.ite (fun h => ?_) (fun h => ?_)
  · rw [if_pos (of_decide_eq_true h)]; exact Evt.some _
  · rw [if_neg (by simpa using h)]; exact Evt.some _
/- laws.szCutterS -/
theorem e9 (K : List (List Int)) (hl : (K.length : Int) ≤ 140737488351232) (a : Int) : Evt (fun n => call T C n 9 (K, a, ())) ((szL K a, ()), ()) := by
  refine Evt.next ?_ (fun n => r9 n K a)
  unfold szL
  refine Evt.ite (fun h => ?_) (fun h => ?_)
  · rw [if_pos (of_decide_eq_true h)]; exact Evt.some _
  · rw [if_neg (by simpa using h)]
    generalize wr .i64 (a - (K.length : Int)) = b
    refine for_evt' 0 (K.length : Int) (fun i (c : Int) => (K, c, i, ())) (fun i c => szLf K b = szLf (K.drop i.toNat) c) (b0 := b) rfl (by omega) (by simp) ?_ ?_
    · intro i c h2 h3 hp
      obtain ⟨v, hv⟩ := at_of h2 h3
      rw [hv.drop] at hp
      simp only [szLf] at hp
      refine Round.yes (decide_eq_true h3) (Round.at hv.idx (Round.bind (e83 v c) (Round.ite (fun hb => ?_) (fun hb => ?_))))
      · rw [hp, if_pos (of_decide_eq_true hb)]
        exact Round.done (Evt.some _)
      · rw [if_neg (by simpa using hb)] at hp
        exact Round.again _ ⟨sz1 v c, by rw [wr_succ h2 h3 (by omega)], hp⟩
    · intro c hp
      rw [drop_all] at hp
      rw [hp]
      exact Round.no (by simp) (Round.done (Evt.some _))
/- laws.toCam -/
theorem e11 (l : List Int) (hl : (l.length : Int) * 2 ≤ 140737488351232) : Evt (fun n => call T C n 11 (l, ())) ((l, ()), ()) := by
  refine Evt.next (Evt.chk (by simp; omega) ?_) (fun n => r11 n l)
  refine for_evt 0 (l.length : Int) (fun i (b : List Int) => (l, b, i, ())) (fun i b => b.length = l.length ∧ b.take i.toNat = l.take i.toNat) (b0 := List.replicate (Int.toNat (l.length : Int)) 0) (by omega) ⟨by simp, by simp⟩ ?_ ?_
  · intro i b h2 h3 ⟨hb, ht⟩
    have hi : i < (b.length : Int) := by omega
    obtain ⟨v, hv⟩ := at_of h2 h3
    obtain ⟨u, hu⟩ := get_of_lt h2 hi
    refine Round.yes (decide_eq_true h3) (Round.at hv.idx (Round.chk (chk_at h2 hi) (Round.at hu (Round.again _ ⟨b.set i.toNat v, ?_, by simpa using hb, ?_⟩))))
    · rw [wr_succ h2 h3 (by omega)]
    · rw [take_set_succ h2 hi, ht, hv.take]
  · intro b ⟨hb, ht⟩
    have e : b = l := by rw [← take_all b, hb, ht]; simp
    rw [e]
    exact Round.no (by simp) (Round.done (Evt.some _))
/- laws.toCutter -/
theorem e91 (l : List Int) (hl : (l.length : Int) * 2 ≤ 140737488351232) : Evt (fun n => call T C n 91 (l, ())) ((l, ()), ()) := by
  refine Evt.next (Evt.chk (by simp; omega) ?_) (fun n => r91 n l)
  refine for_evt 0 (l.length : Int) (fun i (b : List Int) => (l, b, i, ())) (fun i b => b.length = l.length ∧ b.take i.toNat = l.take i.toNat) (b0 := List.replicate (Int.toNat (l.length : Int)) 0) (by omega) ⟨by simp, by simp⟩ ?_ ?_
  · intro i b h2 h3 ⟨hb, ht⟩
    have hi : i < (b.length : Int) := by omega
    obtain ⟨v, hv⟩ := at_of h2 h3
    obtain ⟨u, hu⟩ := get_of_lt h2 hi
    refine Round.yes (decide_eq_true h3) (Round.at hv.idx (Round.chk (chk_at h2 hi) (Round.at hu (Round.again _ ⟨b.set i.toNat v, ?_, by simpa using hb, ?_⟩))))
    · rw [wr_succ h2 h3 (by omega)]
    · rw [take_set_succ h2 hi, ht, hv.take]
  · intro b ⟨hb, ht⟩
    have e : b = l := by rw [← take_all b, hb, ht]; simp
    rw [e]
    exact Round.no (by simp) (Round.done (Evt.some _))
/- laws.toCutterS -/
theorem e12 (K : List (List Int)) (hr : RngS K) : Evt (fun n => call T C n 12 (K, ())) ((K, ()), ()) := by
  have hl := hr.len
  refine Evt.next (Evt.chk (by simp; omega) ?_) (fun n => r12 n K)
  refine for_evt' 0 (K.length : Int) (fun i (b : List (List Int)) => (K, b, i, ())) (fun i b => b.length = K.length ∧ b.take i.toNat = K.take i.toNat) (b0 := List.replicate (Int.toNat (K.length : Int)) []) rfl (by omega) ⟨by simp, by simp⟩ ?_ ?_
  · intro i b h2 h3 ⟨hb, ht⟩
    have hi : i < (b.length : Int) := by omega
    obtain ⟨v, hv⟩ := at_of h2 h3
    obtain ⟨u, hu⟩ := get_of_lt h2 hi
    refine Round.yes (decide_eq_true h3) (Round.at hv.idx (Round.bind (e91 v (hr.el v hv.mem).len) (Round.chk (chk_at h2 hi) (Round.at hu (Round.again _ ⟨b.set i.toNat v, ?_, by simpa using hb, ?_⟩)))))
    · rw [wr_succ h2 h3 (by omega)]
    · rw [take_set_succ h2 hi, ht, hv.take]
  · intro b ⟨hb, ht⟩
    have e : b = K := by rw [← take_all b, hb, ht]; simp
    rw [e]
    exact Round.no (by simp) (Round.done (Evt.some _))
/- spec.l00In -/
theorem e86 (a b c : Int) : Evt (fun n => call T C n 86 (a, b, c, ())) ((inR a b c, ()), ()) := by
  refine Evt.next ?_ (fun n => r86 n a b c)
  refine Evt.ite (fun h => ?_) (fun h => ?_)
  · refine (Evt.some _).of_eq fun n => ?_
    have h : b ≤ a := of_decide_eq_true h
    simp [inR, h]
    rfl
  · refine (Evt.some _).of_eq fun n => ?_
    have h : ¬ b ≤ a := by simpa using h
    simp [inR, h]
    rfl
/- spec.l01Steps -/
theorem e200 (a : Int) : Evt (fun n => call T C n 200 (a, ())) ((inR a 8 360, ()), ()) := Evt.next (Evt.bind (e86 a 8 360) (Evt.some _)) (fun n => r200 n a)
/- spec.l01Lift -/
theorem e85 (a : Int) : Evt (fun n => call T C n 85 (a, ())) ((inR a 0 10000, ()), ()) := Evt.next (Evt.bind (e86 a 0 10000) (Evt.some _)) (fun n => r85 n a)
/- spec.l01Ok -/
theorem e111 (l : List Int) (hl : (l.length : Int) ≤ 140737488351232) : Evt (fun n => call T C n 111 (l, ())) ((okC l, ()), ()) := by
  refine Evt.next ?_ (fun n => r111 n l)
  refine Evt.bind (e200 _) ?_
  refine Evt.ite (fun h => ?_) (fun h => ?_)
  · refine (Evt.some _).of_eq fun n => ?_
    have h : inR (l.length : Int) 8 360 = false := by simpa using h
    simp [okC, h]
    rfl
  · have h : inR (l.length : Int) 8 360 = true := by simpa using h
    have he : okC l = l.all okV := by simp [okC, h]
    rw [he]
    refine loop_evt (fun (x : List Int × Int × Unit) => x.1 = l ∧ 0 ≤ x.2.1 ∧ x.2.1 ≤ (l.length : Int) ∧ l.all okV = (l.drop x.2.1.toNat).all okV) (fun (x : List Int × Int × Unit) => ((l.length : Int) - x.2.1).toNat) (x := (l, 0, ())) ⟨rfl, Int.le_refl _, by simp, by simp⟩ ?_
    rintro ⟨x1, i, _⟩ ⟨h', h0, h1, h2⟩
    simp only at h' h0 h1 h2
    subst h'
    refine Round.ite (fun hlt => ?_) (fun hge => ?_)
    · have hlt : i < (x1.length : Int) := of_decide_eq_true hlt
      obtain ⟨v, hv, hv'⟩ := idx_at h0 hlt
      have hd := drop_cons hv'
      refine Round.at hv (Round.bind (e85 _) (Round.ite (fun hb => ?_) (fun hb => ?_)))
      · have hb : okV v = false := by simpa [okV] using hb
        have h3 : x1.all okV = false := by rw [h2, hd]; simp [hb]
        rw [h3]
        exact Round.done (Evt.some _)
      · have hb : okV v = true := by simpa [okV] using hb
        have hw : wr .i64 (i + 1) = i + 1 := wrap_id (by omega) (by omega)
        refine Round.again _ ⟨⟨rfl, ?_, ?_, ?_⟩, ?_⟩ <;> simp only [hw]
        · omega
        · omega
        · rw [h2, hd, show (i + 1).toNat = i.toNat + 1 by omega]
          simp [hb]
        · omega
    · have hge : ¬ i < (x1.length : Int) := by simpa using hge
      have : x1.drop i.toNat = [] := List.drop_of_length_le (by omega)
      rw [h2, this]
      exact Round.done (Evt.some _)
/- spec.l06Some -/
theorem e245 (K : List (List Int)) : Evt (fun n => call T C n 245 (K, ())) ((inR (K.length : Int) 1 8, ()), ()) := Evt.next (Evt.bind (e86 _ _ _) (Evt.some _)) (fun n => r245 n K)
/- spec.l06Ok -/
theorem e182 (k : List Int) (hr : Rng k) : Evt (fun n => call T C n 182 (k, ())) ((okK k, ()), ()) := by
  have hl := hr.len'
  refine Evt.next (Evt.bind (e86 _ _ _) ?_) (fun n => r182 n k)
  unfold okK
  cases h1 : inR (k.length : Int) 1 31 with
  | false => exact Evt.yes rfl (Evt.some _)
  | true =>
    have hb := inR_iff.1 h1
    have hm : Int.tmod (k.length : Int) 2 = ((k.length % 2 : Nat) : Int) := by rw [show (2 : Int) = ((2 : Nat) : Int) from rfl, ← Int.ofNat_tmod]
    have hd : Int.tdiv (k.length : Int) 2 = ((k.length / 2 : Nat) : Int) := by rw [show (2 : Int) = ((2 : Nat) : Int) from rfl, ← Int.ofNat_tdiv]
    rw [hm, hd, wrap_id (x := ((k.length / 2 : Nat) : Int)) (by omega) (by omega)]
    refine Evt.no (by simp) (Evt.chk rfl (Evt.ite (fun h => ?_) (fun h => ?_)))
    · have h : k.length % 2 = 0 := by
        have h' : (k.length : Int) % 2 = 0 := by simpa using h
        omega
      have e : decide (k.length % 2 = 1) = false := decide_eq_false (by omega)
      rw [e]; exact Evt.some _
    · have h : k.length % 2 = 1 := by
        have h' : ¬ (k.length : Int) % 2 = 0 := by simpa using h
        omega
      have e : decide (k.length % 2 = 1) = true := decide_eq_true h
      rw [e]
      have hmid := g_idx (l := k) (i := ((k.length / 2 : Nat) : Int)) (by omega) (by omega)
      rw [Int.toNat_natCast] at hmid
      refine Evt.chk rfl (Evt.at hmid.idx (Evt.ite (fun h0 => ?_) (fun h0 => ?_)))
      · have h0 : (g k (k.length / 2) == 0) = false := by simpa using h0
        rw [h0]; exact Evt.some _
      · have h0 : (g k (k.length / 2) == 0) = true := by simpa using h0
        rw [h0]
        simp only [Bool.true_and]
        refine for_evt' 0 (((k.length / 2 : Nat) : Int) + 1) (fun i (_ : Unit) => (k, (k.length : Int), i, ())) (fun i _ => allTo (kOne k) i.toNat = true) (b0 := ()) rfl (by omega) (by rfl) ?_ ?_
        · intro i _ h2 h3 hp
          obtain ⟨a, rfl⟩ : ∃ a : Nat, i = a := ⟨i.toNat, by omega⟩
          rw [Int.toNat_natCast] at hp
          have h3' : a < k.length / 2 + 1 := by omega
          have hai := g_idx (l := k) (i := (a : Int)) (by omega) (by omega)
          have haj := g_idx (l := k) (i := (k.length : Int) - 1 - a) (by omega) (by omega)
          rw [Int.toNat_natCast] at hai
          rw [show ((k.length : Int) - 1 - a).toNat = k.length - 1 - a by omega] at haj
          have bad : kOne k a = false → allTo (kOne k) (k.length / 2 + 1) = false := allTo_false h3'
          simp only [hd, wrap_id (x := ((k.length / 2 : Nat) : Int)) (by omega) (by omega), wrap_id (x := (a : Int) + 1) (by omega) (by omega), wrap_id (x := (a : Int) - 1) (by omega) (by omega), wrap_id (x := (k.length : Int) - 1) (by omega) (by omega), wrap_id (x := (k.length : Int) - 1 - (a : Int)) (by omega) (by omega)]
          refine Round.chk rfl (Round.yes (decide_eq_true (by omega)) (Round.at hai.idx (Round.bind (e85 _) (Round.ite (fun c1 => ?_) (fun c1 => ?_)))))
          · have c1 : inR (wr .i64 (g k a)) 0 10000 = false := by simpa using c1
            rw [bad (by simp [kOne, c1])]
            exact Round.done (Evt.some _)
          have c1 : inR (wr .i64 (g k a)) 0 10000 = true := by simpa using c1
          refine Round.at haj.idx (Round.at hai.idx (Round.ite (fun c2 => ?_) (fun c2 => ?_)))
          · have c2 : (g k (k.length - 1 - a) == g k a) = false := by simpa using c2
            rw [bad (by simp [kOne, c2])]
            exact Round.done (Evt.some _)
          have c2 : (g k (k.length - 1 - a) == g k a) = true := by simpa using c2
          have again : kOne k a = true → ∃ b' : Unit, ((k, (k.length : Int), (a : Int) + 1, ()) : List Int × Int × Int × Unit) = (k, (k.length : Int), (a : Int) + 1, ()) ∧ allTo (kOne k) ((a : Int) + 1).toNat = true := fun h => ⟨(), rfl, by rw [show ((a : Int) + 1).toNat = a + 1 by omega, allTo_succ, hp, h]; rfl⟩
          refine Round.ite (fun c3 => ?_) (fun c3 => ?_)
          · have c3 : (a : Int) > 0 := of_decide_eq_true c3
            have hab := g_idx (l := k) (i := (a : Int) - 1) (by omega) (by omega)
            rw [show ((a : Int) - 1).toNat = a - 1 by omega] at hab
            refine Round.at hab.idx (Round.at hai.idx (Round.ite (fun c4 => ?_) (fun c4 => ?_)))
            · have c4 : g k (a - 1) < g k a := by simpa using c4
              rw [bad (by simp [kOne, c4]; omega)]
              exact Round.done (Evt.some _)
            · have c4 : ¬ g k (a - 1) < g k a := by simpa using c4
              exact Round.again _ (again (by simp only [kOne, c1, c2]; simp; omega))
          · have c3 : ¬ (a : Int) > 0 := by simpa using c3
            exact Round.no (by simp) (Round.again _ (again (by simp only [kOne, c1, c2]; simp; omega)))
        · intro _ hp
          have hp : allTo (kOne k) (k.length / 2 + 1) = true := by
            rw [show (((k.length / 2 : Nat) : Int) + 1).toNat = k.length / 2 + 1 by omega] at hp; exact hp
          rw [hp]
          simp only [hd, wrap_id (x := ((k.length / 2 : Nat) : Int)) (by omega) (by omega)]
          exact Round.chk rfl (Round.no (by simp; omega) (Round.done (Evt.some _)))
/- spec.l06Cutters -/
theorem e246 (K : List (List Int)) (hr : RngS K) : Evt (fun n => call T C n 246 (K, ())) ((okKs K, ()), ()) := by
  have hl := hr.len'
  refine Evt.next ?_ (fun n => r246 n K)
  refine for_evt' 0 (K.length : Int) (fun i (_ : Unit) => (K, i, ())) (fun i _ => okKs K = (K.drop i.toNat).all okK) (b0 := ()) rfl (by omega) (by simp [okKs]) ?_ ?_
  · intro i _ h2 h3 hp
    obtain ⟨v, hv⟩ := at_of h2 h3
    rw [hv.drop, List.all_cons] at hp
    refine Round.yes (decide_eq_true h3) (Round.at hv.idx (Round.bind (e182 v (hr.el v hv.mem)) ?_))
    cases hb : okK v with
    | false => rw [hp, hb]; exact Round.yes rfl (Round.done (Evt.some _))
    | true =>
      rw [hb, Bool.true_and] at hp
      exact Round.no (by simp) (Round.again _ ⟨(), by rw [wr_succ h2 h3 (by omega)], hp⟩)
  · intro _ hp
    rw [drop_all] at hp
    rw [hp]
    exact Round.no (by simp) (Round.done (Evt.some _))
/- spec.l06Plain -/
theorem e247 (l : List Ct) (m : Int) : Evt (fun n => call T C n 247 (l, m, ())) ((okCt l m, ()), ()) := by
  refine Evt.next ?_ (fun n => r247 n l m)
  unfold okCt
  refine Evt.ite (fun h => ?_) (fun h => ?_)
  · have h : (l.length : Int) > 400 := of_decide_eq_true h
    rw [decide_eq_false (show ¬ (l.length : Int) ≤ 400 by omega)]
    exact Evt.some _
  have h : ¬ (l.length : Int) > 400 := by simpa using h
  rw [decide_eq_true (show (l.length : Int) ≤ 400 by omega)]
  simp only [Bool.true_and]
  refine for_evt' 0 (l.length : Int) (fun i (_ : Unit) => (l, m, i, ())) (fun i _ => l.all (ctOk m) = (l.drop i.toNat).all (ctOk m)) (b0 := ()) rfl (by omega) (by simp) ?_ ?_
  · intro i _ h2 h3 hp
    obtain ⟨v, hv⟩ := at_of h2 h3
    have bad : ctOk m v = false → l.all (ctOk m) = false := all_false hv.mem
    rw [hv.drop, List.all_cons] at hp
    refine Round.yes (decide_eq_true h3) (Round.at hv.idx (Round.bind (e86 _ _ _) ?_))
    cases c1 : inR (wr .i64 v.1) 0 359 with
    | false => rw [bad (by simp [ctOk, c1])]; exact Round.yes rfl (Round.done (Evt.some _))
    | true =>
      refine Round.no (by simp) (Round.bind (e85 _) ?_)
      cases c2 : inR (wr .i64 v.2.1) 0 10000 with
      | false => rw [bad (by simp [ctOk, c2])]; exact Round.yes rfl (Round.done (Evt.some _))
      | true =>
        refine Round.no (by simp) (Round.bind (e86 _ _ _) ?_)
        cases c3 : inR (wr .i64 v.2.2.1) 0 (wr .i64 (m - 1)) with
        | false => rw [bad (by simp [ctOk, c3])]; exact Round.yes rfl (Round.done (Evt.some _))
        | true =>
          have : ctOk m v = true := by simp [ctOk, c1, c2, c3]
          rw [this, Bool.true_and] at hp
          exact Round.no (by simp) (Round.again _ ⟨(), by rw [wr_succ h2 h3 (by omega)], hp⟩)
  · intro _ hp
    rw [drop_all] at hp
    rw [hp]
    exact Round.no (by simp) (Round.done (Evt.some _))
/- spec.l06Cuts -/
theorem e185 (l : List Ct) (K : List (List Int)) (hk : RngS K) : Evt (fun n => call T C n 185 (l, K, ())) ((okCuts l K, ()), ()) := by
  refine Evt.next (Evt.bind (e245 K) ?_) (fun n => r185 n l K)
  unfold okCuts
  cases inR (K.length : Int) 1 8 with
  | false => exact Evt.no (by simp) (Evt.some _)
  | true =>
    refine Evt.yes rfl (Evt.bind (e246 K hk) ?_)
    cases okKs K with
    | false => exact Evt.no (by simp) (Evt.some _)
    | true => exact Evt.yes rfl (Evt.bind (e247 l _) (Evt.some _))
/- spec.l06On -/
theorem e186 (l : List Ct) (hr : RngC l) (m : Int) : Evt (fun n => call T C n 186 (l, m, ())) ((onCt l m, ()), ()) := by
  have hl := hr.len'
  refine Evt.next ?_ (fun n => r186 n l m)
  refine for_evt' 0 (l.length : Int) (fun i (_ : Unit) => (l, m, i, ())) (fun i _ => onCt l m = onCt (l.drop i.toNat) m) (b0 := ()) rfl (by omega) (by simp) ?_ ?_
  · intro i _ h2 h3 hp
    obtain ⟨v, hv⟩ := at_of h2 h3
    rw [hv.drop] at hp
    simp only [onCt, List.all_cons] at hp
    refine Round.yes (decide_eq_true h3) (Round.at hv.idx (Round.ite (fun hb => ?_) (fun hb => ?_)))
    · have e : onCt l m = false := by unfold onCt; rw [hp, hb]; rfl
      rw [e]; exact Round.done (Evt.some _)
    · have hb : decide (wr .i64 v.1 ≥ m) = false := by simpa using hb
      refine Round.again _ ⟨(), by rw [wr_succ h2 h3 (by omega)], ?_⟩
      unfold onCt
      rw [hp, hb]; rfl
  · intro _ hp
    rw [drop_all] at hp
    rw [hp]
    exact Round.no (by simp) (Round.done (Evt.some _))
/- spec.l06Given -/
theorem e84 (c : List Int) (K : List (List Int)) (l : List Ct) (hc : Rng c) (hk : RngS K) (hr : RngC l) : Evt (fun n => call T C n 84 (c, K, l, ())) ((gvCode c K l, ()), ()) := by
  have hcl := hc.len'
  refine Evt.next (Evt.bind (e111 c (by omega)) ?_) (fun n => r84 n c K l)
  unfold gvCode
  cases okC c with
  | false => exact Evt.yes rfl (Evt.some _)
  | true =>
    refine Evt.no (by simp) (Evt.bind (e185 l K hk) ?_)
    cases okCuts l K with
    | false => exact Evt.yes rfl (Evt.some _)
    | true =>
      refine Evt.no (by simp) (Evt.bind (e186 l hr _) ?_)
      cases onCt l c.length with
      | false => exact Evt.yes rfl (Evt.some _)
      | true => exact Evt.no (by simp) (Evt.some _)
/- spec.l00Min -/
theorem e89 (a b : Int) : Evt (fun n => call T C n 89 (a, b, ())) ((min a b, ()), ()) := by
  refine Evt.next (Evt.ite (fun h => ?_) (fun h => ?_)) (fun n => r89 n a b)
  · have h : a < b := of_decide_eq_true h
    rw [show min a b = a by omega]; exact Evt.some _
  · have h : ¬ a < b := by simpa using h
    rw [show min a b = b by omega]; exact Evt.some _
/- spec.l00Max -/
theorem e90 (a b : Int) : Evt (fun n => call T C n 90 (a, b, ())) ((max a b, ()), ()) := by
  refine Evt.next (Evt.ite (fun h => ?_) (fun h => ?_)) (fun n => r90 n a b)
  · have h : a > b := of_decide_eq_true h
    rw [show max a b = a by omega]; exact Evt.some _
  · have h : ¬ a > b := by simpa using h
    rw [show max a b = b by omega]; exact Evt.some _
/- spec.l01Range -/
theorem e187 (l : List Int) (hr : Rng l) (h0 : 0 < (l.length : Int)) : Evt (fun n => call T C n 187 (l, ())) ((mnL l, mxL l, ()), ()) := by
  have hlen := hr.len'
  obtain ⟨v0, hv0⟩ := at_of (l := l) (Int.le_refl 0) h0
  refine Evt.next (Evt.at hv0.idx ?_) (fun n => r187 n l)
  rw [hr.id hv0.mem]
  have hh := (head_at hv0).1
  refine for_evt' 1 (l.length : Int) (fun i (_ : Unit) => (l, mnF (l.take i.toNat) v0, mxF (l.take i.toNat) v0, i, ())) (fun _ _ => True) (b0 := ()) (by
    have := (head_at hv0).2
    show _ = (l, mnF (l.take 1) v0, mxF (l.take 1) v0, 1, ())
    rw [this]; simp [mnF, mxF]) (by omega) trivial ?_ ?_
  · intro i _ h2 h3 _
    obtain ⟨v, hv⟩ := at_of (l := l) (show 0 ≤ i by omega) h3
    simp only [wrap_id (x := i + 1) (by omega) (by omega)]
    refine Round.yes (decide_eq_true h3) (Round.at hv.idx (Round.bind (e89 _ _) (Round.at hv.idx (Round.bind (e90 _ _) (Round.again _ ⟨(), ?_, trivial⟩)))))
    rw [hv.take, mnF_snoc, mxF_snoc, hr.id hv.mem]
  · intro _ _
    have e1 : mnF (l.take (l.length : Int).toNat) v0 = mnL l := by rw [take_all, mnL, hh]
    have e2 : mxF (l.take (l.length : Int).toNat) v0 = mxL l := by rw [take_all, mxL, hh]
    simp only [e1, e2]
    exact Round.no (by simp) (Round.done (Evt.some _))
/- spec.l06Over -/
theorem e87 (c : List Int) (hr : Rng c) (h0 : 0 < (c.length : Int)) (x : Int) : Evt (fun n => call T C n 87 (c, x, ())) ((decide (mxL c > x), ()), ()) := Evt.next (Evt.bind (e187 c hr h0) (Evt.some _)) (fun n => r87 n c x)
/- spec.l01At -/
theorem e114 {l : List Int} (hr : Rng l) (h0 : 0 < (l.length : Int)) (h1 : (l.length : Int) ≤ 1000000) {x : Int} (hx : -4000000 ≤ x) (hx' : x ≤ 4000000) : ∃ v, l[(x % l.length).toNat]? = some v ∧ v ∈ l ∧ Evt (fun n => call T C n 114 (l, x, ())) ((v, ()), ()) := by
  have hp := Int.emod_nonneg x (show (l.length : Int) ≠ 0 by omega)
  obtain ⟨v, hv⟩ := at_of (l := l) hp (Int.emod_lt_of_pos x h0)
  refine ⟨v, hv.get, hv.mem, ?_⟩
  refine Evt.next (Evt.chk (bne_pos h0) (Evt.chk (bne_pos h0) ?_)) (fun n => r114 n l x)
  rw [turn_at h0 h1 hx hx']
  refine Evt.at hv.idx ((Evt.some _).of_eq fun n => ?_)
  rw [hr.id hv.mem]
  rfl
theorem e114' {l : List Int} (hr : Rng l) (h0 : 0 < (l.length : Int)) (h1 : (l.length : Int) ≤ 1000000) {x : Int} (hx : -4000000 ≤ x) (hx' : x ≤ 4000000) : Evt (fun n => call T C n 114 (l, x, ())) ((cAt l x, ()), ()) := by
  obtain ⟨v, hv, hm, he⟩ := e114 hr h0 h1 hx hx'
  have : cAt l x = v := by unfold cAt g; rw [List.getD_eq_getElem?_getD, hv]; rfl
  rw [this]; exact he
/- spec.l06Tip -/
theorem e188 {c k : List Int} (hc : Rng c) (hk : Rng k) (hl0 : 0 < c.length) (hl1 : c.length ≤ 1000) (hC : ∀ v ∈ c, 0 ≤ v ∧ v ≤ 10000) (G : GoodK k) {s : Int} (h0 : 0 ≤ s) (h1 : s ≤ 1000000) : Evt (fun n => call T C n 188 (c, k, s, ())) ((tip c k s, ()), ()) := by
  have hd : Int.tdiv (k.length : Int) 2 = ((k.length / 2 : Nat) : Int) := by rw [show (2 : Int) = ((2 : Nat) : Int) from rfl, ← Int.ofNat_tdiv]
  have hlo := G.lo
  have hhi := G.hi
  have hodd := G.odd
  refine Evt.next (Evt.chk rfl ?_) (fun n => r188 n c k s)
  rw [hd, wrap_id (x := ((k.length / 2 : Nat) : Int)) (by omega) (by omega), wrap_id (x := 0 - ((k.length / 2 : Nat) : Int)) (by omega) (by omega)]
  refine for_evt' 0 (k.length : Int) (fun i (_ : Unit) => (c, k, s, ((k.length / 2 : Nat) : Int), tipTo c k s i.toNat, i - ((k.length / 2 : Nat) : Int), ())) (fun _ _ => True) (b0 := ()) rfl (by omega) trivial ?_ ?_
  · intro i _ h2 h3 _
    obtain ⟨a, rfl⟩ : ∃ a : Nat, i = a := ⟨i.toNat, by omega⟩
    have hai := g_idx (l := k) (i := (a : Int)) (by omega) (by omega)
    rw [Int.toNat_natCast] at hai
    have hbd := tipTo_bd hl0 hC G.el s a (by omega)
    have hck := hC _ (cAt_mem hl0 (s + ((a : Int) - ((k.length / 2 : Nat) : Int))))
    have hka := G.el a (by omega)
    simp only [wrap_id (x := s + ((a : Int) - ((k.length / 2 : Nat) : Int))) (by omega) (by omega), show ((k.length / 2 : Nat) : Int) + ((a : Int) - ((k.length / 2 : Nat) : Int)) = a by omega, wrap_id (x := (a : Int)) (by omega) (by omega), wrap_id (x := (a : Int) - ((k.length / 2 : Nat) : Int) + 1) (by omega) (by omega)]
    refine Round.yes (decide_eq_true (by omega)) (Round.bind (e114' hc (by omega) (by omega) (by omega) (by omega)) (Round.at hai.idx (Round.bind (e90 _ _) (Round.again _ ⟨(), ?_, trivial⟩))))
    rw [hk.id (g_mem (by omega)), wrap_id (x := cAt c (s + ((a : Int) - ((k.length / 2 : Nat) : Int))) - g k a) (by omega) (by omega)]
    rw [show ((a : Int) + 1).toNat = a + 1 by omega, Int.toNat_natCast]
    rw [tipTo_succ]
    unfold half
    rw [show s + ((a : Int) - ((k.length / 2 : Nat) : Int)) = s + (a : Int) - ((k.length / 2 : Nat) : Int) by omega, show (a : Int) - ((k.length / 2 : Nat) : Int) + 1 = (a : Int) + 1 - ((k.length / 2 : Nat) : Int) by omega]
  · intro _ _
    simp only [Int.toNat_natCast]
    exact Round.no (by simp; omega) (Round.done (Evt.some _))
/- spec.l06Tips -/
theorem e88 {c k : List Int} (hc : Rng c) (hk : Rng k) (hl0 : 0 < c.length) (hl1 : c.length ≤ 1000) (hC : ∀ v ∈ c, 0 ≤ v ∧ v ≤ 10000) (G : GoodK k) : Evt (fun n => call T C n 88 (c, k, ())) ((tipsL c k c.length, ()), ()) := by
  refine Evt.next ?_ (fun n => r88 n c k)
  refine for_evt' 0 (c.length : Int) (fun i (_ : Unit) => (c, k, tipsL c k i.toNat, i, ())) (fun _ _ => True) (b0 := ()) rfl (by omega) trivial ?_ ?_
  · intro i _ h2 h3 _
    refine Round.yes (decide_eq_true h3) (Round.bind (e188 hc hk hl0 hl1 hC G h2 (show i ≤ 1000000 by omega)) (Round.chk (by simp [tipsL_len]; omega) (Round.again _ ⟨(), ?_, trivial⟩)))
    rw [tipsL_succ c k h2, wr_succ h2 h3 (by omega)]
  · intro _ _
    simp only [Int.toNat_natCast]
    exact Round.no (by simp) (Round.done (Evt.some _))
/- spec.PlanCuts -/
theorem eSR {c : List Int} {high : Int} {K : List (List Int)} {w deep : Int} (hc : Rng c) (hk : RngS K) (P : GoodP c high K w deep) : Evt (fun n => (idx K w).bind fun v4 => (call T C n 88 (c, v4, ())).bind fun r5 => chk (decide (0 ≤ (0 : Int) ∧ (0 : Int) < (r5.1.1.length : Int))) ((r5.1.1[(Int.toNat (0 : Int))]?).bind fun v7 => loopK (fun (x8 : Int × Int × Int × (List Int) × Int × Int × Unit) again9 => (if (decide (x8.2.2.2.2.2.1 < (x8.2.2.2.1.length : Int))) = true then (idx x8.2.2.2.1 x8.2.2.2.2.2.1).bind fun v10 => (call T C n 89 (x8.2.2.2.2.1, v10, ())).bind fun r11 => again9 (x8.1, x8.2.1, x8.2.2.1, x8.2.2.2.1, r11.1.1, (wr .i64 (x8.2.2.2.2.2.1 + (1 : Int))), ()) else loopK (fun (x12 : Int × Int × (List Int) × Int × (List (Int × (Int × (Int × Unit)))) × Int × Unit) again13 => (call T C n 90 ((wr .i64 (x12.2.2.2.2.2.1 - x12.2.1)), (0 : Int), ())).bind fun r15 => loopK (fun (x16 : Int × Int × (List Int) × Int × (List (Int × (Int × (Int × Unit)))) × Int × Int × Int × Unit) again17 => (if (decide (x16.2.2.2.2.2.2.2.1 < (x16.2.2.1.length : Int))) = true then (idx x16.2.2.1 x16.2.2.2.2.2.2.2.1).bind fun v19 => (if (decide (v19 ≥ x16.2.2.2.2.2.1)) = true then again17 (x16.1, x16.2.1, x16.2.2.1, x16.2.2.2.1, x16.2.2.2.2.1, x16.2.2.2.2.2.1, x16.2.2.2.2.2.2.1, (wr .i64 (x16.2.2.2.2.2.2.2.1 + (1 : Int))), ()) else (if ((x16.2.2.2.2.1.length : Int) == (400 : Int)) = true then some ((([] : (List (Int × (Int × (Int × Unit))))), (3 : Int), ()), (())) else (idx x16.2.2.1 x16.2.2.2.2.2.2.2.1).bind fun v20 => (call T C n 90 (x16.2.2.2.2.2.2.1, v20, ())).bind fun r21 => chk (decide ((x16.2.2.2.2.1.length + ([((wr .i16 x16.2.2.2.2.2.2.2.1), ((wr .i16 r21.1.1), ((wr .i8 x16.1), ())))] : (List (Int × (Int × (Int × Unit))))).length) * 6 ≤ 140737488355328)) (again17 (x16.1, x16.2.1, x16.2.2.1, x16.2.2.2.1, (x16.2.2.2.2.1 ++ ([((wr .i16 x16.2.2.2.2.2.2.2.1), ((wr .i16 r21.1.1), ((wr .i8 x16.1), ())))] : (List (Int × (Int × (Int × Unit)))))), x16.2.2.2.2.2.1, x16.2.2.2.2.2.2.1, (wr .i64 (x16.2.2.2.2.2.2.2.1 + (1 : Int))), ())))) else (if (decide (x16.2.2.2.2.2.2.1 ≤ x16.2.2.2.1)) = true then some ((x16.2.2.2.2.1, (0 : Int), ()), (())) else again13 (x16.1, x16.2.1, x16.2.2.1, x16.2.2.2.1, x16.2.2.2.2.1, x16.2.2.2.2.2.2.1, ())))) n (x12.1, x12.2.1, x12.2.2.1, x12.2.2.2.1, x12.2.2.2.2.1, x12.2.2.2.2.2.1, r15.1.1, (0 : Int), ())) n (x8.2.1, x8.2.2.1, x8.2.2.2.1, x8.2.2.2.2.1, ([] : (List (Int × (Int × (Int × Unit))))), x8.1, ()))) n (high, w, deep, r5.1.1, v7, (1 : Int), ()))) (pl (tipsL c (K.getD w.toNat []) c.length) deep w (high.toNat + 1) high [], ()) := by
  obtain ⟨k, hk'⟩ := at_of (l := K) P.w.1 P.w.2
  have hkd : K.getD w.toNat [] = k := getD_at hk'
  rw [hkd]
  have hcl := okC_len P.hc
  have hC := okC_el P.hc hc
  have Gk : GoodK k := (goodKs hk P.hk).el k hk'.mem
  have hl0 : 0 < c.length := by omega
  have hl1 : c.length ≤ 1000 := by omega
  have hn := P.n
  have hhi := P.hi
  have hw := P.w
  have hdp := P.d
  obtain ⟨t, ht⟩ : ∃ t, t = tipsL c k c.length := ⟨_, rfl⟩
  have htl : t.length = c.length := by rw [ht, tipsL_len]
  have hte : ∀ v ∈ t, 0 ≤ v ∧ v ≤ 10000 := by rw [ht]; exact tipsL_el hl0 hC Gk
  have hmn : 0 ≤ mnL t := by
    obtain ⟨v0, hv0⟩ := at_of (l := t) (Int.le_refl 0) (by omega)
    have := hte v0 hv0.mem
    unfold mnL
    rw [(head_at hv0).1]
    exact mnF_le t v0 0 this.1 (fun v hv => (hte v hv).1)
  refine Evt.at hk'.idx (Evt.bind (e88 hc (hk.el k hk'.mem) hl0 hl1 hC Gk) ?_)
  rw [← ht]
  obtain ⟨v0, hv0⟩ := at_of (l := t) (Int.le_refl 0) (by omega)
  refine Evt.chk (decide_eq_true (show 0 ≤ (0 : Int) ∧ (0 : Int) < (t.length : Int) by omega)) (Evt.at hv0.get ?_)
  have hh := (head_at hv0).1
  refine for_evt' 1 (t.length : Int) (fun i (_ : Unit) => (high, w, deep, t, mnF (t.take i.toNat) v0, i, ())) (fun _ _ => True) (b0 := ()) (by
    have := (head_at hv0).2
    show _ = (high, w, deep, t, mnF (t.take 1) v0, 1, ())
    rw [this]; simp [mnF]) (by omega) trivial ?_ ?_
  · intro i _ h2 h3 _
    obtain ⟨v, hv⟩ := at_of (l := t) (show 0 ≤ i by omega) h3
    simp only [wrap_id (x := i + 1) (by omega) (by omega)]
    refine Round.yes (decide_eq_true h3) (Round.at hv.idx (Round.bind (e89 _ _) (Round.again _ ⟨(), ?_, trivial⟩)))
    rw [hv.take, mnF_snoc]
  intro _ _
  have e2 : mnF (t.take (t.length : Int).toNat) v0 = mnL t := by rw [take_all, mnL, hh]
  simp only [e2]
  refine Round.no (by simp) (Round.done ?_)
  refine loop_evt (fun x => ∃ (f : Nat) (above : Int) (o : List Ct), x = (w, deep, t, mnL t, o, above, ()) ∧ 0 ≤ above ∧ above ≤ 10000 ∧ above.toNat < f ∧ o.length ≤ 400 ∧ pl t deep w f above o = pl t deep w (high.toNat + 1) high []) (fun x => (x.2.2.2.2.2.1).toNat) ⟨high.toNat + 1, high, [], rfl, hhi.1, hhi.2, by omega, by simp, rfl⟩ ?_
  rintro x ⟨f, above, o, rfl, ha0, ha1, hf, ho, he⟩
  obtain ⟨f, rfl⟩ : ∃ f', f = f' + 1 := ⟨f - 1, by omega⟩
  have wab : wr .i64 (above - deep) = above - deep := wrap_id (by omega) (by omega)
  refine Round.bind (v := ((max (above - deep) 0, ()), ())) (by
    show Evt (fun n => call T C n 90 (wr .i64 (above - deep), 0, ())) _
    rw [wab]; exact e90 _ _) ?_
  have hly : 0 ≤ max (above - deep) 0 ∧ max (above - deep) 0 ≤ 10000 := by omega
  rw [← he]
  refine for_round' 0 (t.length : Int) (fun s (p : List Ct) => (w, deep, t, mnL t, p, above, max (above - deep) 0, s, ())) (fun s p => la t above (max (above - deep) 0) w s.toNat o = some p ∧ p.length ≤ 400) (b0 := o) rfl (by omega) ⟨rfl, ho⟩ ?_ ?_
  · intro s p s0 s1 ⟨hp, hpl⟩
    obtain ⟨v, hv⟩ := at_of (l := t) s0 s1
    have hvb := hte v hv.mem
    have hg := g_at hv
    have hla : la t above (max (above - deep) 0) w (s + 1).toNat o = if v ≥ above then some p else if p.length = 400 then none else some (p ++ [(s, max (max (above - deep) 0) v, w, ())]) := by
      rw [show (s + 1).toNat = s.toNat + 1 by omega, la, hp, Option.bind_some, hg, show ((s.toNat : Nat) : Int) = s by omega]
    refine Round.yes (decide_eq_true s1) (Round.at hv.idx (Round.ite (fun h => ?_) (fun h => ?_)))
    · have h : v ≥ above := of_decide_eq_true h
      refine Round.inr _ ⟨p, ?_, by rw [hla, if_pos h], hpl⟩
      show (w, deep, t, mnL t, p, above, max (above - deep) 0, wr .i64 (s + 1), ()) = _
      rw [wr_succ s0 s1 (by omega)]
    have h : ¬ v ≥ above := by simpa using h
    rw [if_neg h] at hla
    refine Round.ite (fun h4 => ?_) (fun h4 => ?_)
    · have h4 : p.length = 400 := by
        have : (p.length : Int) = 400 := by simpa using h4
        omega
      rw [if_pos h4] at hla
      have hn := la_none t above _ w hla t.length (by omega)
      have : pl t deep w (f + 1) above o = ([], 3, ()) := by simp only [pl]; rw [hn]
      rw [this]
      exact Round.done (Evt.some _)
    have h4 : ¬ p.length = 400 := by
      have : ¬ (p.length : Int) = 400 := by simpa using h4
      omega
    rw [if_neg h4] at hla
    refine Round.at hv.idx (Round.bind (e90 (max (above - deep) 0) v) (Round.chk (decide_eq_true (by simp; omega)) (Round.inr _ ⟨p ++ [(s, max (max (above - deep) 0) v, w, ())], ?_, hla, by simp; omega⟩)))
    show (w, deep, t, mnL t, p ++ [(wr .i16 s, wr .i16 (max (max (above - deep) 0) v), wr .i8 w, ())], above, max (above - deep) 0, wr .i64 (s + 1), ()) = _
    rw [wr_succ s0 s1 (by omega), wrap16 (x := s) (by omega) (by omega), wrap16 (by omega) (by omega), wrap8 (by omega) (by omega)]
  · intro p ⟨hp, hpl⟩
    rw [Int.toNat_natCast] at hp
    have hpe : pl t deep w (f + 1) above o = if max (above - deep) 0 ≤ mnL t then (p, 0, ()) else pl t deep w f (max (above - deep) 0) p := by simp only [pl]; rw [hp]
    rw [hpe]
    refine Round.no (by simp) (Round.ite (fun h => ?_) (fun h => ?_))
    · rw [if_pos (of_decide_eq_true h)]
      exact Round.done (Evt.some _)
    · have h : ¬ max (above - deep) 0 ≤ mnL t := by simpa using h
      rw [if_neg h]
      refine Round.inl _ ⟨⟨f, max (above - deep) 0, p, rfl, hly.1, hly.2, by omega, hpl, rfl⟩, ?_⟩
      show (max (above - deep) 0).toNat < above.toNat
      omega
theorem e10 {c : List Int} {high : Int} {K : List (List Int)} {w deep : Int} (hc : Rng c) (hk : RngS K) : Evt (fun n => call T C n 10 (c, high, K, w, deep, ())) (pcR c high K w deep, ()) := by
  have hcl := hc.len'
  have hkl := hk.len'
  have hR0 : RngC [] := ⟨by simp, fun v hv => by cases hv⟩
  refine Evt.next (Evt.bind (e84 c K [] hc hk hR0) ?_) (fun n => r10 n c high K w deep)
  have hgv : gvCode c K [] = if (okC c && inR (K.length : Int) 1 8 && okKs K) = true then 0 else 1 := by
    unfold gvCode okCuts okCt onCt
    cases okC c <;> cases inR (K.length : Int) 1 8 <;> cases okKs K <;> rfl
  cases h1 : (okC c && inR (K.length : Int) 1 8 && okKs K) with
  | false =>
    have hg : gvCode c K [] = 1 := by rw [hgv, h1]; rfl
    have hr : pcR c high K w deep = ([], 1, ()) := by unfold pcR pcCode; rw [h1]; rfl
    rw [hg, hr]
    exact Evt.no (by decide) (Evt.no (by decide) (Evt.yes rfl (Evt.some _)))
  | true =>
    have hg : gvCode c K [] = 0 := by rw [hgv, h1]; rfl
    rw [hg]
    have hh := h1
    simp only [Bool.and_eq_true, inR_iff] at hh
    have hC := okC_len hh.1.1
    have hwk : wr .i64 ((K.length : Int) - 1) = (K.length : Int) - 1 := wrap_id (by omega) (by omega)
    have bad : (inR high 0 10000 && inR w 0 ((K.length : Int) - 1) && inR deep 1 10000) = false → pcR c high K w deep = ([], 2, ()) := fun h => by unfold pcR pcCode; rw [h1, h]; rfl
    refine Evt.yes rfl (Evt.bind (e85 high) ?_)
    cases h2 : inR high 0 10000 with
    | false =>
      rw [bad (by rw [h2]; rfl)]
      exact Evt.yes rfl (Evt.yes rfl (Evt.no (by decide) (Evt.yes rfl (Evt.some _))))
    | true =>
      refine Evt.no (by simp) (Evt.bind (e86 _ _ _) ?_)
      rw [hwk]
      cases h3 : inR w 0 ((K.length : Int) - 1) with
      | false =>
        rw [bad (by rw [h2, h3]; rfl)]
        exact Evt.yes rfl (Evt.yes rfl (Evt.no (by decide) (Evt.yes rfl (Evt.some _))))
      | true =>
        refine Evt.no (by simp) (Evt.bind (e86 _ _ _) ?_)
        cases h4 : inR deep 1 10000 with
        | false =>
          rw [bad (by rw [h2, h3, h4]; rfl)]
          exact Evt.yes rfl (Evt.no (by decide) (Evt.yes rfl (Evt.some _)))
        | true =>
          refine Evt.no (by simp) (Evt.yes rfl (Evt.bind (e87 c hc (by omega) high) (Evt.ite (fun h => ?_) (fun h => ?_))))
          · have h : mxL c > high := by simpa using h
            have hr : pcR c high K w deep = ([], 4, ()) := by unfold pcR pcCode; rw [h1, h2, h3, h4, if_pos h]; rfl
            rw [hr]
            exact Evt.yes rfl (Evt.some _)
          · have h : ¬ mxL c > high := by simpa using h
            have hz : pcCode c high K w deep = 0 := by unfold pcCode; rw [h1, h2, h3, h4, if_neg h]; rfl
            have hr : pcR c high K w deep = pl (tipsL c (K.getD w.toNat []) c.length) deep w (high.toNat + 1) high [] := by unfold pcR; rw [hz]; rfl
            rw [hr]
            exact Evt.no (by simp) (eSR hc hk (goodP h1 (by rw [h2, h3, h4]; rfl)))
/- (impl.Cam).steps -/
theorem e123 (a : List Int) : Evt (fun n => call T C n 123 (a, ())) (((a.length : Int), ()), ()) := Evt.next (Evt.some _) (fun n => r123 n a)
/- impl.inRange -/
theorem e98 (a b c : Int) : Evt (fun n => call T C n 98 (a, b, c, ())) ((inR a b c, ()), ()) := by
  refine Evt.next ?_ (fun n => r98 n a b c)
  refine Evt.ite (fun h => ?_) (fun h => ?_)
  · refine (Evt.some _).of_eq fun n => ?_
    have h : b ≤ a := of_decide_eq_true h
    simp [inR, h]
    rfl
  · refine (Evt.some _).of_eq fun n => ?_
    have h : ¬ b ≤ a := by simpa using h
    simp [inR, h]
    rfl
/- impl.isSteps -/
theorem e121 (a : Int) : Evt (fun n => call T C n 121 (a, ())) ((inR a 8 360, ()), ()) := Evt.next (Evt.bind (e98 a 8 360) (Evt.some _)) (fun n => r121 n a)
/- impl.isLift -/
theorem e96 (a : Int) : Evt (fun n => call T C n 96 (a, ())) ((inR a 0 10000, ()), ()) := Evt.next (Evt.bind (e98 a 0 10000) (Evt.some _)) (fun n => r96 n a)
/- impl.ValidCam$1 -/
theorem e179 (v : Int) : Evt (fun n => call T C n 179 (v, ())) ((!okV v, ()), ()) := Evt.next (Evt.bind (e96 _) (Evt.some _)) (fun n => r179 n v)
/- slices.IndexFunc[impl.Cam,int16]{impl.ValidCam$1} -/
theorem e243 (l : List Int) (hl : (l.length : Int) ≤ 140737488351232) : Evt (fun n => call T C n 243 (l, ((), ()), ())) ((fi (fun v => !okV v) l 0, ()), ()) := by
  refine Evt.next ?_ (fun n => r243 n l ((), ()))
  refine loop_evt (fun (x : List Int × (Unit × Unit) × Int × Int × Unit) => x.1 = l ∧ x.2.2.1 = (l.length : Int) ∧ 0 ≤ x.2.2.2.1 ∧ x.2.2.2.1 ≤ (l.length : Int) ∧ fi (fun v => !okV v) l 0 = fi (fun v => !okV v) (l.drop x.2.2.2.1.toNat) x.2.2.2.1) (fun (x : List Int × (Unit × Unit) × Int × Int × Unit) => ((l.length : Int) - x.2.2.2.1).toNat) (x := (l, ((), ()), (l.length : Int), 0, ())) ⟨rfl, rfl, Int.le_refl _, by simp, by simp⟩ ?_
  rintro ⟨x1, u, m, i, _⟩ ⟨h', hm, h0, h1, h2⟩
  simp only at h' hm h0 h1 h2
  subst h'; subst hm
  refine Round.ite (fun hlt => ?_) (fun hge => ?_)
  · have hlt : i < (x1.length : Int) := of_decide_eq_true hlt
    obtain ⟨v, hv, hv'⟩ := idx_at h0 hlt
    have hd := drop_cons hv'
    refine Round.at hv (Round.bind (e179 _) (Round.ite (fun hb => ?_) (fun hb => ?_)))
    · have hb : okV v = false := by simpa using hb
      have h3 : fi (fun v => !okV v) x1 0 = i := by rw [h2, hd]; simp [fi, hb]
      rw [h3]
      exact Round.done (Evt.some _)
    · have hb : okV v = true := by simpa using hb
      have hw : wr .i64 (i + 1) = i + 1 := wrap_id (by omega) (by omega)
      refine Round.again _ ⟨⟨rfl, rfl, ?_, ?_, ?_⟩, ?_⟩ <;> simp only [hw]
      · omega
      · omega
      · rw [h2, hd, show (i + 1).toNat = i.toNat + 1 by omega]
        simp [fi, hb]
      · omega
  · have hge : ¬ i < (x1.length : Int) := by simpa using hge
    have : x1.drop i.toNat = [] := List.drop_of_length_le (by omega)
    rw [h2, this]
    exact Round.done (Evt.some _)
/- slices.ContainsFunc[impl.Cam,int16]{impl.ValidCam$1} -/
theorem e178 (l : List Int) (hl : (l.length : Int) ≤ 140737488351232) : Evt (fun n => call T C n 178 (l, ((), ()), ())) ((l.any (fun v => !okV v), ()), ()) := by
  refine Evt.next (Evt.bind (e243 l hl) ((Evt.some _).of_eq fun n => ?_)) (fun n => r178 n l ((), ()))
  simp only [fi_any _ l 0 (Int.le_refl _)]
  rfl
/- impl.ValidCam -/
theorem e78 (l : List Int) (hl : (l.length : Int) ≤ 140737488351232) : Evt (fun n => call T C n 78 (l, ())) ((okC l, ()), ()) := by
  refine Evt.next (Evt.bind (e123 l) (Evt.bind (e121 _) ?_)) (fun n => r78 n l)
  refine Evt.ite (fun h => ?_) (fun h => ?_)
  · refine Evt.bind (e178 l hl) ((Evt.some _).of_eq fun n => ?_)
    have h : inR (l.length : Int) 8 360 = true := h
    have : okC l = !l.any (fun v => !okV v) := by simp [okC, h, List.any_eq_not_all_not]
    rw [this]
    rfl
  · refine (Evt.some _).of_eq fun n => ?_
    have h : inR (l.length : Int) 8 360 = false := by simpa using h
    simp [okC, h]
    rfl
/- impl.isCount -/
theorem e94 (K : List (List Int)) : Evt (fun n => call T C n 94 (K, ())) ((inR (K.length : Int) 1 8, ()), ()) := Evt.next (Evt.bind (e98 _ _ _) (Evt.some _)) (fun n => r94 n K)
/- impl.ValidCutter -/
theorem e77 (k : List Int) (hr : Rng k) : Evt (fun n => call T C n 77 (k, ())) ((okK k, ()), ()) := by
  have hl := hr.len'
  have hm : Int.tmod (k.length : Int) 2 = ((k.length % 2 : Nat) : Int) := by rw [show (2 : Int) = ((2 : Nat) : Int) from rfl, ← Int.ofNat_tmod]
  have hd : Int.tdiv (k.length : Int) 2 = ((k.length / 2 : Nat) : Int) := by rw [show (2 : Int) = ((2 : Nat) : Int) from rfl, ← Int.ofNat_tdiv]
  refine Evt.next (Evt.chk rfl ?_) (fun n => r77 n k)
  rw [hm, hd, wrap_id (x := ((k.length / 2 : Nat) : Int)) (by omega) (by omega)]
  refine Evt.ite (fun h => ?_) (fun h => ?_)
  · have h : k.length % 2 = 0 := by
      have h' : (k.length : Int) % 2 = 0 := by simpa using h
      omega
    have e : okK k = false := by unfold okK; rw [show decide (k.length % 2 = 1) = false from decide_eq_false (by omega)]; simp
    rw [e]; exact Evt.some _
  have h : k.length % 2 = 1 := by
    have h' : ¬ (k.length : Int) % 2 = 0 := by simpa using h
    omega
  refine Evt.ite (fun h1 => ?_) (fun h1 => ?_)
  · have h1 : (k.length : Int) > 31 := by simpa using h1
    have e : okK k = false := by
      unfold okK
      have : inR (k.length : Int) 1 31 = false := by rw [Bool.eq_false_iff]; intro hh; have := inR_iff.1 hh; omega
      rw [this]; simp
    rw [e]; exact Evt.some _
  have h1 : ¬ (k.length : Int) > 31 := by simpa using h1
  have hin : inR (k.length : Int) 1 31 = true := inR_iff.2 ⟨by omega, by omega⟩
  have e : okK k = ((g k (k.length / 2) == 0) && allTo (kOne k) (k.length / 2 + 1)) := by unfold okK; rw [hin, show decide (k.length % 2 = 1) = true from decide_eq_true h]; simp
  rw [e]
  have hmid := g_idx (l := k) (i := ((k.length / 2 : Nat) : Int)) (by omega) (by omega)
  rw [Int.toNat_natCast] at hmid
  refine Evt.chk rfl (Evt.at hmid.idx (Evt.ite (fun h0 => ?_) (fun h0 => ?_)))
  · have h0 : (g k (k.length / 2) == 0) = false := by simpa using h0
    rw [h0]; exact Evt.some _
  have h0 : (g k (k.length / 2) == 0) = true := by simpa using h0
  rw [h0]
  simp only [Bool.true_and]
  have e2 : allTo (kOne k) (k.length / 2 + 1) = allTo (kTwo k) k.length := by
    rw [Bool.eq_iff_iff]
    exact ⟨kTwo_of h, kOne_of h⟩
  rw [e2]
  refine for_evt' 0 (k.length : Int) (fun i (_ : Unit) => (k, (k.length : Int), k, (k.length : Int), i, ())) (fun i _ => allTo (kTwo k) i.toNat = true) (b0 := ()) rfl (by omega) (by rfl) ?_ ?_
  · intro i _ h2 h3 hp
    obtain ⟨a, rfl⟩ : ∃ a : Nat, i = a := ⟨i.toNat, by omega⟩
    rw [Int.toNat_natCast] at hp
    have hai := g_idx (l := k) (i := (a : Int)) (by omega) (by omega)
    have haj := g_idx (l := k) (i := (k.length : Int) - 1 - a) (by omega) (by omega)
    rw [Int.toNat_natCast] at hai
    rw [show ((k.length : Int) - 1 - a).toNat = k.length - 1 - a by omega] at haj
    have bad : kTwo k a = false → allTo (kTwo k) k.length = false := allTo_false (by omega)
    simp only [hd, wrap_id (x := ((k.length / 2 : Nat) : Int)) (by omega) (by omega), wrap_id (x := (a : Int) + 1) (by omega) (by omega), wrap_id (x := (a : Int) - 1) (by omega) (by omega), wrap_id (x := (k.length : Int) - 1) (by omega) (by omega), wrap_id (x := (k.length : Int) - 1 - (a : Int)) (by omega) (by omega)]
    refine Round.yes (decide_eq_true h3) (Round.at hai.idx (Round.bind (e96 _) (Round.ite (fun c1 => ?_) (fun c1 => ?_))))
    · have c1 : inR (wr .i64 (g k a)) 0 10000 = false := by simpa using c1
      rw [bad (by simp [kTwo, c1])]
      exact Round.done (Evt.some _)
    have c1 : inR (wr .i64 (g k a)) 0 10000 = true := by simpa using c1
    refine Round.at haj.idx (Round.ite (fun c2 => ?_) (fun c2 => ?_))
    · have c2 : (g k a == g k (k.length - 1 - a)) = false := by simpa using c2
      rw [bad (by simp [kTwo, c2])]
      exact Round.done (Evt.some _)
    have c2 : (g k a == g k (k.length - 1 - a)) = true := by simpa using c2
    have again : kTwo k a = true → ∃ b' : Unit, ((k, (k.length : Int), k, (k.length : Int), (a : Int) + 1, ()) : List Int × Int × List Int × Int × Int × Unit) = (k, (k.length : Int), k, (k.length : Int), (a : Int) + 1, ()) ∧ allTo (kTwo k) ((a : Int) + 1).toNat = true := fun h => ⟨(), rfl, by rw [show ((a : Int) + 1).toNat = a + 1 by omega, allTo_succ, hp, h]; rfl⟩
    refine Round.chk rfl (Round.ite (fun c3 => ?_) (fun c3 => ?_))
    · have c3 : (a : Int) > ((k.length / 2 : Nat) : Int) := of_decide_eq_true c3
      have hab := g_idx (l := k) (i := (a : Int) - 1) (by omega) (by omega)
      rw [show ((a : Int) - 1).toNat = a - 1 by omega] at hab
      refine Round.at hab.idx (Round.ite (fun c4 => ?_) (fun c4 => ?_))
      · have c4 : g k a < g k (a - 1) := by simpa using c4
        rw [bad (by
          have c5 : a > k.length / 2 := by omega
          simp [kTwo, c4, c5])]
        exact Round.done (Evt.some _)
      · have c4 : ¬ g k a < g k (a - 1) := by simpa using c4
        exact Round.again _ (again (by simp only [kTwo, c1, c2, decide_eq_false c4]; simp))
    · have c3 : ¬ (a : Int) > ((k.length / 2 : Nat) : Int) := by simpa using c3
      exact Round.no (by simp) (Round.again _ (again (by simp only [kTwo, c1, c2, decide_eq_false (show ¬ a > k.length / 2 by omega)]; simp)))
  · intro _ hp
    have hp : allTo (kTwo k) k.length = true := by simpa using hp
    rw [hp]
    exact Round.no (by simp) (Round.done (Evt.some _))
/- impl.areCutters$1 -/
theorem e190 (k : List Int) (hr : Rng k) : Evt (fun n => call T C n 190 (k, ())) ((!okK k, ()), ()) := Evt.next (Evt.bind (e77 k hr) (Evt.some _)) (fun n => r190 n k)
/- slices.IndexFunc[[]impl.Cutter,impl.Cutter]{impl.areCutters$1} -/
theorem e248 (K : List (List Int)) (hr : RngS K) : Evt (fun n => call T C n 248 (K, ((), ()), ())) ((fi (fun v => !okK v) K 0, ()), ()) := by
  have hl := hr.len'
  refine Evt.next ?_ (fun n => r248 n K ((), ()))
  refine for_evt' 0 (K.length : Int) (fun i (_ : Unit) => (K, ((), ()), (K.length : Int), i, ())) (fun i _ => fi (fun v => !okK v) K 0 = fi (fun v => !okK v) (K.drop i.toNat) i) (b0 := ()) rfl (by omega) (by simp) ?_ ?_
  · intro i _ h2 h3 hp
    obtain ⟨v, hv⟩ := at_of h2 h3
    rw [hv.drop] at hp
    simp only [fi] at hp
    refine Round.yes (decide_eq_true h3) (Round.at hv.idx (Round.bind (e190 v (hr.el v hv.mem)) ?_))
    cases hb : okK v with
    | false =>
      simp only [hb, Bool.not_false, if_true] at hp
      rw [hp]
      exact Round.yes rfl (Round.done (Evt.some _))
    | true =>
      simp only [hb, Bool.not_true, Bool.false_eq_true, if_false] at hp
      exact Round.no (by simp) (Round.again _ ⟨(), by rw [wr_succ h2 h3 (by omega)], hp⟩)
  · intro _ hp
    rw [drop_all] at hp
    rw [hp]
    exact Round.no (by simp) (Round.done (Evt.some _))
/- slices.ContainsFunc[[]impl.Cutter,impl.Cutter]{impl.areCutters$1} -/
theorem e189 (K : List (List Int)) (hr : RngS K) : Evt (fun n => call T C n 189 (K, ((), ()), ())) ((K.any (fun v => !okK v), ()), ()) := by
  refine Evt.next (Evt.bind (e248 K hr) ((Evt.some _).of_eq fun n => ?_)) (fun n => r189 n K ((), ()))
  simp only [fi_any _ K 0 (Int.le_refl _)]
  rfl
/- impl.areCutters -/
theorem e95 (K : List (List Int)) (hr : RngS K) : Evt (fun n => call T C n 95 (K, ())) ((okKs K, ()), ()) := by
  refine Evt.next (Evt.bind (e189 K hr) ((Evt.some _).of_eq fun n => ?_)) (fun n => r95 n K)
  have : okKs K = !K.any (fun v => !okK v) := by simp [okKs, List.any_eq_not_all_not]
  rw [this]
  rfl
/- impl.codeIf -/
theorem e93 (c : Bool) (v : Int) : Evt (fun n => call T C n 93 (c, v, ())) (((if c = true then v else 0), ()), ()) := by
  refine Evt.next ?_ (fun n => r93 n c v)
  cases c with
  | true => exact Evt.yes rfl (Evt.some _)
  | false => exact Evt.no (by simp) (Evt.some _)
/- impl.isPlace -/
theorem e97 (a b : Int) : Evt (fun n => call T C n 97 (a, b, ())) ((inR a 0 (wr .i64 (b - 1)), ()), ()) := Evt.next (Evt.bind (e98 _ _ _) (Evt.some _)) (fun n => r97 n a b)
/- impl.firstCode -/
theorem e92 (l : List Int) (hl : (l.length : Int) ≤ 140737488351232) : Evt (fun n => call T C n 92 (l, ())) ((fst0 l, ()), ()) := by
  refine Evt.next ?_ (fun n => r92 n l)
  refine loop_evt (fun (x : List Int × Int × Int × Unit) => x.1 = l ∧ x.2.1 = (l.length : Int) ∧ 0 ≤ x.2.2.1 ∧ x.2.2.1 ≤ (l.length : Int) ∧ fst0 l = fst0 (l.drop x.2.2.1.toNat)) (fun (x : List Int × Int × Int × Unit) => ((l.length : Int) - x.2.2.1).toNat) (x := (l, (l.length : Int), 0, ())) ⟨rfl, rfl, Int.le_refl _, by simp, by simp⟩ ?_
  rintro ⟨x1, m, i, _⟩ ⟨h', hm, h0, h1, h2⟩
  simp only at h' hm h0 h1 h2
  subst h'; subst hm
  refine Round.ite (fun hlt => ?_) (fun hge => ?_)
  · have hlt : i < (x1.length : Int) := of_decide_eq_true hlt
    obtain ⟨v, hv, hv'⟩ := idx_at h0 hlt
    have hd := drop_cons hv'
    refine Round.at hv (Round.ite (fun hb => ?_) (fun hb => ?_))
    · have hb : v ≠ 0 := by simpa using hb
      have h3 : fst0 x1 = v := by rw [h2, hd]; simp [fst0, hb]
      rw [h3]
      exact Round.done (Evt.some _)
    · have hb : v = 0 := by simpa using hb
      have hw : wr .i64 (i + 1) = i + 1 := wrap_id (by omega) (by omega)
      refine Round.again _ ⟨⟨rfl, rfl, ?_, ?_, ?_⟩, ?_⟩ <;> simp only [hw]
      · omega
      · omega
      · rw [h2, hd, show (i + 1).toNat = i.toNat + 1 by omega]
        simp [fst0, hb]
      · omega
  · have hge : ¬ i < (x1.length : Int) := by simpa using hge
    have : x1.drop i.toNat = [] := List.drop_of_length_le (by omega)
    rw [h2, this]
    exact Round.done (Evt.some _)
/- slices.Max[impl.Cam,int16] -/
theorem e99 (l : List Int) (hr : Rng l) (h0 : 0 < (l.length : Int)) : Evt (fun n => call T C n 99 (l, ())) ((mxL l, ()), ()) := by
  have hlen := hr.len'
  obtain ⟨v0, hv0⟩ := at_of (l := l) (Int.le_refl 0) h0
  refine Evt.next (Evt.no (by simp; omega) (Evt.at hv0.idx ?_)) (fun n => r99 n l)
  have hh := (head_at hv0).1
  refine for_evt' 1 (l.length : Int) (fun i (_ : Unit) => (l, mxF (l.take i.toNat) v0, i, ())) (fun _ _ => True) (b0 := ()) (by
    have := (head_at hv0).2
    show _ = (l, mxF (l.take 1) v0, 1, ())
    rw [this]; simp [mxF]) (by omega) trivial ?_ ?_
  · intro i _ h2 h3 _
    obtain ⟨v, hv⟩ := at_of (l := l) (show 0 ≤ i by omega) h3
    simp only [wrap_id (x := i + 1) (by omega) (by omega)]
    refine Round.yes (decide_eq_true h3) (Round.at hv.idx (Round.again _ ⟨(), ?_, trivial⟩))
    rw [hv.take, mxF_snoc]
    congr 2
    split <;> omega
  · intro _ _
    have e2 : mxF (l.take (l.length : Int).toNat) v0 = mxL l := by rw [take_all, mxL, hh]
    simp only [e2]
    exact Round.no (by simp) (Round.done (Evt.some _))
/- impl.floorDiv -/
theorem e161 {a b : Int} (hb : 0 < b) (h1 : -4500000000000000000 ≤ a) (h2 : a ≤ 4500000000000000000) : Evt (fun n => call T C n 161 (a, b, ())) ((a / b, ()), ()) := by
  have hbd := ediv_bd hb h1 h2 (by omega)
  have he := floorDiv_eq (a := a) hb
  refine Evt.next (Evt.chk (bne_pos hb) (Evt.chk (bne_pos hb) (Evt.ite (fun h => ?_) (fun h => ?_)))) (fun n => r161 n a b)
  · have h : Int.tmod a b < 0 := of_decide_eq_true h
    rw [if_pos h] at he
    refine (Evt.some _).of_eq fun n => ?_
    rw [wrap_id (x := Int.tdiv a b) (by omega) (by omega), wrap_id (by omega) (by omega), he]
    rfl
  · have h : ¬ Int.tmod a b < 0 := by simpa using h
    rw [if_neg h] at he
    refine (Evt.some _).of_eq fun n => ?_
    rw [wrap_id (x := Int.tdiv a b) (by omega) (by omega), he]
    rfl
/- impl.mod -/
theorem e199 {a b : Int} (hb : 0 < b) (hb' : b ≤ 1000000000000) (h1 : -1000000000000 ≤ a) (h2 : a ≤ 1000000000000) : Evt (fun n => call T C n 199 (a, b, ())) ((a % b, ()), ()) := by
  have hd := Int.emod_def a b
  have h3 := Int.emod_nonneg a (show b ≠ 0 by omega)
  have h4 := Int.emod_lt_of_pos a hb
  refine Evt.next (Evt.bind (e161 hb (by omega) (by omega)) ((Evt.some _).of_eq fun n => ?_)) (fun n => r199 n a b)
  simp only
  rw [wrap_id (x := b * (a / b)) (by omega) (by omega), ← hd, wrap_id (by omega) (by omega)]
  rfl
/- (impl.Cam).at -/
theorem e110 {l : List Int} (hr : Rng l) (h0 : 0 < (l.length : Int)) (h1 : (l.length : Int) ≤ 1000000) {x : Int} (hx : -4000000 ≤ x) (hx' : x ≤ 4000000) : Evt (fun n => call T C n 110 (l, x, ())) ((cAt l x, ()), ()) := by
  have hp := Int.emod_nonneg x (show (l.length : Int) ≠ 0 by omega)
  have hq := Int.emod_lt_of_pos x h0
  have hv := g_idx (l := l) hp hq
  refine Evt.next (Evt.bind (e123 l) (Evt.bind (e199 (a := x) h0 (by omega) (by omega) (by omega)) (Evt.at hv.idx ((Evt.some _).of_eq fun n => ?_)))) (fun n => r110 n l x)
  rw [hr.id hv.mem]
  rfl
/- (impl.Cam).tips$1$1 -/
theorem e194 {c : List Int} (hr : Rng c) (h0 : 0 < (c.length : Int)) (h1 : (c.length : Int) ≤ 1000000) (hC : ∀ v ∈ c, 0 ≤ v ∧ v ≤ 10000) {x y z : Int} (hx : -4000000 ≤ x) (hx' : x ≤ 4000000) (hy : 0 ≤ y) (hy' : y ≤ 10000) : Evt (fun n => call T C n 194 (x, y, z, c, ())) ((), (max z (cAt c x - y), c, ())) := by
  have hv := hC _ (cAt_mem (by omega) x)
  refine Evt.next (Evt.bind (e110 hr h0 h1 hx hx') ((Evt.some _).of_eq fun n => ?_)) (fun n => r194 n x y z c)
  simp only [wrap_id (x := cAt c x - y) (by omega) (by omega)]
  have : (if cAt c x - y > z then cAt c x - y else z) = max z (cAt c x - y) := by split <;> omega
  rw [this]
  rfl
/- (impl.Cutter).each{(impl.Cam).tips$1$1} -/
theorem e193 {c k : List Int} (hc : Rng c) (hk : Rng k) (hl0 : 0 < c.length) (hl1 : c.length ≤ 1000) (hC : ∀ v ∈ c, 0 ≤ v ∧ v ≤ 10000) (G : GoodK k) {s : Int} (h0 : 0 ≤ s) (h1 : s ≤ 1000000) : Evt (fun n => call T C n 193 (k, s, ((), 0, c, ()), ())) ((), (((), tip c k s, c, ()), ())) := by
  have hd : Int.tdiv (k.length : Int) 2 = ((k.length / 2 : Nat) : Int) := by rw [show (2 : Int) = ((2 : Nat) : Int) from rfl, ← Int.ofNat_tdiv]
  have hhi := G.hi
  refine Evt.next (Evt.chk rfl ?_) (fun n => r193 n k s ((), 0, c, ()))
  rw [hd, wrap_id (x := ((k.length / 2 : Nat) : Int)) (by omega) (by omega)]
  refine for_evt' 0 (k.length : Int) (fun i (_ : Unit) => (s, ((), (tipTo c k s i.toNat, (c, ()))), ((k.length / 2 : Nat) : Int), k, (k.length : Int), i, ())) (fun _ _ => True) (b0 := ()) rfl (by omega) trivial ?_ ?_
  · intro i _ h2 h3 _
    obtain ⟨a, rfl⟩ : ∃ a : Nat, i = a := ⟨i.toNat, by omega⟩
    have hai := g_idx (l := k) (i := (a : Int)) (by omega) (by omega)
    rw [Int.toNat_natCast] at hai
    have hka := G.el a (by omega)
    simp only [Int.toNat_natCast, wr_succ h2 h3 (by omega), wrap_id (x := s + (a : Int)) (by omega) (by omega), wrap_id (x := s + (a : Int) - ((k.length / 2 : Nat) : Int)) (by omega) (by omega)]
    refine Round.yes (decide_eq_true h3) (Round.at hai.idx ?_)
    simp only [hk.id hai.mem]
    refine Round.bind (e194 hc (by omega) (by omega) hC (by omega) (by omega) hka.1 hka.2) (Round.again _ ⟨(), ?_, trivial⟩)
    rw [show ((a : Int) + 1).toNat = a + 1 by omega, tipTo_succ]
    rfl
  · intro _ _
    simp only [Int.toNat_natCast]
    exact Round.no (by simp) (Round.done (Evt.some _))
/- (impl.Cam).tips$1 -/
theorem e192 {c k : List Int} (hc : Rng c) (hk : Rng k) (hl0 : 0 < c.length) (hl1 : c.length ≤ 1000) (hC : ∀ v ∈ c, 0 ≤ v ∧ v ≤ 10000) (G : GoodK k) {s : Int} (h0 : 0 ≤ s) (h1 : s ≤ 1000000) : Evt (fun n => call T C n 192 (s, k, c, ())) ((tip c k s, ()), (k, c, ())) := Evt.next (Evt.bind (e193 hc hk hl0 hl1 hC G h0 h1) (Evt.some _)) (fun n => r192 n s k c)
/- (impl.Cam).numbers{(impl.Cam).tips$1} -/
theorem e191 {c k : List Int} (hc : Rng c) (hk : Rng k) (hl0 : 0 < c.length) (hl1 : c.length ≤ 1000) (hC : ∀ v ∈ c, 0 ≤ v ∧ v ≤ 10000) (G : GoodK k) : Evt (fun n => call T C n 191 (c, ((), k, c, ()), ())) ((tipsL c k c.length, ()), (((), k, c, ()), ())) := by
  refine Evt.next (Evt.bind (e123 c) ?_) (fun n => r191 n c ((), k, c, ()))
  refine for_evt' 0 (c.length : Int) (fun i (_ : Unit) => (((), (k, (c, ()))), tipsL c k i.toNat, (c.length : Int), i, ())) (fun _ _ => True) (b0 := ()) rfl (by omega) trivial ?_ ?_
  · intro i _ h2 h3 _
    refine Round.yes (decide_eq_true h3) (Round.bind (e192 hc hk hl0 hl1 hC G h2 (show i ≤ 1000000 by omega)) (Round.chk (by simp [tipsL_len]; omega) (Round.again _ ⟨(), ?_, trivial⟩)))
    rw [tipsL_succ c k h2, wr_succ h2 h3 (by omega)]
  · intro _ _
    simp only [Int.toNat_natCast]
    exact Round.no (by simp) (Round.done (Evt.some _))
/- (impl.Cam).tips -/
theorem e100 {c k : List Int} (hc : Rng c) (hk : Rng k) (hl0 : 0 < c.length) (hl1 : c.length ≤ 1000) (hC : ∀ v ∈ c, 0 ≤ v ∧ v ≤ 10000) (G : GoodK k) : Evt (fun n => call T C n 100 (c, k, ())) ((tipsL c k c.length, ()), ()) := Evt.next (Evt.bind (e191 hc hk hl0 hl1 hC G) (Evt.some _)) (fun n => r100 n c k)
/- slices.Min[[]int64,int64] -/
theorem e101 (l : List Int) (hlen : (l.length : Int) ≤ 1000000) (h0 : 0 < (l.length : Int)) : Evt (fun n => call T C n 101 (l, ())) ((mnL l, ()), ()) := by
  obtain ⟨v0, hv0⟩ := at_of (l := l) (Int.le_refl 0) h0
  refine Evt.next (Evt.no (by simp; omega) (Evt.at hv0.idx ?_)) (fun n => r101 n l)
  have hh := (head_at hv0).1
  refine for_evt' 1 (l.length : Int) (fun i (_ : Unit) => (l, mnF (l.take i.toNat) v0, i, ())) (fun _ _ => True) (b0 := ()) (by
    have := (head_at hv0).2
    show _ = (l, mnF (l.take 1) v0, 1, ())
    rw [this]; simp [mnF]) (by omega) trivial ?_ ?_
  · intro i _ h2 h3 _
    obtain ⟨v, hv⟩ := at_of (l := l) (show 0 ≤ i by omega) h3
    simp only [wrap_id (x := i + 1) (by omega) (by omega)]
    refine Round.yes (decide_eq_true h3) (Round.at hv.idx (Round.again _ ⟨(), ?_, trivial⟩))
    rw [hv.take, mnF_snoc]
    congr 2
    split <;> omega
  · intro _ _
    have e2 : mnF (l.take (l.length : Int).toNat) v0 = mnL l := by rw [take_all, mnL, hh]
    simp only [e2]
    exact Round.no (by simp) (Round.done (Evt.some _))
/- impl.PlanCuts -/
theorem eIR {c : List Int} {high : Int} {K : List (List Int)} {w deep : Int} (hc : Rng c) (hk : RngS K) (P : GoodP c high K w deep) : Evt (fun n => (idx K w).bind fun v7 => (call T C n 100 (c, v7, ())).bind fun r8 => loopK (fun (x10 : Int × Int × (List Int) × (List (Int × (Int × (Int × Unit)))) × Int × Unit) again11 => loopK (fun (x13 : Int × Int × (List Int) × (List (Int × (Int × (Int × Unit)))) × Int × Int × (List Int) × Int × Int × Unit) again14 => (if (decide (x13.2.2.2.2.2.2.2.2.1 < x13.2.2.2.2.2.2.2.1)) = true then (idx x13.2.2.2.2.2.2.1 x13.2.2.2.2.2.2.2.2.1).bind fun v16 => (if (decide (v16 ≥ x13.2.2.2.2.1)) = true then again14 (x13.1, x13.2.1, x13.2.2.1, x13.2.2.2.1, x13.2.2.2.2.1, x13.2.2.2.2.2.1, x13.2.2.2.2.2.2.1, x13.2.2.2.2.2.2.2.1, (wr .i64 (x13.2.2.2.2.2.2.2.2.1 + (1 : Int))), ()) else (if ((x13.2.2.2.1.length : Int) == (400 : Int)) = true then some ((([] : (List (Int × (Int × (Int × Unit))))), (3 : Int), ()), (())) else chk (decide ((x13.2.2.2.1.length + ([((wr .i16 x13.2.2.2.2.2.2.2.2.1), ((wr .i16 (if v16 > x13.2.2.2.2.2.1 then v16 else x13.2.2.2.2.2.1)), ((wr .i8 x13.1), ())))] : (List (Int × (Int × (Int × Unit))))).length) * 6 ≤ 140737488355328)) (again14 (x13.1, x13.2.1, x13.2.2.1, (x13.2.2.2.1 ++ ([((wr .i16 x13.2.2.2.2.2.2.2.2.1), ((wr .i16 (if v16 > x13.2.2.2.2.2.1 then v16 else x13.2.2.2.2.2.1)), ((wr .i8 x13.1), ())))] : (List (Int × (Int × (Int × Unit)))))), x13.2.2.2.2.1, x13.2.2.2.2.2.1, x13.2.2.2.2.2.2.1, x13.2.2.2.2.2.2.2.1, (wr .i64 (x13.2.2.2.2.2.2.2.2.1 + (1 : Int))), ())))) else (call T C n 101 (x13.2.2.1, ())).bind fun r17 => (if (decide (x13.2.2.2.2.2.1 ≤ r17.1.1)) = true then some ((x13.2.2.2.1, (0 : Int), ()), (())) else again11 (x13.1, x13.2.1, x13.2.2.1, x13.2.2.2.1, x13.2.2.2.2.2.1, ())))) n (x10.1, x10.2.1, x10.2.2.1, x10.2.2.2.1, x10.2.2.2.2.1, (if (0 : Int) > (wr .i64 (x10.2.2.2.2.1 - x10.2.1)) then (0 : Int) else (wr .i64 (x10.2.2.2.2.1 - x10.2.1))), x10.2.2.1, (x10.2.2.1.length : Int), (0 : Int), ())) n (w, deep, r8.1.1, ([] : (List (Int × (Int × (Int × Unit))))), high, ())) (pl (tipsL c (K.getD w.toNat []) c.length) deep w (high.toNat + 1) high [], ()) := by
  obtain ⟨k, hk'⟩ := at_of (l := K) P.w.1 P.w.2
  have hkd : K.getD w.toNat [] = k := getD_at hk'
  rw [hkd]
  have hcl := okC_len P.hc
  have hC := okC_el P.hc hc
  have Gk : GoodK k := (goodKs hk P.hk).el k hk'.mem
  have hl0 : 0 < c.length := by omega
  have hl1 : c.length ≤ 1000 := by omega
  have hn := P.n
  have hhi := P.hi
  have hw := P.w
  have hdp := P.d
  obtain ⟨t, ht⟩ : ∃ t, t = tipsL c k c.length := ⟨_, rfl⟩
  have htl : t.length = c.length := by rw [ht, tipsL_len]
  have hte : ∀ v ∈ t, 0 ≤ v ∧ v ≤ 10000 := by rw [ht]; exact tipsL_el hl0 hC Gk
  have hmn : 0 ≤ mnL t := by
    obtain ⟨v0, hv0⟩ := at_of (l := t) (Int.le_refl 0) (by omega)
    have := hte v0 hv0.mem
    unfold mnL
    rw [(head_at hv0).1]
    exact mnF_le t v0 0 this.1 (fun v hv => (hte v hv).1)
  refine Evt.at hk'.idx (Evt.bind (e100 hc (hk.el k hk'.mem) hl0 hl1 hC Gk) ?_)
  rw [← ht]
  refine loop_evt (fun x => ∃ (f : Nat) (above : Int) (o : List Ct), x = (w, deep, t, o, above, ()) ∧ 0 ≤ above ∧ above ≤ 10000 ∧ above.toNat < f ∧ o.length ≤ 400 ∧ pl t deep w f above o = pl t deep w (high.toNat + 1) high []) (fun x => (x.2.2.2.2.1).toNat) ⟨high.toNat + 1, high, [], rfl, hhi.1, hhi.2, by omega, by simp, rfl⟩ ?_
  rintro x ⟨f, above, o, rfl, ha0, ha1, hf, ho, he⟩
  obtain ⟨f, rfl⟩ : ∃ f', f = f' + 1 := ⟨f - 1, by omega⟩
  have wab : wr .i64 (above - deep) = above - deep := wrap_id (by omega) (by omega)
  have hmx : (if (0 : Int) > wr .i64 (above - deep) then (0 : Int) else wr .i64 (above - deep)) = max (above - deep) 0 := by rw [wab]; split <;> omega
  show Round (fun n ag => loopK _ n (w, deep, t, o, above, (if (0 : Int) > wr .i64 (above - deep) then (0 : Int) else wr .i64 (above - deep)), t, (t.length : Int), 0, ())) _ _
  rw [hmx]
  have hly : 0 ≤ max (above - deep) 0 ∧ max (above - deep) 0 ≤ 10000 := by omega
  rw [← he]
  refine for_round' 0 (t.length : Int) (fun s (p : List Ct) => (w, deep, t, p, above, max (above - deep) 0, t, (t.length : Int), s, ())) (fun s p => la t above (max (above - deep) 0) w s.toNat o = some p ∧ p.length ≤ 400) (b0 := o) rfl (by omega) ⟨rfl, ho⟩ ?_ ?_
  · intro s p s0 s1 ⟨hp, hpl⟩
    obtain ⟨v, hv⟩ := at_of (l := t) s0 s1
    have hvb := hte v hv.mem
    have hg := g_at hv
    have hla : la t above (max (above - deep) 0) w (s + 1).toNat o = if v ≥ above then some p else if p.length = 400 then none else some (p ++ [(s, max (max (above - deep) 0) v, w, ())]) := by
      rw [show (s + 1).toNat = s.toNat + 1 by omega, la, hp, Option.bind_some, hg, show ((s.toNat : Nat) : Int) = s by omega]
    refine Round.yes (decide_eq_true s1) (Round.at hv.idx (Round.ite (fun h => ?_) (fun h => ?_)))
    · have h : v ≥ above := of_decide_eq_true h
      refine Round.inr _ ⟨p, ?_, by rw [hla, if_pos h], hpl⟩
      show (w, deep, t, p, above, max (above - deep) 0, t, (t.length : Int), wr .i64 (s + 1), ()) = _
      rw [wr_succ s0 s1 (by omega)]
    have h : ¬ v ≥ above := by simpa using h
    rw [if_neg h] at hla
    refine Round.ite (fun h4 => ?_) (fun h4 => ?_)
    · have h4 : p.length = 400 := by
        have : (p.length : Int) = 400 := by simpa using h4
        omega
      rw [if_pos h4] at hla
      have hn := la_none t above _ w hla t.length (by omega)
      have : pl t deep w (f + 1) above o = ([], 3, ()) := by simp only [pl]; rw [hn]
      rw [this]
      exact Round.done (Evt.some _)
    have h4 : ¬ p.length = 400 := by
      have : ¬ (p.length : Int) = 400 := by simpa using h4
      omega
    rw [if_neg h4] at hla
    have hmv : (if v > max (above - deep) 0 then v else max (above - deep) 0) = max (max (above - deep) 0) v := by split <;> omega
    refine Round.chk (decide_eq_true (by simp; omega)) (Round.inr _ ⟨p ++ [(s, max (max (above - deep) 0) v, w, ())], ?_, hla, by simp; omega⟩)
    show (w, deep, t, p ++ [(wr .i16 s, wr .i16 (if v > max (above - deep) 0 then v else max (above - deep) 0), wr .i8 w, ())], above, max (above - deep) 0, t, (t.length : Int), wr .i64 (s + 1), ()) = _
    rw [wr_succ s0 s1 (by omega), hmv, wrap16 (x := s) (by omega) (by omega), wrap16 (by omega) (by omega), wrap8 (by omega) (by omega)]
  · intro p ⟨hp, hpl⟩
    rw [Int.toNat_natCast] at hp
    have hpe : pl t deep w (f + 1) above o = if max (above - deep) 0 ≤ mnL t then (p, 0, ()) else pl t deep w f (max (above - deep) 0) p := by simp only [pl]; rw [hp]
    rw [hpe]
    refine Round.no (by simp) (Round.bind (e101 t (by omega) (by omega)) (Round.ite (fun h => ?_) (fun h => ?_)))
    · rw [if_pos (of_decide_eq_true h)]
      exact Round.done (Evt.some _)
    · have h : ¬ max (above - deep) 0 ≤ mnL t := by simpa using h
      rw [if_neg h]
      refine Round.inl _ ⟨⟨f, max (above - deep) 0, p, rfl, hly.1, hly.2, by omega, hpl, rfl⟩, ?_⟩
      show (max (above - deep) 0).toNat < above.toNat
      omega
theorem eIT {c : List Int} {high : Int} {K : List (List Int)} {w deep : Int} (hc : Rng c) (hk : RngS K) (X : Int) (hX : X = if (okC c && inR (K.length : Int) 1 8 && okKs K) = true then 0 else 1) : Evt (fun n => (call T C n 96 (high, ())).bind fun r3 => (if (!r3.1.1) = true then (call T C n 93 (true, (2 : Int), ())).bind fun r4 => (call T C n 92 (([X, r4.1.1] : (List Int)), ())).bind fun r5 => (if (r5.1.1 != (0 : Int)) = true then some ((([] : (List (Int × (Int × (Int × Unit))))), r5.1.1, ()), (())) else (call T C n 99 (c, ())).bind fun r6 => (if (decide ((wr .i64 r6.1.1) > high)) = true then some ((([] : (List (Int × (Int × (Int × Unit))))), (4 : Int), ()), (())) else (idx K w).bind fun v7 => (call T C n 100 (c, v7, ())).bind fun r8 => loopK (fun (x10 : Int × Int × (List Int) × (List (Int × (Int × (Int × Unit)))) × Int × Unit) again11 => loopK (fun (x13 : Int × Int × (List Int) × (List (Int × (Int × (Int × Unit)))) × Int × Int × (List Int) × Int × Int × Unit) again14 => (if (decide (x13.2.2.2.2.2.2.2.2.1 < x13.2.2.2.2.2.2.2.1)) = true then (idx x13.2.2.2.2.2.2.1 x13.2.2.2.2.2.2.2.2.1).bind fun v16 => (if (decide (v16 ≥ x13.2.2.2.2.1)) = true then again14 (x13.1, x13.2.1, x13.2.2.1, x13.2.2.2.1, x13.2.2.2.2.1, x13.2.2.2.2.2.1, x13.2.2.2.2.2.2.1, x13.2.2.2.2.2.2.2.1, (wr .i64 (x13.2.2.2.2.2.2.2.2.1 + (1 : Int))), ()) else (if ((x13.2.2.2.1.length : Int) == (400 : Int)) = true then some ((([] : (List (Int × (Int × (Int × Unit))))), (3 : Int), ()), (())) else chk (decide ((x13.2.2.2.1.length + ([((wr .i16 x13.2.2.2.2.2.2.2.2.1), ((wr .i16 (if v16 > x13.2.2.2.2.2.1 then v16 else x13.2.2.2.2.2.1)), ((wr .i8 x13.1), ())))] : (List (Int × (Int × (Int × Unit))))).length) * 6 ≤ 140737488355328)) (again14 (x13.1, x13.2.1, x13.2.2.1, (x13.2.2.2.1 ++ ([((wr .i16 x13.2.2.2.2.2.2.2.2.1), ((wr .i16 (if v16 > x13.2.2.2.2.2.1 then v16 else x13.2.2.2.2.2.1)), ((wr .i8 x13.1), ())))] : (List (Int × (Int × (Int × Unit)))))), x13.2.2.2.2.1, x13.2.2.2.2.2.1, x13.2.2.2.2.2.2.1, x13.2.2.2.2.2.2.2.1, (wr .i64 (x13.2.2.2.2.2.2.2.2.1 + (1 : Int))), ())))) else (call T C n 101 (x13.2.2.1, ())).bind fun r17 => (if (decide (x13.2.2.2.2.2.1 ≤ r17.1.1)) = true then some ((x13.2.2.2.1, (0 : Int), ()), (())) else again11 (x13.1, x13.2.1, x13.2.2.1, x13.2.2.2.1, x13.2.2.2.2.2.1, ())))) n (x10.1, x10.2.1, x10.2.2.1, x10.2.2.2.1, x10.2.2.2.2.1, (if (0 : Int) > (wr .i64 (x10.2.2.2.2.1 - x10.2.1)) then (0 : Int) else (wr .i64 (x10.2.2.2.2.1 - x10.2.1))), x10.2.2.1, (x10.2.2.1.length : Int), (0 : Int), ())) n (w, deep, r8.1.1, ([] : (List (Int × (Int × (Int × Unit))))), high, ()))) else (call T C n 97 (w, (K.length : Int), ())).bind fun r18 => (if (bif false then true else (!r18.1.1)) = true then (call T C n 93 (true, (2 : Int), ())).bind fun r19 => (call T C n 92 (([X, r19.1.1] : (List Int)), ())).bind fun r20 => (if (r20.1.1 != (0 : Int)) = true then some ((([] : (List (Int × (Int × (Int × Unit))))), r20.1.1, ()), (())) else (call T C n 99 (c, ())).bind fun r21 => (if (decide ((wr .i64 r21.1.1) > high)) = true then some ((([] : (List (Int × (Int × (Int × Unit))))), (4 : Int), ()), (())) else (idx K w).bind fun v22 => (call T C n 100 (c, v22, ())).bind fun r23 => loopK (fun (x25 : Int × Int × (List Int) × (List (Int × (Int × (Int × Unit)))) × Int × Unit) again26 => loopK (fun (x28 : Int × Int × (List Int) × (List (Int × (Int × (Int × Unit)))) × Int × Int × (List Int) × Int × Int × Unit) again29 => (if (decide (x28.2.2.2.2.2.2.2.2.1 < x28.2.2.2.2.2.2.2.1)) = true then (idx x28.2.2.2.2.2.2.1 x28.2.2.2.2.2.2.2.2.1).bind fun v31 => (if (decide (v31 ≥ x28.2.2.2.2.1)) = true then again29 (x28.1, x28.2.1, x28.2.2.1, x28.2.2.2.1, x28.2.2.2.2.1, x28.2.2.2.2.2.1, x28.2.2.2.2.2.2.1, x28.2.2.2.2.2.2.2.1, (wr .i64 (x28.2.2.2.2.2.2.2.2.1 + (1 : Int))), ()) else (if ((x28.2.2.2.1.length : Int) == (400 : Int)) = true then some ((([] : (List (Int × (Int × (Int × Unit))))), (3 : Int), ()), (())) else chk (decide ((x28.2.2.2.1.length + ([((wr .i16 x28.2.2.2.2.2.2.2.2.1), ((wr .i16 (if v31 > x28.2.2.2.2.2.1 then v31 else x28.2.2.2.2.2.1)), ((wr .i8 x28.1), ())))] : (List (Int × (Int × (Int × Unit))))).length) * 6 ≤ 140737488355328)) (again29 (x28.1, x28.2.1, x28.2.2.1, (x28.2.2.2.1 ++ ([((wr .i16 x28.2.2.2.2.2.2.2.2.1), ((wr .i16 (if v31 > x28.2.2.2.2.2.1 then v31 else x28.2.2.2.2.2.1)), ((wr .i8 x28.1), ())))] : (List (Int × (Int × (Int × Unit)))))), x28.2.2.2.2.1, x28.2.2.2.2.2.1, x28.2.2.2.2.2.2.1, x28.2.2.2.2.2.2.2.1, (wr .i64 (x28.2.2.2.2.2.2.2.2.1 + (1 : Int))), ())))) else (call T C n 101 (x28.2.2.1, ())).bind fun r32 => (if (decide (x28.2.2.2.2.2.1 ≤ r32.1.1)) = true then some ((x28.2.2.2.1, (0 : Int), ()), (())) else again26 (x28.1, x28.2.1, x28.2.2.1, x28.2.2.2.1, x28.2.2.2.2.2.1, ())))) n (x25.1, x25.2.1, x25.2.2.1, x25.2.2.2.1, x25.2.2.2.2.1, (if (0 : Int) > (wr .i64 (x25.2.2.2.2.1 - x25.2.1)) then (0 : Int) else (wr .i64 (x25.2.2.2.2.1 - x25.2.1))), x25.2.2.1, (x25.2.2.1.length : Int), (0 : Int), ())) n (w, deep, r23.1.1, ([] : (List (Int × (Int × (Int × Unit))))), high, ()))) else (call T C n 98 (deep, (1 : Int), (10000 : Int), ())).bind fun r33 => (call T C n 93 ((bif false then true else (!r33.1.1)), (2 : Int), ())).bind fun r34 => (call T C n 92 (([X, r34.1.1] : (List Int)), ())).bind fun r35 => (if (r35.1.1 != (0 : Int)) = true then some ((([] : (List (Int × (Int × (Int × Unit))))), r35.1.1, ()), (())) else (call T C n 99 (c, ())).bind fun r36 => (if (decide ((wr .i64 r36.1.1) > high)) = true then some ((([] : (List (Int × (Int × (Int × Unit))))), (4 : Int), ()), (())) else (idx K w).bind fun v37 => (call T C n 100 (c, v37, ())).bind fun r38 => loopK (fun (x40 : Int × Int × (List Int) × (List (Int × (Int × (Int × Unit)))) × Int × Unit) again41 => loopK (fun (x43 : Int × Int × (List Int) × (List (Int × (Int × (Int × Unit)))) × Int × Int × (List Int) × Int × Int × Unit) again44 => (if (decide (x43.2.2.2.2.2.2.2.2.1 < x43.2.2.2.2.2.2.2.1)) = true then (idx x43.2.2.2.2.2.2.1 x43.2.2.2.2.2.2.2.2.1).bind fun v46 => (if (decide (v46 ≥ x43.2.2.2.2.1)) = true then again44 (x43.1, x43.2.1, x43.2.2.1, x43.2.2.2.1, x43.2.2.2.2.1, x43.2.2.2.2.2.1, x43.2.2.2.2.2.2.1, x43.2.2.2.2.2.2.2.1, (wr .i64 (x43.2.2.2.2.2.2.2.2.1 + (1 : Int))), ()) else (if ((x43.2.2.2.1.length : Int) == (400 : Int)) = true then some ((([] : (List (Int × (Int × (Int × Unit))))), (3 : Int), ()), (())) else chk (decide ((x43.2.2.2.1.length + ([((wr .i16 x43.2.2.2.2.2.2.2.2.1), ((wr .i16 (if v46 > x43.2.2.2.2.2.1 then v46 else x43.2.2.2.2.2.1)), ((wr .i8 x43.1), ())))] : (List (Int × (Int × (Int × Unit))))).length) * 6 ≤ 140737488355328)) (again44 (x43.1, x43.2.1, x43.2.2.1, (x43.2.2.2.1 ++ ([((wr .i16 x43.2.2.2.2.2.2.2.2.1), ((wr .i16 (if v46 > x43.2.2.2.2.2.1 then v46 else x43.2.2.2.2.2.1)), ((wr .i8 x43.1), ())))] : (List (Int × (Int × (Int × Unit)))))), x43.2.2.2.2.1, x43.2.2.2.2.2.1, x43.2.2.2.2.2.2.1, x43.2.2.2.2.2.2.2.1, (wr .i64 (x43.2.2.2.2.2.2.2.2.1 + (1 : Int))), ())))) else (call T C n 101 (x43.2.2.1, ())).bind fun r47 => (if (decide (x43.2.2.2.2.2.1 ≤ r47.1.1)) = true then some ((x43.2.2.2.1, (0 : Int), ()), (())) else again41 (x43.1, x43.2.1, x43.2.2.1, x43.2.2.2.1, x43.2.2.2.2.2.1, ())))) n (x40.1, x40.2.1, x40.2.2.1, x40.2.2.2.1, x40.2.2.2.2.1, (if (0 : Int) > (wr .i64 (x40.2.2.2.2.1 - x40.2.1)) then (0 : Int) else (wr .i64 (x40.2.2.2.2.1 - x40.2.1))), x40.2.2.1, (x40.2.2.1.length : Int), (0 : Int), ())) n (w, deep, r38.1.1, ([] : (List (Int × (Int × (Int × Unit))))), high, ())))))) (pcR c high K w deep, ()) := by
  have hcl := hc.len'
  have hkl := hk.len'
  have hwk : wr .i64 ((K.length : Int) - 1) = (K.length : Int) - 1 := wrap_id (by omega) (by omega)
  cases h1 : (okC c && inR (K.length : Int) 1 8 && okKs K) with
  | false =>
    have hX : X = 1 := by rw [hX, h1]; rfl
    subst hX
    have hr : pcR c high K w deep = ([], 1, ()) := by unfold pcR pcCode; rw [h1]; rfl
    rw [hr]
    have fin : ∀ y : Int, fst0 [1, y] = 1 := fun y => by simp [fst0]
    refine Evt.bind (e96 high) (Evt.ite (fun _ => ?_) (fun _ => ?_))
    · refine Evt.bind (e93 _ _) (Evt.bind (e92 _ (by simp)) ?_)
      rw [fin]; exact Evt.yes rfl (Evt.some _)
    refine Evt.bind (e97 _ _) (Evt.ite (fun _ => ?_) (fun _ => ?_))
    · refine Evt.bind (e93 _ _) (Evt.bind (e92 _ (by simp)) ?_)
      rw [fin]; exact Evt.yes rfl (Evt.some _)
    refine Evt.bind (e98 _ _ _) (Evt.bind (e93 _ _) (Evt.bind (e92 _ (by simp)) ?_))
    rw [fin]; exact Evt.yes rfl (Evt.some _)
  | true =>
    have hX : X = 0 := by rw [hX, h1]; rfl
    subst hX
    have hh := h1
    simp only [Bool.and_eq_true, inR_iff] at hh
    have hC := okC_len hh.1.1
    have bad : (inR high 0 10000 && inR w 0 ((K.length : Int) - 1) && inR deep 1 10000) = false → pcR c high K w deep = ([], 2, ()) := fun h => by unfold pcR pcCode; rw [h1, h]; rfl
    refine Evt.bind (e96 high) ?_
    cases h2 : inR high 0 10000 with
    | false =>
      rw [bad (by rw [h2]; rfl)]
      exact Evt.yes rfl (Evt.bind (e93 _ _) (Evt.bind (e92 _ (by simp)) (Evt.yes rfl (Evt.some _))))
    | true =>
      refine Evt.no (by simp) (Evt.bind (e97 _ _) ?_)
      rw [hwk]
      cases h3 : inR w 0 ((K.length : Int) - 1) with
      | false =>
        rw [bad (by rw [h2, h3]; rfl)]
        exact Evt.yes rfl (Evt.bind (e93 _ _) (Evt.bind (e92 _ (by simp)) (Evt.yes rfl (Evt.some _))))
      | true =>
        refine Evt.no (by simp) (Evt.bind (e98 _ _ _) (Evt.bind (e93 _ _) (Evt.bind (e92 _ (by simp)) ?_)))
        cases h4 : inR deep 1 10000 with
        | false =>
          rw [bad (by rw [h2, h3, h4]; rfl)]
          exact Evt.yes rfl (Evt.some _)
        | true =>
          refine Evt.no (by decide) (Evt.bind (e99 c hc (by omega)) ?_)
          have hmx : wr .i64 (mxL c) = mxL c := by
            have hm := okC_el hh.1.1 hc
            obtain ⟨v0, hv0⟩ := at_of (l := c) (Int.le_refl 0) (by omega)
            have hv := hm v0 hv0.mem
            have l1 := (mxF_ge c v0).1
            have l2 := mxF_le c v0 10000 hv.2 (fun v hv => (hm v hv).2)
            have e : mxL c = mxF c v0 := by unfold mxL; rw [(head_at hv0).1]
            rw [e]
            exact wrap_id (by omega) (by omega)
          show Evt (fun n => if decide (wr .i64 (mxL c) > high) = true then _ else _) _
          rw [hmx]
          refine Evt.ite (fun h => ?_) (fun h => ?_)
          · have h : mxL c > high := by simpa using h
            have hr : pcR c high K w deep = ([], 4, ()) := by unfold pcR pcCode; rw [h1, h2, h3, h4, if_pos h]; rfl
            rw [hr]
            exact Evt.some _
          · have h : ¬ mxL c > high := by simpa using h
            have hz : pcCode c high K w deep = 0 := by unfold pcCode; rw [h1, h2, h3, h4, if_neg h]; rfl
            have hr : pcR c high K w deep = pl (tipsL c (K.getD w.toNat []) c.length) deep w (high.toNat + 1) high [] := by unfold pcR; rw [hz]; rfl
            rw [hr]
            exact eIR hc hk (goodP h1 (by rw [h2, h3, h4]; rfl))
theorem e13 {c : List Int} {high : Int} {K : List (List Int)} {w deep : Int} (hc : Rng c) (hk : RngS K) : Evt (fun n => call T C n 13 (c, high, K, w, deep, ())) (pcR c high K w deep, ()) := by
  have hcl := hc.len'
  refine Evt.next (Evt.bind (e78 c (by omega)) ?_) (fun n => r13 n c high K w deep)
  cases h1 : okC c with
  | false => exact Evt.yes rfl (Evt.bind (e93 _ _) (eIT hc hk _ (by rw [h1]; rfl)))
  | true =>
    refine Evt.no (by simp) (Evt.bind (e94 K) ?_)
    cases h2 : inR (K.length : Int) 1 8 with
    | false => exact Evt.yes rfl (Evt.bind (e93 _ _) (eIT hc hk _ (by rw [h1, h2]; rfl)))
    | true => exact Evt.no (by simp) (Evt.bind (e95 K hk) (Evt.bind (e93 _ _) (eIT hc hk _ (by rw [h1, h2]; cases okKs K <;> rfl))))
/- laws.eqCut -/
theorem e102 (v : Ct) : Evt (fun n => call T C n 102 (v, v, ())) ((true, ()), ()) := Evt.next (Evt.no (by simp) (Evt.no (by simp) (Evt.no (by simp) (Evt.some _)))) (fun n => r102 n v v)
/- laws.eqCutS -/
theorem e14 (l : List Ct) (hl : (l.length : Int) ≤ 140737488351232) : Evt (fun n => call T C n 14 (l, l, ())) ((true, ()), ()) := by
  refine Evt.next (Evt.no (by simp) ?_) (fun n => r14 n l l)
  refine for_evt 0 (l.length : Int) (fun i (_ : Unit) => (l, l, i, ())) (fun _ _ => True) (b0 := ()) (by omega) trivial ?_ ?_
  · intro i _ h2 h3 _
    obtain ⟨v, hv⟩ := at_of h2 h3
    refine Round.yes (decide_eq_true h3) (Round.at hv.idx (Round.at hv.idx (Round.bind (e102 v) (Round.no (by simp) (Round.again _ ⟨(), ?_, trivial⟩)))))
    rw [wr_succ h2 h3 (by omega)]
  · intro _ _
    exact Round.no (by simp) (Round.done (Evt.some _))
/- laws.eqCam -/
theorem e15 (l : List Int) (hl : (l.length : Int) ≤ 140737488351232) : Evt (fun n => call T C n 15 (l, l, ())) ((true, ()), ()) := by
  refine Evt.next (Evt.no (by simp) ?_) (fun n => r15 n l l)
  refine for_evt 0 (l.length : Int) (fun i (_ : Unit) => (l, l, i, ())) (fun _ _ => True) (b0 := ()) (by omega) trivial ?_ ?_
  · intro i _ h2 h3 _
    obtain ⟨v, hv⟩ := at_of h2 h3
    refine Round.yes (decide_eq_true h3) (Round.at hv.idx (Round.at hv.idx (Round.no (by simp) (Round.again _ ⟨(), ?_, trivial⟩))))
    rw [wr_succ h2 h3 (by omega)]
  · intro _ _
    exact Round.no (by simp) (Round.done (Evt.some _))
/- laws.eqCutter -/
theorem e103 (l : List Int) (hl : (l.length : Int) ≤ 140737488351232) : Evt (fun n => call T C n 103 (l, l, ())) ((true, ()), ()) := by
  refine Evt.next (Evt.no (by simp) ?_) (fun n => r103 n l l)
  refine for_evt 0 (l.length : Int) (fun i (_ : Unit) => (l, l, i, ())) (fun _ _ => True) (b0 := ()) (by omega) trivial ?_ ?_
  · intro i _ h2 h3 _
    obtain ⟨v, hv⟩ := at_of h2 h3
    refine Round.yes (decide_eq_true h3) (Round.at hv.idx (Round.at hv.idx (Round.no (by simp) (Round.again _ ⟨(), ?_, trivial⟩))))
    rw [wr_succ h2 h3 (by omega)]
  · intro _ _
    exact Round.no (by simp) (Round.done (Evt.some _))
/- laws.eqCutterS -/
theorem e16 (K : List (List Int)) (hr : RngS K) : Evt (fun n => call T C n 16 (K, K, ())) ((true, ()), ()) := by
  have hl := hr.len'
  refine Evt.next (Evt.no (by simp) ?_) (fun n => r16 n K K)
  refine for_evt' 0 (K.length : Int) (fun i (_ : Unit) => (K, K, i, ())) (fun _ _ => True) (b0 := ()) rfl (by omega) trivial ?_ ?_
  · intro i _ h2 h3 _
    obtain ⟨v, hv⟩ := at_of h2 h3
    have hvl := (hr.el v hv.mem).len'
    refine Round.yes (decide_eq_true h3) (Round.at hv.idx (Round.at hv.idx (Round.bind (e103 v (by omega)) (Round.no (by simp) (Round.again _ ⟨(), ?_, trivial⟩)))))
    rw [wr_succ h2 h3 (by omega)]
  · intro _ _
    exact Round.no (by simp) (Round.done (Evt.some _))
/- laws.markCam -/
theorem e17 (l : List Int) (k : Int) (h0 : 0 ≤ k) (h1 : k + l.length ≤ 4611686018427387904) : Evt (fun n => call T C n 17 (l, k, ())) ((k + l.length, ()), (mkL (wr .i16) l.length k, ())) := by
  refine Evt.next ?_ (fun n => r17 n l k)
  refine for_evt' 0 (l.length : Int) (fun i (b : List Int) => (b, k + i, i, ())) (fun i b => b.length = l.length ∧ b.take i.toNat = mkL (wr .i16) i.toNat k) (b0 := l) (by simp) (by omega) ⟨rfl, by simp [mkL]⟩ ?_ ?_
  · intro i b h2 h3 ⟨hb, ht⟩
    have hi : i < (b.length : Int) := by omega
    obtain ⟨u, hu⟩ := get_of_lt h2 hi
    refine Round.yes (decide_eq_true hi) (Round.chk (chk_at h2 hi) (Round.at hu (Round.again _ ⟨b.set i.toNat (wr .i16 (k + i)), ?_, by simpa using hb, ?_⟩)))
    · rw [wrap_id (x := k + i + 1) (by omega) (by omega), wrap_id (x := i + 1) (by omega) (by omega)]
      simp only [Int.add_assoc, id_eq]
    · rw [take_set_succ h2 hi, ht, show (i + 1).toNat = i.toNat + 1 by omega, mkL_succ, show ((i.toNat : Nat) : Int) = i by omega]
  · intro b ⟨hb, ht⟩
    have e : b = mkL (wr .i16) l.length k := by rw [← take_all b, hb, ht]; simp
    rw [← e]
    exact Round.no (by simp [hb]) (Round.done (Evt.some _))
/- laws.markCutter -/
theorem e104 (l : List Int) (k : Int) (h0 : 0 ≤ k) (h1 : k + l.length ≤ 4611686018427387904) : Evt (fun n => call T C n 104 (l, k, ())) ((k + l.length, ()), (mkL (wr .i16) l.length k, ())) := by
  refine Evt.next ?_ (fun n => r104 n l k)
  refine for_evt' 0 (l.length : Int) (fun i (b : List Int) => (b, k + i, i, ())) (fun i b => b.length = l.length ∧ b.take i.toNat = mkL (wr .i16) i.toNat k) (b0 := l) (by simp) (by omega) ⟨rfl, by simp [mkL]⟩ ?_ ?_
  · intro i b h2 h3 ⟨hb, ht⟩
    have hi : i < (b.length : Int) := by omega
    obtain ⟨u, hu⟩ := get_of_lt h2 hi
    refine Round.yes (decide_eq_true hi) (Round.chk (chk_at h2 hi) (Round.at hu (Round.again _ ⟨b.set i.toNat (wr .i16 (k + i)), ?_, by simpa using hb, ?_⟩)))
    · rw [wrap_id (x := k + i + 1) (by omega) (by omega), wrap_id (x := i + 1) (by omega) (by omega)]
      simp only [Int.add_assoc, id_eq]
    · rw [take_set_succ h2 hi, ht, show (i + 1).toNat = i.toNat + 1 by omega, mkL_succ, show ((i.toNat : Nat) : Int) = i by omega]
  · intro b ⟨hb, ht⟩
    have e : b = mkL (wr .i16) l.length k := by rw [← take_all b, hb, ht]; simp
    rw [← e]
    exact Round.no (by simp [hb]) (Round.done (Evt.some _))
/- laws.markCutterS -/
theorem e18 (K : List (List Int)) (hr : RngS K) (k : Int) (h0 : 0 ≤ k) (h1 : k + totL K ≤ 4611686018427387904) : Evt (fun n => call T C n 18 (K, k, ())) ((k + totL K, ()), (mkKs K k, ())) := by
  have hkl := hr.len'
  refine Evt.next ?_ (fun n => r18 n K k)
  refine for_evt' 0 (K.length : Int) (fun i (b : List (List Int)) => (b, k + totL (K.take i.toNat), i, ())) (fun i b => b.length = K.length ∧ b.drop i.toNat = K.drop i.toNat ∧ b.take i.toNat = mkKs (K.take i.toNat) k) (b0 := K) (by simp [totL]) (by omega) ⟨rfl, rfl, by simp [mkKs]⟩ ?_ ?_
  · intro i b h2 h3 ⟨hb, hd, ht⟩
    have hi : i < (b.length : Int) := by omega
    obtain ⟨v, hv⟩ := at_of (l := K) h2 h3
    obtain ⟨u, hu⟩ := at_of (l := b) h2 hi
    have huv : u = v := by
      have e1 := hu.drop
      have e2 := hv.drop
      rw [hd, e2] at e1
      exact (List.cons.inj e1).1.symm
    subst huv
    have htot := totL_take K (i + 1).toNat
    have hnn := totL_nonneg (K.drop (i + 1).toNat)
    have hnn2 := totL_nonneg (K.take i.toNat)
    have e3 : totL (K.take (i + 1).toNat) = totL (K.take i.toNat) + u.length := by rw [hv.take, totL_append]; simp [totL]
    refine Round.yes (decide_eq_true hi) (Round.chk (chk_at h2 hi) (Round.at hu.get (Round.bind (e104 u (k + totL (K.take i.toNat)) (by omega) (by omega)) (Round.at hu.get (Round.again _ ⟨b.set i.toNat (mkL (wr .i16) u.length (k + totL (K.take i.toNat))), ?_, by simpa using hb, ?_, ?_⟩)))))
    · rw [wr_succ h2 h3 (by omega), e3, Int.add_assoc]
    · rw [show (i + 1).toNat = i.toNat + 1 by omega, List.drop_set_of_lt (by omega)]
      have e1 := hu.drop
      have e2 := hv.drop
      rw [hd, e2] at e1
      have := (List.cons.inj e1).2
      rw [show (i + 1).toNat = i.toNat + 1 by omega] at this
      have e4 : b.drop (i.toNat + 1) = (b.drop i.toNat).tail := by simp
      have e5 : K.drop (i.toNat + 1) = (K.drop i.toNat).tail := by simp
      rw [e4, e5, hd]
    · rw [take_set_succ h2 hi, ht, hv.take, mkKs_snoc]
  · intro b ⟨hb, hd, ht⟩
    simp only [take_all] at ht ⊢
    have e : b = mkKs K k := by rw [← ht, ← hb, take_all]
    rw [← e]
    exact Round.no (by simp [hb]) (Round.done (Evt.some _))
/- laws.markCutS -/
theorem e19 (l : List Ct) (k : Int) (h0 : 0 ≤ k) (h1 : k + 3 * l.length ≤ 4611686018427387904) : Evt (fun n => call T C n 19 (l, k, ())) ((k + 3 * l.length, ()), (mkC (wr .i16) (wr .i16) (wr .i8) l.length k, ())) := by
  refine Evt.next ?_ (fun n => r19 n l k)
  refine for_evt' 0 (l.length : Int) (fun i (b : List Ct) => (b, k + 3 * i, i, ())) (fun i b => b.length = l.length ∧ b.take i.toNat = mkC (wr .i16) (wr .i16) (wr .i8) i.toNat k) (b0 := l) (by simp) (by omega) ⟨rfl, by simp [mkC]⟩ ?_ ?_
  · intro i b h2 h3 ⟨hb, ht⟩
    have hi : i < (b.length : Int) := by omega
    obtain ⟨u, hu⟩ := get_of_lt h2 hi
    have hset : ∀ v : Ct, (b.set i.toNat v)[i.toNat]? = some v := fun v => List.getElem?_set_self (by omega)
    have hsl : ∀ v : Ct, i < (((b.set i.toNat v).length : Nat) : Int) := fun v => by rw [List.length_set]; exact hi
    simp only [wrap_id (x := k + 3 * i + 1) (by omega) (by omega), wrap_id (x := k + 3 * i + 1 + 1) (by omega) (by omega), wrap_id (x := k + 3 * i + 1 + 1 + 1) (by omega) (by omega), wrap_id (x := i + 1) (by omega) (by omega), List.set_set]
    refine Round.yes (decide_eq_true hi) (Round.chk (chk_at h2 hi) (Round.at hu (Round.chk (chk_at h2 (hsl _)) (Round.at (hset _) (Round.chk (chk_at h2 (hsl _)) (Round.at (hset _) (Round.again _ ⟨b.set i.toNat (wr .i16 (k + 3 * i), wr .i16 (k + 3 * i + 1), wr .i8 (k + 3 * i + 1 + 1), ()), ?_, by simpa using hb, ?_⟩)))))))
    · rw [show k + 3 * (i + 1) = k + 3 * i + 1 + 1 + 1 by omega]
    · rw [take_set_succ h2 hi, ht, show (i + 1).toNat = i.toNat + 1 by omega, mkC_succ, show ((i.toNat : Nat) : Int) = i by omega]
  · intro b ⟨hb, ht⟩
    have e : b = mkC (wr .i16) (wr .i16) (wr .i8) l.length k := by rw [← take_all b, hb, ht]; simp
    rw [← e]
    exact Round.no (by simp [hb]) (Round.done (Evt.some _))
/- laws.heldCutS -/
theorem e20 (m : Nat) (k : Int) (h0 : 0 ≤ k) (h1 : k + 3 * m ≤ 4611686018427387904) : Evt (fun n => call T C n 20 (mkC (wr .i16) (wr .i16) (wr .i8) m k, k, ())) ((k + 3 * m, ()), ()) := by
  refine Evt.next ?_ (fun n => r20 n _ k)
  refine for_evt' 0 (m : Int) (fun i (_ : Unit) => (mkC (wr .i16) (wr .i16) (wr .i8) m k, k + 3 * i, i, ())) (fun _ _ => True) (b0 := ()) (by simp) (by omega) trivial ?_ ?_
  · intro i _ h2 h3 _
    obtain ⟨v, hv⟩ := at_of (l := mkC (wr .i16) (wr .i16) (wr .i8) m k) h2 (by rw [mkC_len]; exact h3)
    obtain ⟨e1, e2, e3⟩ := mkC_at (wr .i16) (wr .i16) (wr .i8) m k hv h2
    simp only [wrap_id (x := k + 3 * i + 1) (by omega) (by omega), wrap_id (x := k + 3 * i + 1 + 1) (by omega) (by omega), wrap_id (x := k + 3 * i + 1 + 1 + 1) (by omega) (by omega), wrap_id (x := i + 1) (by omega) (by omega)]
    refine Round.yes (by rw [mkC_len]; exact decide_eq_true h3) (Round.at hv.idx (Round.no (by simp [e1]) (Round.at hv.idx (Round.no (by simp [e2]) (Round.at hv.idx (Round.no (by simp [e3]) (Round.again _ ⟨(), ?_, trivial⟩)))))))
    rw [show k + 3 * (i + 1) = k + 3 * i + 1 + 1 + 1 by omega]
  · intro _ _
    exact Round.no (by simp [mkC_len]) (Round.done (Evt.some _))
/- laws.FnExactPlanCuts -/
theorem e3 (c : List Int) (high : Int) (K : List (List Int)) (w deep : Int) (hd : DomA (C 3).params (c, high, K, w, deep, ())) : Evt (fun n => call T C n 3 (c, high, K, w, deep, ())) ((true, ()), ()) := by
  have hc : Rng c := rng_of hd.1
  have hk : RngS K := rngS_of hd.2.2.1
  have hcl := hc.len'
  have hkl := hk.len'
  refine Evt.next (Evt.ite (fun _ => Evt.some _) (fun hsz => ?_)) (fun n => r3 n c high K w deep)
  have hsz : ¬ (c.length : Int) > 1048576 := by simpa using hsz
  refine Evt.bind (e9 K (by omega) 1048576) (Evt.ite (fun _ => Evt.some _) (fun hs2 => ?_))
  have hs2 := szL_ok hk (by omega) (Int.le_refl _) (by simpa using hs2)
  have hR := pcR_len c high K w deep
  have to1 := e11 c hc.len
  have to2 := e12 K hk
  have sp := e10 (high := high) (w := w) (deep := deep) hc hk
  have im := e13 (high := high) (w := w) (deep := deep) hc hk
  have hm0 := e17 c 1 (by omega) (by omega)
  have hm1 := e18 K hk (1 + c.length) (by omega) (by omega)
  have hm := e19 (pcR c high K w deep).1 1 (by omega) (by omega)
  have hh := e20 (pcR c high K w deep).1.length 1 (by omega) (by omega)
  have eqg := e14 (pcR c high K w deep).1 (by omega)
  have htn := totL_nonneg K
  refine Evt.bind to1 (Evt.bind to2 (Evt.bind sp (Evt.bind to1 (Evt.bind to2 (Evt.bind im (Evt.bind eqg (Evt.no (by simp) (Evt.no (by simp) ?_))))))))
  refine Evt.bind to1 (Evt.bind (e15 c (by omega)) (Evt.no (by simp) (Evt.bind to2 (Evt.bind (e16 K hk) (Evt.no (by simp) ?_)))))
  refine Evt.bind hm0 (Evt.bind hm1 (Evt.no (by simp; omega) (Evt.bind eqg (Evt.no (by simp) (Evt.no (by simp) ?_)))))
  refine Evt.bind hm (Evt.bind hh (Evt.no (by simp; omega) (Evt.no (by simp) ?_)))
  refine Evt.bind to1 (Evt.bind to2 (Evt.bind im (Evt.bind eqg (Evt.no (by simp) (Evt.no (by simp) (Evt.bind hh (Evt.no (by simp; omega) (Evt.no (by simp) (Evt.some _)))))))))

end Go.Cams.YtonehebfknnbiaaLPlanCuts
