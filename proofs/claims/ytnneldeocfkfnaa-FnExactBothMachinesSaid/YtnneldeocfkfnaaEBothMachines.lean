/- What the functions that the law reaches come to. -/
import Derived.Test.YtnneldeocfkfnaaRBothMachines
import Derived.Test.YtnneldeocfkfnaaPu6
namespace Go.Cams.YtnneldeocfkfnaaLBothMachines
open Go Go.Fw Go.Proofs Go.Proofs.Ytnneldeocfkfnaa.LBothMachines
/- laws.szCam -/
theorem e41 (l : List Int) (a : Int) : Evt (fun n => call T C n 41 (l, a, ())) ((sz1 l a, ()), ()) := by
  refine Evt.next ?_ (fun n => r41 n l a)
  unfold sz1
  refine Evt.ite (fun h => ?_) (fun h => ?_)
  · rw [if_pos (of_decide_eq_true h)]; exact Evt.some _
  · rw [if_neg (by simpa using h)]; exact Evt.some _
/- laws.szMachine -/
theorem e18 (m : Mch) (a : Int) : Evt (fun n => call T C n 18 (m, a, ())) ((szM m a, ()), ()) := by
  refine Evt.next (Evt.bind (e41 m.1 a) ?_) (fun n => r18 n m a)
  unfold szM
  refine Evt.ite (fun h => ?_) (fun h => ?_)
  · rw [if_pos (of_decide_eq_true h)]; exact Evt.some _
  rw [if_neg (by simpa using h)]
  refine Evt.bind (e41 m.2.1 _) (Evt.ite (fun h => ?_) (fun h => ?_))
  · rw [if_pos (of_decide_eq_true h)]; exact Evt.some _
  rw [if_neg (by simpa using h)]
  refine Evt.bind (e41 m.2.2.1 _) (Evt.ite (fun h => ?_) (fun h => ?_))
  · rw [if_pos (of_decide_eq_true h)]; exact Evt.some _
  rw [if_neg (by simpa using h)]
  exact Evt.some _
/- laws.toCam -/
theorem e45 (l : List Int) (hl : (l.length : Int) * 2 ≤ 140737488351232) : Evt (fun n => call T C n 45 (l, ())) ((l, ()), ()) := by
  refine Evt.next (Evt.chk (by simp; omega) ?_) (fun n => r45 n l)
  refine for_evt 0 (l.length : Int) (fun i (b : List Int) => (l, b, i, ())) (fun i b => b.length = l.length ∧ b.take i.toNat = l.take i.toNat) (b0 := List.replicate (Int.toNat (l.length : Int)) 0) (by omega) ⟨by simp, by simp⟩ ?_ ?_
  · intro i b h2 h3 ⟨hb, ht⟩
    have hi : i < (b.length : Int) := by omega
    obtain ⟨v, hv⟩ := at_of h2 h3
    obtain ⟨u, hu⟩ := get_of_lt h2 hi
    refine Round.yes (decide_eq_true h3) (Round.at hv.idx (Round.chk (chk_at h2 hi) (Round.at hu (Round.again _ ⟨b.set i.toNat v, ?_, by simpa using hb, ?_⟩))))
    · rw [wr_succ h2 h3 (by omega)]
    · rw [take_set_succ h2 hi, ht, hv.take]
  · intro b ⟨hb, ht⟩
    have e : b = l := by rw [← take_all b, hb, ht]; simp
    rw [e]
    exact Round.no (by simp) (Round.done (Evt.some _))
/- laws.toMachine -/
theorem e20 (m : Mch) (h : RngM m) : Evt (fun n => call T C n 20 (m, ())) ((m, ()), ()) := by
  obtain ⟨a, b, c, u⟩ := m
  exact Evt.next (Evt.bind (e45 a h.x.len) (Evt.bind (e45 b h.y.len) (Evt.bind (e45 c h.p.len) (Evt.some (((a, b, c, ()), ()), ()))))) (fun n => r20 n _)
/- spec.l00In -/
theorem e33 (a b c : Int) : Evt (fun n => call T C n 33 (a, b, c, ())) ((inR a b c, ()), ()) := by
  refine Evt.next ?_ (fun n => r33 n a b c)
  refine Evt.ite (fun h => ?_) (fun h => ?_)
  · refine (Evt.some _).of_eq fun n => ?_
    have h : b ≤ a := of_decide_eq_true h
    simp [inR, h]
    rfl
  · refine (Evt.some _).of_eq fun n => ?_
    have h : ¬ b ≤ a := by simpa using h
    simp [inR, h]
    rfl
/- spec.l01Steps -/
theorem e82 (a : Int) : Evt (fun n => call T C n 82 (a, ())) ((inR a 8 360, ()), ()) := Evt.next (Evt.bind (e33 a 8 360) (Evt.some _)) (fun n => r82 n a)
/- spec.l01Lift -/
theorem e83 (a : Int) : Evt (fun n => call T C n 83 (a, ())) ((inR a 0 10000, ()), ()) := Evt.next (Evt.bind (e33 a 0 10000) (Evt.some _)) (fun n => r83 n a)
/- spec.l01Ok -/
theorem e63 (l : List Int) (hl : (l.length : Int) ≤ 140737488351232) : Evt (fun n => call T C n 63 (l, ())) ((okC l, ()), ()) := by
  refine Evt.next ?_ (fun n => r63 n l)
  refine Evt.bind (e82 _) ?_
  refine Evt.ite (fun h => ?_) (fun h => ?_)
  · refine (Evt.some _).of_eq fun n => ?_
    have h : inR (l.length : Int) 8 360 = false := by simpa using h
    simp [okC, h]
    rfl
  · have h : inR (l.length : Int) 8 360 = true := by simpa using h
    have he : okC l = l.all okV := by simp [okC, h]
    rw [he]
    refine loop_evt (fun (x : List Int × Int × Unit) => x.1 = l ∧ 0 ≤ x.2.1 ∧ x.2.1 ≤ (l.length : Int) ∧ l.all okV = (l.drop x.2.1.toNat).all okV) (fun (x : List Int × Int × Unit) => ((l.length : Int) - x.2.1).toNat) (x := (l, 0, ())) ⟨rfl, Int.le_refl _, by simp, by simp⟩ ?_
    rintro ⟨x1, i, _⟩ ⟨h', h0, h1, h2⟩
    simp only at h' h0 h1 h2
    subst h'
    refine Round.ite (fun hlt => ?_) (fun hge => ?_)
    · have hlt : i < (x1.length : Int) := of_decide_eq_true hlt
      obtain ⟨v, hv, hv'⟩ := idx_at h0 hlt
      have hd := drop_cons hv'
      refine Round.at hv (Round.bind (e83 _) (Round.ite (fun hb => ?_) (fun hb => ?_)))
      · have hb : okV v = false := by simpa [okV] using hb
        have h3 : x1.all okV = false := by rw [h2, hd]; simp [hb]
        rw [h3]
        exact Round.done (Evt.some _)
      · have hb : okV v = true := by simpa [okV] using hb
        have hw : wr .i64 (i + 1) = i + 1 := wrap_id (by omega) (by omega)
        refine Round.again _ ⟨⟨rfl, ?_, ?_, ?_⟩, ?_⟩ <;> simp only [hw]
        · omega
        · omega
        · rw [h2, hd, show (i + 1).toNat = i.toNat + 1 by omega]
          simp [hb]
        · omega
    · have hge : ¬ i < (x1.length : Int) := by simpa using hge
      have : x1.drop i.toNat = [] := List.drop_of_length_le (by omega)
      rw [h2, this]
      exact Round.done (Evt.some _)
/- spec.l00Min -/
theorem e98 (a b : Int) : Evt (fun n => call T C n 98 (a, b, ())) ((min a b, ()), ()) := by
  refine Evt.next (Evt.ite (fun h => ?_) (fun h => ?_)) (fun n => r98 n a b)
  · have h : a < b := of_decide_eq_true h
    rw [show min a b = a by omega]; exact Evt.some _
  · have h : ¬ a < b := by simpa using h
    rw [show min a b = b by omega]; exact Evt.some _
/- spec.l00Max -/
theorem e99 (a b : Int) : Evt (fun n => call T C n 99 (a, b, ())) ((max a b, ()), ()) := by
  refine Evt.next (Evt.ite (fun h => ?_) (fun h => ?_)) (fun n => r99 n a b)
  · have h : a > b := of_decide_eq_true h
    rw [show max a b = a by omega]; exact Evt.some _
  · have h : ¬ a > b := by simpa using h
    rw [show max a b = b by omega]; exact Evt.some _
/- spec.l01Range -/
theorem e89 (l : List Int) (hr : Rng l) (h0 : 0 < (l.length : Int)) : Evt (fun n => call T C n 89 (l, ())) ((mnL l, mxL l, ()), ()) := by
  have hlen := hr.len'
  obtain ⟨v0, hv0⟩ := at_of (l := l) (Int.le_refl 0) h0
  refine Evt.next (Evt.at hv0.idx ?_) (fun n => r89 n l)
  rw [hr.id hv0.mem]
  have hh := (head_at hv0).1
  refine for_evt' 1 (l.length : Int) (fun i (_ : Unit) => (l, mnF (l.take i.toNat) v0, mxF (l.take i.toNat) v0, i, ())) (fun _ _ => True) (b0 := ()) (by
    have := (head_at hv0).2
    show _ = (l, mnF (l.take 1) v0, mxF (l.take 1) v0, 1, ())
    rw [this]; simp [mnF, mxF]) (by omega) trivial ?_ ?_
  · intro i _ h2 h3 _
    obtain ⟨v, hv⟩ := at_of (l := l) (show 0 ≤ i by omega) h3
    simp only [wrap_id (x := i + 1) (by omega) (by omega)]
    refine Round.yes (decide_eq_true h3) (Round.at hv.idx (Round.bind (e98 _ _) (Round.at hv.idx (Round.bind (e99 _ _) (Round.again _ ⟨(), ?_, trivial⟩)))))
    rw [hv.take, mnF_snoc, mxF_snoc, hr.id hv.mem]
  · intro _ _
    have e1 : mnF (l.take (l.length : Int).toNat) v0 = mnL l := by rw [take_all, mnL, hh]
    have e2 : mxF (l.take (l.length : Int).toNat) v0 = mxL l := by rw [take_all, mxL, hh]
    simp only [e1, e2]
    exact Round.no (by simp) (Round.done (Evt.some _))
/- spec.l07Moves -/
theorem e68 (l : List Int) (hr : Rng l) : Evt (fun n => call T C n 68 (l, ())) ((mv l, ()), ()) := by
  have hlen := hr.len'
  refine Evt.next (Evt.bind (e63 l (by omega)) ?_) (fun n => r68 n l)
  unfold mv
  cases hok : okC l with
  | false => exact Evt.yes rfl (Evt.some _)
  | true =>
    have := okC_len hok
    exact Evt.no (by simp) (Evt.bind (e89 l hr (by omega)) (Evt.some _))
/- spec.l07Ok -/
theorem e42 (m : Mch) (h : RngM m) : Evt (fun n => call T C n 42 (m, ())) ((okM m, ()), ()) := by
  have hp := h.p.len'
  refine Evt.next (Evt.bind (e68 m.1 h.x) ?_) (fun n => r42 n m)
  unfold okM
  cases mv m.1 with
  | false => exact Evt.no (by simp) (Evt.some _)
  | true =>
    refine Evt.yes rfl (Evt.bind (e68 m.2.1 h.y) ?_)
    cases mv m.2.1 with
    | false => exact Evt.no (by simp) (Evt.some _)
    | true =>
      refine Evt.yes rfl (Evt.bind (e63 m.2.2.1 (by omega)) ?_)
      cases okC m.2.2.1 with
      | false => exact Evt.no (by simp) (Evt.some _)
      | true =>
        refine Evt.yes rfl ?_
        cases ((m.1.length : Int) == (m.2.1.length : Int)) with
        | false => exact Evt.no (by simp) (Evt.some _)
        | true => exact Evt.yes rfl (Evt.some _)
/- spec.l07Copy -/
theorem e73 (l : List Int) (h : (l.length : Int) ≤ 1000000) : Evt (fun n => call T C n 73 (l, ())) ((l, ()), ()) := Evt.next (Evt.chk (by simp; omega) (Evt.some _)) (fun n => r73 n l)
/- spec.l07Then -/
theorem e52 (a b : List Int) (ha : 0 < (a.length : Int)) (hb : 0 < (b.length : Int)) (ha' : (a.length : Int) ≤ 1000) (hb' : (b.length : Int) ≤ 1000) (p : Bool) : Evt (fun n => call T C n 52 (a, b, p, ())) ((thenL a b (if p = true then 1 else lst a) (if p = true then 1 else lst b), ()), ()) := by
  have h1 := (lst_at ha).idx
  have h2 := (lst_at hb).idx
  refine Evt.next ?_ (fun n => r52 n a b p)
  rw [wrap_id (x := (a.length : Int) - 1) (by omega) (by omega), wrap_id (x := (b.length : Int) - 1) (by omega) (by omega)]
  refine Evt.at h1 (Evt.at h2 ?_)
  cases p with
  | true => exact Evt.yes rfl (Evt.bind (e73 a (by omega)) (Evt.chk (by simp; omega) (Evt.chk (by simp; omega) (Evt.chk (by simp; omega) (Evt.some _)))))
  | false => exact Evt.no (by simp) (Evt.bind (e73 a (by omega)) (Evt.chk (by simp; omega) (Evt.chk (by simp; omega) (Evt.chk (by simp; omega) (Evt.some _)))))
/- spec.BothMachines -/
theorem e25 (m k : Mch) (hm : RngM m) (hk : RngM k) : Evt (fun n => call T C n 25 (m, k, ())) (btR m k, ()) := by
  refine Evt.next (Evt.bind (e42 m hm) ?_) (fun n => r25 n m k)
  unfold btR
  cases h1 : okM m with
  | false => exact Evt.yes rfl (Evt.some _)
  | true =>
    refine Evt.no (by simp) (Evt.bind (e42 k hk) ?_)
    cases h2 : okM k with
    | false => exact Evt.yes rfl (Evt.some _)
    | true =>
      have g1 := goodM h1
      have g2 := goodM h2
      have a1 := okC_len g1.x
      have a2 := okC_len g1.y
      have a3 := okC_len g1.p
      have b1 := okC_len g2.x
      have b2 := okC_len g2.y
      have b3 := okC_len g2.p
      rw [wrap_id (x := (m.1.length : Int) + (k.1.length : Int)) (by omega) (by omega), wrap_id (x := (m.1.length : Int) + (k.1.length : Int) + 2) (by omega) (by omega)]
      refine Evt.no (by simp) (Evt.ite (fun h => ?_) (fun h => ?_))
      · rw [if_neg (by simp), if_neg (by simp), if_pos (of_decide_eq_true h)]; exact Evt.some _
      · rw [if_neg (by simp), if_neg (by simp), if_neg (by simpa using h)]
        exact Evt.bind (e52 m.1 k.1 (by omega) (by omega) (by omega) (by omega) false) (Evt.bind (e52 m.2.1 k.2.1 (by omega) (by omega) (by omega) (by omega) false) (Evt.bind (e52 m.2.2.1 k.2.2.1 (by omega) (by omega) (by omega) (by omega) true) (Evt.some _)))
/- (impl.Cam).steps -/
theorem e72 (a : List Int) : Evt (fun n => call T C n 72 (a, ())) (((a.length : Int), ()), ()) := Evt.next (Evt.some _) (fun n => r72 n a)
/- impl.inRange -/
theorem e64 (a b c : Int) : Evt (fun n => call T C n 64 (a, b, c, ())) ((inR a b c, ()), ()) := by
  refine Evt.next ?_ (fun n => r64 n a b c)
  refine Evt.ite (fun h => ?_) (fun h => ?_)
  · refine (Evt.some _).of_eq fun n => ?_
    have h : b ≤ a := of_decide_eq_true h
    simp [inR, h]
    rfl
  · refine (Evt.some _).of_eq fun n => ?_
    have h : ¬ b ≤ a := by simpa using h
    simp [inR, h]
    rfl
/- impl.isSteps -/
theorem e85 (a : Int) : Evt (fun n => call T C n 85 (a, ())) ((inR a 8 360, ()), ()) := Evt.next (Evt.bind (e64 a 8 360) (Evt.some _)) (fun n => r85 n a)
/- impl.isLift -/
theorem e88 (a : Int) : Evt (fun n => call T C n 88 (a, ())) ((inR a 0 10000, ()), ()) := Evt.next (Evt.bind (e64 a 0 10000) (Evt.some _)) (fun n => r88 n a)
/- impl.ValidCam$1 -/
theorem e87 (v : Int) : Evt (fun n => call T C n 87 (v, ())) ((!okV v, ()), ()) := Evt.next (Evt.bind (e88 _) (Evt.some _)) (fun n => r87 n v)
/- slices.IndexFunc[impl.Cam,int16]{impl.ValidCam$1} -/
theorem e97 (l : List Int) (hl : (l.length : Int) ≤ 140737488351232) : Evt (fun n => call T C n 97 (l, ((), ()), ())) ((fi (fun v => !okV v) l 0, ()), ()) := by
  refine Evt.next ?_ (fun n => r97 n l ((), ()))
  refine loop_evt (fun (x : List Int × (Unit × Unit) × Int × Int × Unit) => x.1 = l ∧ x.2.2.1 = (l.length : Int) ∧ 0 ≤ x.2.2.2.1 ∧ x.2.2.2.1 ≤ (l.length : Int) ∧ fi (fun v => !okV v) l 0 = fi (fun v => !okV v) (l.drop x.2.2.2.1.toNat) x.2.2.2.1) (fun (x : List Int × (Unit × Unit) × Int × Int × Unit) => ((l.length : Int) - x.2.2.2.1).toNat) (x := (l, ((), ()), (l.length : Int), 0, ())) ⟨rfl, rfl, Int.le_refl _, by simp, by simp⟩ ?_
  rintro ⟨x1, u, m, i, _⟩ ⟨h', hm, h0, h1, h2⟩
  simp only at h' hm h0 h1 h2
  subst h'; subst hm
  refine Round.ite (fun hlt => ?_) (fun hge => ?_)
  · have hlt : i < (x1.length : Int) := of_decide_eq_true hlt
    obtain ⟨v, hv, hv'⟩ := idx_at h0 hlt
    have hd := drop_cons hv'
    refine Round.at hv (Round.bind (e87 _) (Round.ite (fun hb => ?_) (fun hb => ?_)))
    · have hb : okV v = false := by simpa using hb
      have h3 : fi (fun v => !okV v) x1 0 = i := by rw [h2, hd]; simp [fi, hb]
      rw [h3]
      exact Round.done (Evt.some _)
    · have hb : okV v = true := by simpa using hb
      have hw : wr .i64 (i + 1) = i + 1 := wrap_id (by omega) (by omega)
      refine Round.again _ ⟨⟨rfl, rfl, ?_, ?_, ?_⟩, ?_⟩ <;> simp only [hw]
      · omega
      · omega
      · rw [h2, hd, show (i + 1).toNat = i.toNat + 1 by omega]
        simp [fi, hb]
      · omega
  · have hge : ¬ i < (x1.length : Int) := by simpa using hge
    have : x1.drop i.toNat = [] := List.drop_of_length_le (by omega)
    rw [h2, this]
    exact Round.done (Evt.some _)
/- slices.ContainsFunc[impl.Cam,int16]{impl.ValidCam$1} -/
theorem e86 (l : List Int) (hl : (l.length : Int) ≤ 140737488351232) : Evt (fun n => call T C n 86 (l, ((), ()), ())) ((l.any (fun v => !okV v), ()), ()) := by
  refine Evt.next (Evt.bind (e97 l hl) ((Evt.some _).of_eq fun n => ?_)) (fun n => r86 n l ((), ()))
  simp only [fi_any _ l 0 (Int.le_refl _)]
  rfl
/- impl.ValidCam -/
theorem e67 (l : List Int) (hl : (l.length : Int) ≤ 140737488351232) : Evt (fun n => call T C n 67 (l, ())) ((okC l, ()), ()) := by
  refine Evt.next (Evt.bind (e72 l) (Evt.bind (e85 _) ?_)) (fun n => r67 n l)
  refine Evt.ite (fun h => ?_) (fun h => ?_)
  · refine Evt.bind (e86 l hl) ((Evt.some _).of_eq fun n => ?_)
    have h : inR (l.length : Int) 8 360 = true := h
    have : okC l = !l.any (fun v => !okV v) := by simp [okC, h, List.any_eq_not_all_not]
    rw [this]
    rfl
  · refine (Evt.some _).of_eq fun n => ?_
    have h : inR (l.length : Int) 8 360 = false := by simpa using h
    simp [okC, h]
    rfl
/- slices.Max[impl.Cam,int16] -/
theorem e70 (l : List Int) (hr : Rng l) (h0 : 0 < (l.length : Int)) : Evt (fun n => call T C n 70 (l, ())) ((mxL l, ()), ()) := by
  have hlen := hr.len'
  obtain ⟨v0, hv0⟩ := at_of (l := l) (Int.le_refl 0) h0
  refine Evt.next (Evt.no (by simp; omega) (Evt.at hv0.idx ?_)) (fun n => r70 n l)
  have hh := (head_at hv0).1
  refine for_evt' 1 (l.length : Int) (fun i (_ : Unit) => (l, mxF (l.take i.toNat) v0, i, ())) (fun _ _ => True) (b0 := ()) (by
    have := (head_at hv0).2
    show _ = (l, mxF (l.take 1) v0, 1, ())
    rw [this]; simp [mxF]) (by omega) trivial ?_ ?_
  · intro i _ h2 h3 _
    obtain ⟨v, hv⟩ := at_of (l := l) (show 0 ≤ i by omega) h3
    simp only [wrap_id (x := i + 1) (by omega) (by omega)]
    refine Round.yes (decide_eq_true h3) (Round.at hv.idx (Round.again _ ⟨(), ?_, trivial⟩))
    rw [hv.take, mxF_snoc]
    congr 2
    split <;> omega
  · intro _ _
    have e2 : mxF (l.take (l.length : Int).toNat) v0 = mxL l := by rw [take_all, mxL, hh]
    simp only [e2]
    exact Round.no (by simp) (Round.done (Evt.some _))
/- impl.ValidMachine -/
theorem e48 (m : Mch) (h : RngM m) : Evt (fun n => call T C n 48 (m, ())) ((okM m, ()), ()) := by
  have hx := h.x.len'
  have hy := h.y.len'
  have hp := h.p.len'
  refine Evt.next (Evt.at (x := ([] : List Int)) rfl (Evt.at (x := ([] : List Int)) rfl ?_)) (fun n => r48 n m)
  show Evt (fun n => loopK _ n (m, [m.1, m.2.1], 0, ())) _
  have one : ∀ (c : List Int) (hr : Rng c) (i : Int) (rest : Bool), i = 0 ∨ i = 1 → idx [m.1, m.2.1] i = some c → okM m = (mv c && ((c.length : Int) == (m.2.2.1.length : Int)) && rest) → ∀ {P : (Mch × List (List Int) × Int × Unit) → Prop}, (mv c = true → c.length = m.2.2.1.length → P (m, [m.1, m.2.1], wr .i64 (i + 1), ())) →
      Round (σ := Mch × List (List Int) × Int × Unit) (fun n ag => (idx [m.1, m.2.1] i).bind fun v6 => (call T C n 67 (v6, ())).bind fun r7 => if (!r7.1.1) = true then some ((false, ()), ()) else if (bif false then true else ((v6.length : Int) != (m.2.2.1.length : Int))) = true then some ((false, ()), ()) else (call T C n 70 (v6, ())).bind fun r8 => if (bif false then true else decide (r8.1.1 ≥ 64)) = true then some ((false, ()), ()) else ag (m, [m.1, m.2.1], wr .i64 (i + 1), ())) ((okM m, ()), ()) P := by
    intro c hr i rest _ hi he P hP
    have hc := hr.len'
    refine Round.at hi (Round.bind (e67 c (by omega)) ?_)
    cases hok : okC c with
    | false =>
      have : okM m = false := by rw [he]; simp [mv, hok]
      rw [this]
      exact Round.yes rfl (Round.done (Evt.some _))
    | true =>
      have hl := okC_len hok
      refine Round.no (by simp) (Round.ite (fun hb => ?_) (fun hb => ?_))
      · have hb : ¬ (c.length : Int) = m.2.2.1.length := by simpa using hb
        have : okM m = false := by
          rw [he]
          have : ((c.length : Int) == (m.2.2.1.length : Int)) = false := by simpa using hb
          simp [this]
        rw [this]
        exact Round.done (Evt.some _)
      · have hb : c.length = m.2.2.1.length := by
          have : (c.length : Int) = m.2.2.1.length := by simpa using hb
          omega
        refine Round.bind (e70 c hr (by omega)) (Round.ite (fun hg => ?_) (fun hg => ?_))
        · have hg : mxL c ≥ 64 := of_decide_eq_true hg
          have : okM m = false := by
            rw [he]
            have : mv c = false := by simp [mv]; intro; omega
            simp [this]
          rw [this]
          exact Round.done (Evt.some _)
        · have hg : ¬ mxL c ≥ 64 := by simpa using hg
          exact Round.again _ (hP (by simp [mv, hok]; omega) hb)
  refine for_evt' 0 2 (fun i (_ : Unit) => (m, [m.1, m.2.1], i, ())) (fun i _ => (0 < i → mv m.1 = true ∧ m.1.length = m.2.2.1.length) ∧ (1 < i → mv m.2.1 = true ∧ m.2.1.length = m.2.2.1.length)) (b0 := ()) rfl (by omega) ⟨by omega, by omega⟩ ?_ ?_
  · intro i _ h2 h3 ⟨p1, p2⟩
    refine Round.yes (decide_eq_true h3) ?_
    have hi : i = 0 ∨ i = 1 := by omega
    rcases hi with rfl | rfl
    · refine one m.1 h.x 0 (mv m.2.1 && okC m.2.2.1 && ((m.1.length : Int) == (m.2.1.length : Int))) (.inl rfl) rfl ?_ (fun q1 q2 => ⟨(), rfl, fun _ => ⟨q1, q2⟩, by omega⟩)
      unfold okM
      cases mv m.1 <;> cases mv m.2.1 <;> cases okC m.2.2.1 <;> cases ((m.1.length : Int) == (m.2.1.length : Int)) <;> cases ((m.1.length : Int) == (m.2.2.1.length : Int)) <;> rfl
    · obtain ⟨p3, p4⟩ := p1 (by omega)
      refine one m.2.1 h.y 1 (okC m.2.2.1) (.inr rfl) rfl ?_ (fun q1 q2 => ⟨(), rfl, fun _ => ⟨p3, p4⟩, fun _ => ⟨q1, q2⟩⟩)
      unfold okM
      rw [p3, p4]
      have : ((m.2.2.1.length : Int) == (m.2.1.length : Int)) = ((m.2.1.length : Int) == (m.2.2.1.length : Int)) := BEq.comm
      rw [this]
      cases mv m.2.1 <;> cases okC m.2.2.1 <;> cases ((m.2.1.length : Int) == (m.2.2.1.length : Int)) <;> simp
  · intro _ ⟨p1, p2⟩
    obtain ⟨q1, q2⟩ := p1 (by omega)
    obtain ⟨q3, q4⟩ := p2 (by omega)
    have : okM m = okC m.2.2.1 := by
      unfold okM
      rw [q1, q3, q2, q4]
      simp
    rw [this]
    exact Round.no (by simp) (Round.done (Evt.bind (e67 m.2.2.1 (by omega)) (Evt.some _)))
/- impl.codeIf -/
theorem e47 (c : Bool) (v : Int) : Evt (fun n => call T C n 47 (c, v, ())) (((if c = true then v else 0), ()), ()) := by
  refine Evt.next ?_ (fun n => r47 n c v)
  cases c with
  | true => exact Evt.yes rfl (Evt.some _)
  | false => exact Evt.no (by simp) (Evt.some _)
/- impl.firstCode -/
theorem e46 (l : List Int) (hl : (l.length : Int) ≤ 140737488351232) : Evt (fun n => call T C n 46 (l, ())) ((fst0 l, ()), ()) := by
  refine Evt.next ?_ (fun n => r46 n l)
  refine loop_evt (fun (x : List Int × Int × Int × Unit) => x.1 = l ∧ x.2.1 = (l.length : Int) ∧ 0 ≤ x.2.2.1 ∧ x.2.2.1 ≤ (l.length : Int) ∧ fst0 l = fst0 (l.drop x.2.2.1.toNat)) (fun (x : List Int × Int × Int × Unit) => ((l.length : Int) - x.2.2.1).toNat) (x := (l, (l.length : Int), 0, ())) ⟨rfl, rfl, Int.le_refl _, by simp, by simp⟩ ?_
  rintro ⟨x1, m, i, _⟩ ⟨h', hm, h0, h1, h2⟩
  simp only at h' hm h0 h1 h2
  subst h'; subst hm
  refine Round.ite (fun hlt => ?_) (fun hge => ?_)
  · have hlt : i < (x1.length : Int) := of_decide_eq_true hlt
    obtain ⟨v, hv, hv'⟩ := idx_at h0 hlt
    have hd := drop_cons hv'
    refine Round.at hv (Round.ite (fun hb => ?_) (fun hb => ?_))
    · have hb : v ≠ 0 := by simpa using hb
      have h3 : fst0 x1 = v := by rw [h2, hd]; simp [fst0, hb]
      rw [h3]
      exact Round.done (Evt.some _)
    · have hb : v = 0 := by simpa using hb
      have hw : wr .i64 (i + 1) = i + 1 := wrap_id (by omega) (by omega)
      refine Round.again _ ⟨⟨rfl, rfl, ?_, ?_, ?_⟩, ?_⟩ <;> simp only [hw]
      · omega
      · omega
      · rw [h2, hd, show (i + 1).toNat = i.toNat + 1 by omega]
        simp [fst0, hb]
      · omega
  · have hge : ¬ i < (x1.length : Int) := by simpa using hge
    have : x1.drop i.toNat = [] := List.drop_of_length_le (by omega)
    rw [h2, this]
    exact Round.done (Evt.some _)
/- slices.Clone[impl.Cam,int16] -/
theorem e37 (l : List Int) (h0 : l.length ≠ 0) (hl : (l.length : Int) ≤ 1000000) : Evt (fun n => call T C n 37 (l, ())) ((l, ()), ()) :=
  Evt.next (Evt.chk (decide_eq_true h0) (Evt.chk (by simp; omega) (Evt.some _))) (fun n => r37 n l)
/- impl.withLast -/
theorem e74 (l : List Int) (x : Int) (h0 : l.length ≠ 0) (h : (l.length : Int) ≤ 1000000) : Evt (fun n => call T C n 74 (l, x, ())) ((l ++ [x], ()), ()) := Evt.next (Evt.bind (e37 l h0 h) (Evt.chk (by simp; omega) (Evt.some _))) (fun n => r74 n l x)
/- (impl.Machine).still -/
theorem e53 (m : Mch) (g : GoodM m) : Evt (fun n => call T C n 53 (m, ())) (((m.1 ++ [lst m.1], m.2.1 ++ [lst m.2.1], m.2.2.1 ++ [1], ()), ()), ()) := by
  have a1 := okC_len g.x
  have a2 := okC_len g.y
  have a3 := okC_len g.p
  have h1 := (lst_at (l := m.1) (by omega)).idx
  have h2 := (lst_at (l := m.2.1) (by omega)).idx
  rw [← g.xy] at h2
  refine Evt.next ?_ (fun n => r53 n m)
  rw [wrap_id (x := (m.1.length : Int) - 1) (by omega) (by omega)]
  exact Evt.at h1 (Evt.bind (e74 _ _ (by omega) (by omega)) (Evt.at h2 (Evt.bind (e74 _ _ (by omega) (by omega)) (Evt.bind (e74 _ _ (by omega) (by omega)) (Evt.some _)))))
/- slices.Grow[impl.Cam,int16] -/
theorem e75 (a : Int) (h0 : 0 ≤ a) (h1 : a ≤ 1000000) : Evt (fun n => call T C n 75 ((), a, ())) (([], ()), ()) := by
  have hw : wr .i64 (a - wr .i64 (0 - 0)) = a := by
    have : wr .i64 (0 - 0) = 0 := rfl
    rw [this, wrap_id (by omega) (by omega)]; omega
  refine Evt.next ?_ (fun n => r75 n () a)
  simp only [hw]
  refine Evt.no (by simp; omega) (Evt.ite (fun h => ?_) (fun h => ?_))
  · exact Evt.chk rfl (Evt.chk (by simp; omega) (Evt.chk (by simp; omega) ((Evt.some _).of_eq fun n => by simp; rfl)))
  · exact Evt.some _
/- slices.Concat[impl.Cam,int16] -/
theorem e54 (l : List (List Int)) (h : (l.flatten.length : Int) ≤ 1000000) (hl : (l.length : Int) ≤ 1000000) : Evt (fun n => call T C n 54 (l, ())) ((l.flatten, ()), ()) := by
  have hsplit : ∀ i : Nat, (l.take i).flatten.length + (l.drop i).flatten.length = l.flatten.length := by
    intro i
    rw [← List.length_append, ← List.flatten_append, List.take_append_drop]
  refine Evt.next ?_ (fun n => r54 n l)
  refine for_evt' 0 (l.length : Int) (fun i (_ : Unit) => (l, ((l.take i.toNat).flatten.length : Int), l, (l.length : Int), i, ())) (fun _ _ => True) (b0 := ()) (by simp) (by omega) trivial ?_ ?_
  · intro i _ h2 h3 _
    obtain ⟨v, hv⟩ := at_of (l := l) h2 h3
    have hs := hsplit (i + 1).toNat
    rw [hv.take, List.flatten_append, List.length_append] at hs
    simp only [List.flatten_cons, List.flatten_nil, List.append_nil] at hs
    simp only [wr_succ h2 h3 (by omega), wrap_id (x := ((l.take i.toNat).flatten.length : Int) + (v.length : Int)) (by omega) (by omega)]
    refine Round.yes (decide_eq_true h3) (Round.at hv.idx ?_)
    simp only [wrap_id (x := ((l.take i.toNat).flatten.length : Int) + (v.length : Int)) (by omega) (by omega)]
    refine Round.no (by simp; omega) (Round.again _ ⟨(), ?_, trivial⟩)
    rw [hv.take, List.flatten_append, List.length_append]
    simp
  · intro _ _
    simp only [take_all]
    refine Round.no (by simp) (Round.bind (e75 _ (by omega) h) (Round.done ?_))
    refine for_evt' 0 (l.length : Int) (fun i (_ : Unit) => ((l.take i.toNat).flatten, l, (l.length : Int), i, ())) (fun _ _ => True) (b0 := ()) (by simp) (by omega) trivial ?_ ?_
    · intro i _ h2 h3 _
      obtain ⟨v, hv⟩ := at_of (l := l) h2 h3
      have hs := hsplit (i + 1).toNat
      rw [hv.take, List.flatten_append, List.length_append] at hs
      simp only [List.flatten_cons, List.flatten_nil, List.append_nil] at hs
      refine Round.yes (decide_eq_true h3) (Round.at hv.idx (Round.chk (decide_eq_true (by show ((l.take i.toNat).flatten.length + v.length) * 2 ≤ 140737488355328; omega)) (Round.again _ ⟨(), ?_, trivial⟩)))
      rw [hv.take, List.flatten_append, wr_succ h2 h3 (by omega)]
      simp
    · intro _ _
      simp only [take_all]
      exact Round.no (by simp) (Round.done (Evt.some _))
/- impl.BothMachines -/
theorem e26 (m k : Mch) (hm : RngM m) (hk : RngM k) : Evt (fun n => call T C n 26 (m, k, ())) (btR m k, ()) := by
  refine Evt.next (Evt.bind (e48 m hm) ?_) (fun n => r26 n m k)
  unfold btR
  cases h1 : okM m with
  | false =>
    refine Evt.yes rfl (Evt.bind (e47 _ _) (Evt.bind (e47 _ _) (Evt.bind (e46 _ (by simp)) (Evt.yes (by simp [fst0]) ((Evt.some _).of_eq fun n => ?_)))))
    simp [fst0]
    rfl
  | true =>
    refine Evt.no (by simp) (Evt.bind (e48 k hk) (Evt.bind (e47 _ _) (Evt.bind (e47 _ _) (Evt.bind (e46 _ (by simp)) ?_))))
    cases h2 : okM k with
    | false =>
      refine Evt.yes (by simp [fst0]) ((Evt.some _).of_eq fun n => ?_)
      simp [fst0]
      rfl
    | true =>
      have g1 := goodM h1
      have g2 := goodM h2
      have a1 := okC_len g1.x
      have a2 := okC_len g1.y
      have a3 := okC_len g1.p
      have b1 := okC_len g2.x
      have b2 := okC_len g2.y
      have b3 := okC_len g2.p
      rw [wrap_id (x := (m.1.length : Int) + (k.1.length : Int)) (by omega) (by omega), wrap_id (x := (m.1.length : Int) + (k.1.length : Int) + 2) (by omega) (by omega)]
      by_cases h : (m.1.length : Int) + k.1.length + 2 > 360
      · simp only [Bool.not_true, Bool.false_eq_true, if_false]
        rw [if_pos h]
        have hd := decide_eq_true h
        simp only [hd]
        refine Evt.yes (by simp [fst0]) ((Evt.some _).of_eq fun n => ?_)
        simp [fst0]
        rfl
      · simp only [Bool.not_true, Bool.false_eq_true, if_false]
        rw [if_neg h]
        have cc := fun (a b : List Int) (x y : Int) (ha : (a.length : Int) ≤ 360) (hb : (b.length : Int) ≤ 360) => by
          have := e54 [a ++ [x], b ++ [y]] (by rw [thenL_flat, thenL_len]; omega) (by simp)
          rw [thenL_flat] at this
          exact this
        have hd := decide_eq_false h
        simp only [hd]
        refine Evt.no (by simp [fst0]) (Evt.bind (e53 m g1) (Evt.bind (e53 k g2) ?_))
        exact Evt.bind (cc m.1 k.1 _ _ (by omega) (by omega)) (Evt.bind (cc m.2.1 k.2.1 _ _ (by omega) (by omega)) (Evt.bind (cc m.2.2.1 k.2.2.1 _ _ (by omega) (by omega)) (Evt.some _)))
/- laws.eqCam -/
theorem e51 (l : List Int) (hl : (l.length : Int) ≤ 140737488351232) : Evt (fun n => call T C n 51 (l, l, ())) ((true, ()), ()) := by
  refine Evt.next (Evt.no (by simp) ?_) (fun n => r51 n l l)
  refine for_evt 0 (l.length : Int) (fun i (_ : Unit) => (l, l, i, ())) (fun _ _ => True) (b0 := ()) (by omega) trivial ?_ ?_
  · intro i _ h2 h3 _
    obtain ⟨v, hv⟩ := at_of h2 h3
    refine Round.yes (decide_eq_true h3) (Round.at hv.idx (Round.at hv.idx (Round.no (by simp) (Round.again _ ⟨(), ?_, trivial⟩))))
    rw [wr_succ h2 h3 (by omega)]
  · intro _ _
    exact Round.no (by simp) (Round.done (Evt.some _))
/- laws.eqMachine -/
theorem e22 (m : Mch) (hx : (m.1.length : Int) ≤ 140737488351232) (hy : (m.2.1.length : Int) ≤ 140737488351232) (hp : (m.2.2.1.length : Int) ≤ 140737488351232) : Evt (fun n => call T C n 22 (m, m, ())) ((true, ()), ()) :=
  Evt.next (Evt.bind (e51 _ hx) (Evt.no (by simp) (Evt.bind (e51 _ hy) (Evt.no (by simp) (Evt.bind (e51 _ hp) (Evt.no (by simp) (Evt.some _))))))) (fun n => r22 n m m)
/- laws.markCam -/
theorem e39 (l : List Int) (k : Int) (h0 : 0 ≤ k) (h1 : k + l.length ≤ 4611686018427387904) : Evt (fun n => call T C n 39 (l, k, ())) ((k + l.length, ()), (mkL (wr .i16) l.length k, ())) := by
  refine Evt.next ?_ (fun n => r39 n l k)
  refine for_evt' 0 (l.length : Int) (fun i (b : List Int) => (b, k + i, i, ())) (fun i b => b.length = l.length ∧ b.take i.toNat = mkL (wr .i16) i.toNat k) (b0 := l) (by simp) (by omega) ⟨rfl, by simp [mkL]⟩ ?_ ?_
  · intro i b h2 h3 ⟨hb, ht⟩
    have hi : i < (b.length : Int) := by omega
    obtain ⟨u, hu⟩ := get_of_lt h2 hi
    refine Round.yes (decide_eq_true hi) (Round.chk (chk_at h2 hi) (Round.at hu (Round.again _ ⟨b.set i.toNat (wr .i16 (k + i)), ?_, by simpa using hb, ?_⟩)))
    · rw [wrap_id (x := k + i + 1) (by omega) (by omega), wrap_id (x := i + 1) (by omega) (by omega)]
      simp only [Int.add_assoc, id_eq]
    · rw [take_set_succ h2 hi, ht, show (i + 1).toNat = i.toNat + 1 by omega, mkL_succ, show ((i.toNat : Nat) : Int) = i by omega]
  · intro b ⟨hb, ht⟩
    have e : b = mkL (wr .i16) l.length k := by rw [← take_all b, hb, ht]; simp
    rw [← e]
    exact Round.no (by simp [hb]) (Round.done (Evt.some _))
/- laws.markMachine -/
theorem e23 (m : Mch) (k : Int) (h0 : 0 ≤ k) (h1 : k + totM m ≤ 4611686018427387904) : Evt (fun n => call T C n 23 (m, k, ())) ((k + totM m, ()), (mkM m k, ())) := by
  unfold totM at h1
  refine Evt.next (Evt.bind (e39 m.1 k h0 (by omega)) (Evt.bind (e39 m.2.1 (k + m.1.length) (by omega) (by omega)) (Evt.bind (e39 m.2.2.1 (k + m.1.length + m.2.1.length) (by omega) (by omega)) ((Evt.some _).of_eq fun n => ?_)))) (fun n => r23 n m k)
  simp only [totM, mkM]
  rw [show k + ((m.1.length : Int) + m.2.1.length + m.2.2.1.length) = k + m.1.length + m.2.1.length + m.2.2.1.length by omega]
  rfl
/- laws.heldCam -/
theorem e40 (m : Nat) (k : Int) (h0 : 0 ≤ k) (h1 : k + m ≤ 4611686018427387904) : Evt (fun n => call T C n 40 (mkL (wr .i16) m k, k, ())) ((k + m, ()), ()) := by
  refine Evt.next ?_ (fun n => r40 n _ k)
  refine for_evt' 0 (m : Int) (fun i (_ : Unit) => (mkL (wr .i16) m k, k + i, i, ())) (fun _ _ => True) (b0 := ()) (by simp) (by omega) trivial ?_ ?_
  · intro i _ h2 h3 _
    obtain ⟨v, hv⟩ := at_of (l := mkL (wr .i16) m k) h2 (by rw [mkL_len]; exact h3)
    have e := mkL_at (wr .i16) m k hv h2
    refine Round.yes (by rw [mkL_len]; exact decide_eq_true h3) (Round.at hv.idx (Round.no (by simp [e]) (Round.again _ ⟨(), ?_, trivial⟩)))
    rw [wrap_id (x := k + i + 1) (by omega) (by omega), wrap_id (x := i + 1) (by omega) (by omega)]
    simp only [Int.add_assoc]
  · intro _ _
    exact Round.no (by simp [mkL_len]) (Round.done (Evt.some _))
/- laws.heldMachine -/
theorem e24 (m : Mch) (k : Int) (h0 : 0 ≤ k) (h1 : k + totM m ≤ 4611686018427387904) : Evt (fun n => call T C n 24 (mkM m k, k, ())) ((k + totM m, ()), ()) := by
  unfold totM at h1
  refine Evt.next (Evt.bind (e40 m.1.length k h0 (by omega)) (Evt.no (by simp; omega) (Evt.bind (e40 m.2.1.length (k + m.1.length) (by omega) (by omega)) (Evt.no (by simp; omega) (Evt.bind (e40 m.2.2.1.length (k + m.1.length + m.2.1.length) (by omega) (by omega)) (Evt.no (by simp; omega) ((Evt.some _).of_eq fun n => ?_))))))) (fun n => r24 n (mkM m k) k)
  simp only [totM]
  rw [show k + ((m.1.length : Int) + m.2.1.length + m.2.2.1.length) = k + m.1.length + m.2.1.length + m.2.2.1.length by omega]
  rfl
/- laws.FnExactBothMachines -/
theorem e5 (m k : Mch) (hd : DomA (C 5).params (m, k, ())) : Evt (fun n => call T C n 5 (m, k, ())) ((true, ()), ()) := by
  have hR : RngM m := rngM_of hd.1
  have hK : RngM k := rngM_of hd.2.1
  have hx := hR.x.len'
  have hy := hR.y.len'
  have hp := hR.p.len'
  have kx := hK.x.len'
  have ky := hK.y.len'
  have kp := hK.p.len'
  refine Evt.next (Evt.bind (e18 m 1048576) (Evt.ite (fun _ => Evt.some _) (fun hsz => ?_))) (fun n => r5 n m k)
  have hsz := szM_ok hR (by omega) (Int.le_refl _) (by simpa using hsz)
  refine Evt.bind (e18 k _) (Evt.ite (fun _ => Evt.some _) (fun hsk => ?_))
  have hsk := szM_ok hK hsz.2.1 hsz.2.2 (by simpa using hsk)
  obtain ⟨g1, g2, g3⟩ := btR_small m k
  have to1 := e20 m hR
  have to2 := e20 k hK
  have sp := e25 m k hR hK
  have im := e26 m k hR hK
  have pos : ∀ z : Mch, 0 ≤ totM z := fun z => by unfold totM; omega
  have hm0 := e23 m 1 (by omega) (by unfold totM; omega)
  have hm1 := e23 k (1 + totM m) (by have := pos m; omega) (by unfold totM; omega)
  have hm := e23 (btR m k).1 1 (by omega) (by unfold totM; omega)
  have hh := e24 (btR m k).1 1 (by omega) (by unfold totM; omega)
  have eqg := e22 (btR m k).1 (by omega) (by omega) (by omega)
  refine Evt.bind to1 (Evt.bind to2 (Evt.bind sp (Evt.bind to1 (Evt.bind to2 (Evt.bind im (Evt.bind eqg (Evt.no (by simp) (Evt.no (by simp) ?_))))))))
  refine Evt.bind to1 (Evt.bind (e22 m (by omega) (by omega) (by omega)) (Evt.no (by simp) ?_))
  refine Evt.bind to2 (Evt.bind (e22 k (by omega) (by omega) (by omega)) (Evt.no (by simp) ?_))
  refine Evt.bind hm0 (Evt.bind hm1 (Evt.no (by have := pos m; have := pos k; simp; omega) (Evt.bind eqg (Evt.no (by simp) (Evt.no (by simp) ?_)))))
  refine Evt.bind hm (Evt.bind hh (Evt.no (by have := pos (btR m k).1; simp; omega) (Evt.no (by simp) ?_)))
  refine Evt.bind to1 (Evt.bind to2 (Evt.bind im (Evt.bind eqg (Evt.no (by simp) (Evt.no (by simp) (Evt.bind hh (Evt.no (by have := pos (btR m k).1; simp; omega) (Evt.no (by simp) (Evt.some _)))))))))

end Go.Cams.YtnneldeocfkfnaaLBothMachines
