/- What the functions that the law reaches come to. -/
import Derived.Test.YtdhgdfofgeccgaaRSt
import Derived.Test.YtdhgdfofgeccgaaPuAll
namespace Go.Cams.YtdhgdfofgeccgaaLSt
open Go Go.Fw Go.Proofs Go.Proofs.Ytdhgdfofgeccgaa.LSt
/- laws.szCam -/
theorem e70 (l : List Int) (a : Int) : Evt (fun n => call T C n 70 (l, a, ())) ((sz1 l a, ()), ()) := by
  refine Evt.next ?_ (fun n => r70 n l a)
  unfold sz1
  refine Evt.ite (fun h => ?_) (fun h => ?_)
  · rw [if_pos (of_decide_eq_true h)]; exact Evt.some _
  · rw [if_neg (by simpa using h)]; exact Evt.some _
/- laws.szMachine -/
theorem e9 (m : Mch) (a : Int) : Evt (fun n => call T C n 9 (m, a, ())) ((szM m a, ()), ()) := by
  refine Evt.next (Evt.bind (e70 m.1 a) ?_) (fun n => r9 n m a)
  unfold szM
  refine Evt.ite (fun h => ?_) (fun h => ?_)
  · rw [if_pos (of_decide_eq_true h)]; exact Evt.some _
  rw [if_neg (by simpa using h)]
  refine Evt.bind (e70 m.2.1 _) (Evt.ite (fun h => ?_) (fun h => ?_))
  · rw [if_pos (of_decide_eq_true h)]; exact Evt.some _
  rw [if_neg (by simpa using h)]
  refine Evt.bind (e70 m.2.2.1 _) (Evt.ite (fun h => ?_) (fun h => ?_))
  · rw [if_pos (of_decide_eq_true h)]; exact Evt.some _
  rw [if_neg (by simpa using h)]
  exact Evt.some _
/- laws.toCam -/
theorem e74 (l : List Int) (hl : (l.length : Int) * 2 ≤ 140737488351232) : Evt (fun n => call T C n 74 (l, ())) ((l, ()), ()) := by
  refine Evt.next (Evt.chk (by simp; omega) ?_) (fun n => r74 n l)
  refine for_evt 0 (l.length : Int) (fun i (b : List Int) => (l, b, i, ())) (fun i b => b.length = l.length ∧ b.take i.toNat = l.take i.toNat) (b0 := List.replicate (Int.toNat (l.length : Int)) 0) (by omega) ⟨by simp, by simp⟩ ?_ ?_
  · intro i b h2 h3 ⟨hb, ht⟩
    have hi : i < (b.length : Int) := by omega
    obtain ⟨v, hv⟩ := at_of h2 h3
    obtain ⟨u, hu⟩ := get_of_lt h2 hi
    refine Round.yes (decide_eq_true h3) (Round.at hv.idx (Round.chk (chk_at h2 hi) (Round.at hu (Round.again _ ⟨b.set i.toNat v, ?_, by simpa using hb, ?_⟩))))
    · rw [wr_succ h2 h3 (by omega)]
    · rw [take_set_succ h2 hi, ht, hv.take]
  · intro b ⟨hb, ht⟩
    have e : b = l := by rw [← take_all b, hb, ht]; simp
    rw [e]
    exact Round.no (by simp) (Round.done (Evt.some _))
/- laws.toMachine -/
theorem e11 (m : Mch) (h : RngM m) : Evt (fun n => call T C n 11 (m, ())) ((m, ()), ()) := by
  obtain ⟨a, b, c, u⟩ := m
  exact Evt.next (Evt.bind (e74 a h.x.len) (Evt.bind (e74 b h.y.len) (Evt.bind (e74 c h.p.len) (Evt.some (((a, b, c, ()), ()), ()))))) (fun n => r11 n _)
/- spec.l00In -/
theorem e85 (a b c : Int) : Evt (fun n => call T C n 85 (a, b, c, ())) ((inR a b c, ()), ()) := by
  refine Evt.next ?_ (fun n => r85 n a b c)
  refine Evt.ite (fun h => ?_) (fun h => ?_)
  · refine (Evt.some _).of_eq fun n => ?_
    have h : b ≤ a := of_decide_eq_true h
    simp [inR, h]
    rfl
  · refine (Evt.some _).of_eq fun n => ?_
    have h : ¬ b ≤ a := by simpa using h
    simp [inR, h]
    rfl
/- spec.l01Steps -/
theorem e117 (a : Int) : Evt (fun n => call T C n 117 (a, ())) ((inR a 8 360, ()), ()) := Evt.next (Evt.bind (e85 a 8 360) (Evt.some _)) (fun n => r117 n a)
/- spec.l01Lift -/
theorem e108 (a : Int) : Evt (fun n => call T C n 108 (a, ())) ((inR a 0 10000, ()), ()) := Evt.next (Evt.bind (e85 a 0 10000) (Evt.some _)) (fun n => r108 n a)
/- spec.l01Ok -/
theorem e129 (l : List Int) (hl : (l.length : Int) ≤ 140737488351232) : Evt (fun n => call T C n 129 (l, ())) ((okC l, ()), ()) := by
  refine Evt.next ?_ (fun n => r129 n l)
  refine Evt.bind (e117 _) ?_
  refine Evt.ite (fun h => ?_) (fun h => ?_)
  · refine (Evt.some _).of_eq fun n => ?_
    have h : inR (l.length : Int) 8 360 = false := by simpa using h
    simp [okC, h]
    rfl
  · have h : inR (l.length : Int) 8 360 = true := by simpa using h
    have he : okC l = l.all okV := by simp [okC, h]
    rw [he]
    refine loop_evt (fun (x : List Int × Int × Unit) => x.1 = l ∧ 0 ≤ x.2.1 ∧ x.2.1 ≤ (l.length : Int) ∧ l.all okV = (l.drop x.2.1.toNat).all okV) (fun (x : List Int × Int × Unit) => ((l.length : Int) - x.2.1).toNat) (x := (l, 0, ())) ⟨rfl, Int.le_refl _, by simp, by simp⟩ ?_
    rintro ⟨x1, i, _⟩ ⟨h', h0, h1, h2⟩
    simp only at h' h0 h1 h2
    subst h'
    refine Round.ite (fun hlt => ?_) (fun hge => ?_)
    · have hlt : i < (x1.length : Int) := of_decide_eq_true hlt
      obtain ⟨v, hv, hv'⟩ := idx_at h0 hlt
      have hd := drop_cons hv'
      refine Round.at hv (Round.bind (e108 _) (Round.ite (fun hb => ?_) (fun hb => ?_)))
      · have hb : okV v = false := by simpa [okV] using hb
        have h3 : x1.all okV = false := by rw [h2, hd]; simp [hb]
        rw [h3]
        exact Round.done (Evt.some _)
      · have hb : okV v = true := by simpa [okV] using hb
        have hw : wr .i64 (i + 1) = i + 1 := wrap_id (by omega) (by omega)
        refine Round.again _ ⟨⟨rfl, ?_, ?_, ?_⟩, ?_⟩ <;> simp only [hw]
        · omega
        · omega
        · rw [h2, hd, show (i + 1).toNat = i.toNat + 1 by omega]
          simp [hb]
        · omega
    · have hge : ¬ i < (x1.length : Int) := by simpa using hge
      have : x1.drop i.toNat = [] := List.drop_of_length_le (by omega)
      rw [h2, this]
      exact Round.done (Evt.some _)
/- spec.l00Min -/
theorem e184 (a b : Int) : Evt (fun n => call T C n 184 (a, b, ())) ((min a b, ()), ()) := by
  refine Evt.next (Evt.ite (fun h => ?_) (fun h => ?_)) (fun n => r184 n a b)
  · have h : a < b := of_decide_eq_true h
    rw [show min a b = a by omega]; exact Evt.some _
  · have h : ¬ a < b := by simpa using h
    rw [show min a b = b by omega]; exact Evt.some _
/- spec.l00Max -/
theorem e98 (a b : Int) : Evt (fun n => call T C n 98 (a, b, ())) ((max a b, ()), ()) := by
  refine Evt.next (Evt.ite (fun h => ?_) (fun h => ?_)) (fun n => r98 n a b)
  · have h : a > b := of_decide_eq_true h
    rw [show max a b = a by omega]; exact Evt.some _
  · have h : ¬ a > b := by simpa using h
    rw [show max a b = b by omega]; exact Evt.some _
/- spec.l01Range -/
theorem e201 (l : List Int) (hr : Rng l) (h0 : 0 < (l.length : Int)) : Evt (fun n => call T C n 201 (l, ())) ((mnL l, mxL l, ()), ()) := by
  have hlen := hr.len'
  obtain ⟨v0, hv0⟩ := at_of (l := l) (Int.le_refl 0) h0
  refine Evt.next (Evt.at hv0.idx ?_) (fun n => r201 n l)
  rw [hr.id hv0.mem]
  have hh := (head_at hv0).1
  refine for_evt' 1 (l.length : Int) (fun i (_ : Unit) => (l, mnF (l.take i.toNat) v0, mxF (l.take i.toNat) v0, i, ())) (fun _ _ => True) (b0 := ()) (by
    have := (head_at hv0).2
    show _ = (l, mnF (l.take 1) v0, mxF (l.take 1) v0, 1, ())
    rw [this]; simp [mnF, mxF]) (by omega) trivial ?_ ?_
  · intro i _ h2 h3 _
    obtain ⟨v, hv⟩ := at_of (l := l) (show 0 ≤ i by omega) h3
    simp only [wrap_id (x := i + 1) (by omega) (by omega)]
    refine Round.yes (decide_eq_true h3) (Round.at hv.idx (Round.bind (e184 _ _) (Round.at hv.idx (Round.bind (e98 _ _) (Round.again _ ⟨(), ?_, trivial⟩)))))
    rw [hv.take, mnF_snoc, mxF_snoc, hr.id hv.mem]
  · intro _ _
    have e1 : mnF (l.take (l.length : Int).toNat) v0 = mnL l := by rw [take_all, mnL, hh]
    have e2 : mxF (l.take (l.length : Int).toNat) v0 = mxL l := by rw [take_all, mxL, hh]
    simp only [e1, e2]
    exact Round.no (by simp) (Round.done (Evt.some _))
/- spec.l07Moves -/
theorem e160 (l : List Int) (hr : Rng l) : Evt (fun n => call T C n 160 (l, ())) ((mv l, ()), ()) := by
  have hlen := hr.len'
  refine Evt.next (Evt.bind (e129 l (by omega)) ?_) (fun n => r160 n l)
  unfold mv
  cases hok : okC l with
  | false => exact Evt.yes rfl (Evt.some _)
  | true =>
    have := okC_len hok
    exact Evt.no (by simp) (Evt.bind (e201 l hr (by omega)) (Evt.some _))
/- spec.l07Ok -/
theorem e71 (m : Mch) (h : RngM m) : Evt (fun n => call T C n 71 (m, ())) ((okM m, ()), ()) := by
  have hp := h.p.len'
  refine Evt.next (Evt.bind (e160 m.1 h.x) ?_) (fun n => r71 n m)
  unfold okM
  cases mv m.1 with
  | false => exact Evt.no (by simp) (Evt.some _)
  | true =>
    refine Evt.yes rfl (Evt.bind (e160 m.2.1 h.y) ?_)
    cases mv m.2.1 with
    | false => exact Evt.no (by simp) (Evt.some _)
    | true =>
      refine Evt.yes rfl (Evt.bind (e129 m.2.2.1 (by omega)) ?_)
      cases okC m.2.2.1 with
      | false => exact Evt.no (by simp) (Evt.some _)
      | true =>
        refine Evt.yes rfl ?_
        cases ((m.1.length : Int) == (m.2.1.length : Int)) with
        | false => exact Evt.no (by simp) (Evt.some _)
        | true => exact Evt.yes rfl (Evt.some _)
/- spec.l07Stops -/
theorem e73 (m : Mch) (G : GoodM m) : Evt (fun n => call T C n 73 (m, ())) ((stopsM m, ()), ()) := by
  have lx := okC_len G.x
  have e1 := G.xy
  have e2 := G.xp
  refine Evt.next ?_ (fun n => r73 n m)
  refine for_evt' 0 (m.1.length : Int) (fun i (_ : Unit) => (m, (List.range i.toNat).map (stopM m), i, ())) (fun _ _ => True) (b0 := ()) rfl (by omega) trivial ?_ ?_
  · intro i _ h2 h3 _
    have hx := g_idx (l := m.1) h2 h3
    have hy := g_idx (l := m.2.1) h2 (by omega)
    have hp := g_idx (l := m.2.2.1) h2 (by omega)
    refine Round.yes (decide_eq_true h3) (Round.at hx.idx (Round.at hy.idx (Round.at (v := (0 : Int)) rfl (Round.at (v := (0 : Int)) rfl (Round.at hp.idx (Round.chk (decide_eq_true (by simp; omega)) (Round.again _ ⟨(), ?_, trivial⟩)))))))
    rw [wr_succ h2 h3 (by omega), show (i + 1).toNat = i.toNat + 1 by omega, List.range_succ, List.map_append]
    rfl
  · intro _ _
    exact Round.no (by simp) (Round.done (Evt.some _))
/- spec.l07Traced -/
theorem e72 (l : List Stp) (hl : 0 < l.length) (hb : l.length ≤ 1000) (h : ∀ s ∈ l, OnP s.1) : Evt (fun n => call T C n 72 (l, ())) ((trR l, ()), ()) := by
  refine Evt.next ?_ (fun n => r72 n l)
  refine for_evt' 0 (l.length : Int) (fun i (_ : Unit) => (l, (trL (l.take i.toNat)).1, (trL (l.take i.toNat)).2, i, ())) (fun _ _ => True) (b0 := ()) rfl (by omega) trivial ?_ ?_
  · intro i _ h2 h3 _
    obtain ⟨s, hs⟩ := at_of h2 h3
    have hk := trOk_take l h i.toNat (by omega)
    have hkl := hk.len
    have hkn := hk.now.1
    obtain ⟨p, hp⟩ : ∃ p, trL (l.take i.toNat) = p := ⟨_, rfl⟩
    have hstep : trL (l.take (i + 1).toNat) = trS p s := by rw [hs.take, trL_snoc, hp]
    rw [hp] at hkl hkn
    simp only [hp]
    have again : ∀ o w, (o, w) = trS p s → ∃ b' : Unit, ((l, o, w, wr .i64 (i + 1), ()) : List Stp × List Stk × Stk × Int × Unit) = (l, (trL (l.take (i + 1).toNat)).1, (trL (l.take (i + 1).toNat)).2, i + 1, ()) ∧ True := fun o w e => ⟨(), by rw [wr_succ h2 h3 (by omega), hstep, ← e], trivial⟩
    refine Round.yes (decide_eq_true h3) (Round.at hs.idx ?_)
    refine Round.ite (fun c => ?_) (fun c => ?_)
    · have c : s.2.1 = false := by simpa using c
      refine Round.ite (fun c2 => ?_) (fun c2 => ?_)
      · have c2 : p.2 ≠ [] := fun e => by simp [e] at c2
        rw [if_neg c2] at hkl
        exact Round.chk (decide_eq_true (by simp; omega)) (Round.again _ (again _ _ (by simp [trS, c, c2])))
      · have c2 : p.2 = [] := by simpa using c2
        exact Round.again _ (again _ _ (by simp [trS, c, c2]))
    · have c : s.2.1 = true := by simpa using c
      refine Round.ite (fun c2 => ?_) (fun c2 => ?_)
      · have c2 : p.2.length = 60 := by have e : (p.2.length : Int) = 60 := (by simpa using c2); omega
        have hne : p.2 ≠ [] := fun e => by rw [e] at c2; simp at c2
        rw [if_neg hne] at hkl
        have hlast : idx p.2 (wr .i64 ((p.2.length : Int) - 1)) = some (lastM p.2) := by
          rw [c2]
          unfold idx lastM
          rw [show wr .i64 (((60 : Nat) : Int) - 1) = 59 by rfl, if_pos (by omega), List.getLastD_eq_getLast?, List.getLast?_eq_getElem?, c2]
          rw [show ((59 : Int)).toNat = 60 - 1 by rfl, List.getElem?_eq_getElem (by omega)]
          rfl
        exact Round.chk (decide_eq_true (by simp; omega)) (Round.at hlast (Round.at hs.idx (Round.chk (by simp) (Round.again _ (again _ _ (by simp [trS, c, c2]))))))
      · have c2 : p.2.length ≠ 60 := fun e => by simp [e] at c2
        exact Round.at hs.idx (Round.chk (decide_eq_true (by simp; omega)) (Round.again _ (again _ _ (by simp [trS, c, c2]))))
  · intro _ _
    simp only [take_all]
    have hk := trOk_take l h l.length (Nat.le_refl _)
    rw [List.take_length] at hk
    have hkl := hk.len
    have hkn := hk.now.1
    obtain ⟨p, hp⟩ : ∃ p, trL l = p := ⟨_, rfl⟩
    rw [hp] at hkl hkn
    have h0 : idx l 0 = some (l.headD ([], false, ())) := by
      cases l with
      | nil => simp at hl
      | cons a r => rfl
    have hR := trR_eq l
    rw [hp] at hR
    simp only [hp, hR]
    clear hR
    generalize l.headD ([], false, ()) = hd at h0 ⊢
    refine Round.no (by simp) (Round.ite (fun c => ?_) (fun c => ?_))
    · have c : p.2 ≠ [] := fun e => by simp [e] at c
      rw [if_neg c] at hkl ⊢
      refine Round.at h0 (Round.ite (fun c2 => ?_) (fun c2 => ?_))
      · rw [if_pos c2]
        refine Round.ite (fun c3 => ?_) (fun c3 => ?_)
        · have c3 : p.2.length = 60 := by have e : (p.2.length : Int) = 60 := (by simpa using c3); omega
          have hlast : idx p.2 (wr .i64 ((p.2.length : Int) - 1)) = some (lastM p.2) := by
            rw [c3]
            unfold idx lastM
            rw [show wr .i64 (((60 : Nat) : Int) - 1) = 59 by rfl, if_pos (by omega), List.getLastD_eq_getLast?, List.getLast?_eq_getElem?, c3]
            rw [show ((59 : Int)).toNat = 60 - 1 by rfl, List.getElem?_eq_getElem (by omega)]
            rfl
          refine Round.chk (decide_eq_true (by simp; omega)) (Round.at hlast (Round.at h0 (Round.chk (by simp) (Round.chk (decide_eq_true (by simp; omega)) (Round.done ((Evt.some _).of_eq fun n => ?_))))))
          simp [trS, c2, c3, shutT]
          try rfl
        · have c3 : p.2.length ≠ 60 := fun e => by simp [e] at c3
          refine Round.at h0 (Round.chk (decide_eq_true (by simp; omega)) (Round.chk (decide_eq_true (by simp; omega)) (Round.done ((Evt.some _).of_eq fun n => ?_))))
          simp [trS, c2, c3, shutT]
          try rfl
      · rw [if_neg c2]
        exact Round.chk (decide_eq_true (by simp; omega)) (Round.done (Evt.some _))
    · have c : p.2 = [] := by simpa using c
      rw [if_pos c]
      exact Round.done (Evt.some _)
/- spec.StrokesOf -/
theorem e10 (m : Mch) (hr : RngM m) : Evt (fun n => call T C n 10 (m, ())) (soR m, ()) := by
  refine Evt.next (Evt.bind (e71 m hr) ?_) (fun n => r10 n m)
  unfold soR
  cases hM : okM m with
  | false => exact Evt.yes rfl (Evt.some _)
  | true =>
    have G := goodM hM
    have lx := okC_len G.x
    have hl : (stopsM m).length = m.1.length := by simp [stopsM]
    have hon : ∀ s ∈ stopsM m, OnP s.1 := by
      intro s hs
      simp only [stopsM, List.mem_map, List.mem_range] at hs
      obtain ⟨i, hi, rfl⟩ := hs
      exact stop_on hr G hi
    refine Evt.no (by simp) (Evt.bind (e73 m G) (Evt.bind (e72 (stopsM m) (by omega) (by omega) hon) ?_))
    refine Evt.ite (fun c => ?_) (fun c => ?_)
    · rw [if_pos rfl, if_pos (of_decide_eq_true c)]; exact Evt.some _
    · rw [if_pos rfl, if_neg (by simpa using c)]; exact Evt.some _
/- (impl.Cam).steps -/
theorem e132 (a : List Int) : Evt (fun n => call T C n 132 (a, ())) (((a.length : Int), ()), ()) := Evt.next (Evt.some _) (fun n => r132 n a)
/- impl.inRange -/
theorem e91 (a b c : Int) : Evt (fun n => call T C n 91 (a, b, c, ())) ((inR a b c, ()), ()) := by
  refine Evt.next ?_ (fun n => r91 n a b c)
  refine Evt.ite (fun h => ?_) (fun h => ?_)
  · refine (Evt.some _).of_eq fun n => ?_
    have h : b ≤ a := of_decide_eq_true h
    simp [inR, h]
    rfl
  · refine (Evt.some _).of_eq fun n => ?_
    have h : ¬ b ≤ a := by simpa using h
    simp [inR, h]
    rfl
/- impl.isSteps -/
theorem e115 (a : Int) : Evt (fun n => call T C n 115 (a, ())) ((inR a 8 360, ()), ()) := Evt.next (Evt.bind (e91 a 8 360) (Evt.some _)) (fun n => r115 n a)
/- impl.isLift -/
theorem e114 (a : Int) : Evt (fun n => call T C n 114 (a, ())) ((inR a 0 10000, ()), ()) := Evt.next (Evt.bind (e91 a 0 10000) (Evt.some _)) (fun n => r114 n a)
/- impl.ValidCam$1 -/
theorem e187 (v : Int) : Evt (fun n => call T C n 187 (v, ())) ((!okV v, ()), ()) := Evt.next (Evt.bind (e114 _) (Evt.some _)) (fun n => r187 n v)
/- slices.IndexFunc[impl.Cam,int16]{impl.ValidCam$1} -/
theorem e209 (l : List Int) (hl : (l.length : Int) ≤ 140737488351232) : Evt (fun n => call T C n 209 (l, ((), ()), ())) ((fi (fun v => !okV v) l 0, ()), ()) := by
  refine Evt.next ?_ (fun n => r209 n l ((), ()))
  refine loop_evt (fun (x : List Int × (Unit × Unit) × Int × Int × Unit) => x.1 = l ∧ x.2.2.1 = (l.length : Int) ∧ 0 ≤ x.2.2.2.1 ∧ x.2.2.2.1 ≤ (l.length : Int) ∧ fi (fun v => !okV v) l 0 = fi (fun v => !okV v) (l.drop x.2.2.2.1.toNat) x.2.2.2.1) (fun (x : List Int × (Unit × Unit) × Int × Int × Unit) => ((l.length : Int) - x.2.2.2.1).toNat) (x := (l, ((), ()), (l.length : Int), 0, ())) ⟨rfl, rfl, Int.le_refl _, by simp, by simp⟩ ?_
  rintro ⟨x1, u, m, i, _⟩ ⟨h', hm, h0, h1, h2⟩
  simp only at h' hm h0 h1 h2
  subst h'; subst hm
  refine Round.ite (fun hlt => ?_) (fun hge => ?_)
  · have hlt : i < (x1.length : Int) := of_decide_eq_true hlt
    obtain ⟨v, hv, hv'⟩ := idx_at h0 hlt
    have hd := drop_cons hv'
    refine Round.at hv (Round.bind (e187 _) (Round.ite (fun hb => ?_) (fun hb => ?_)))
    · have hb : okV v = false := by simpa using hb
      have h3 : fi (fun v => !okV v) x1 0 = i := by rw [h2, hd]; simp [fi, hb]
      rw [h3]
      exact Round.done (Evt.some _)
    · have hb : okV v = true := by simpa using hb
      have hw : wr .i64 (i + 1) = i + 1 := wrap_id (by omega) (by omega)
      refine Round.again _ ⟨⟨rfl, rfl, ?_, ?_, ?_⟩, ?_⟩ <;> simp only [hw]
      · omega
      · omega
      · rw [h2, hd, show (i + 1).toNat = i.toNat + 1 by omega]
        simp [fi, hb]
      · omega
  · have hge : ¬ i < (x1.length : Int) := by simpa using hge
    have : x1.drop i.toNat = [] := List.drop_of_length_le (by omega)
    rw [h2, this]
    exact Round.done (Evt.some _)
/- slices.ContainsFunc[impl.Cam,int16]{impl.ValidCam$1} -/
theorem e186 (l : List Int) (hl : (l.length : Int) ≤ 140737488351232) : Evt (fun n => call T C n 186 (l, ((), ()), ())) ((l.any (fun v => !okV v), ()), ()) := by
  refine Evt.next (Evt.bind (e209 l hl) ((Evt.some _).of_eq fun n => ?_)) (fun n => r186 n l ((), ()))
  simp only [fi_any _ l 0 (Int.le_refl _)]
  rfl
/- impl.ValidCam -/
theorem e125 (l : List Int) (hl : (l.length : Int) ≤ 140737488351232) : Evt (fun n => call T C n 125 (l, ())) ((okC l, ()), ()) := by
  refine Evt.next (Evt.bind (e132 l) (Evt.bind (e115 _) ?_)) (fun n => r125 n l)
  refine Evt.ite (fun h => ?_) (fun h => ?_)
  · refine Evt.bind (e186 l hl) ((Evt.some _).of_eq fun n => ?_)
    have h : inR (l.length : Int) 8 360 = true := h
    have : okC l = !l.any (fun v => !okV v) := by simp [okC, h, List.any_eq_not_all_not]
    rw [this]
    rfl
  · refine (Evt.some _).of_eq fun n => ?_
    have h : inR (l.length : Int) 8 360 = false := by simpa using h
    simp [okC, h]
    rfl
/- slices.Max[impl.Cam,int16] -/
theorem e161 (l : List Int) (hr : Rng l) (h0 : 0 < (l.length : Int)) : Evt (fun n => call T C n 161 (l, ())) ((mxL l, ()), ()) := by
  have hlen := hr.len'
  obtain ⟨v0, hv0⟩ := at_of (l := l) (Int.le_refl 0) h0
  refine Evt.next (Evt.no (by simp; omega) (Evt.at hv0.idx ?_)) (fun n => r161 n l)
  have hh := (head_at hv0).1
  refine for_evt' 1 (l.length : Int) (fun i (_ : Unit) => (l, mxF (l.take i.toNat) v0, i, ())) (fun _ _ => True) (b0 := ()) (by
    have := (head_at hv0).2
    show _ = (l, mxF (l.take 1) v0, 1, ())
    rw [this]; simp [mxF]) (by omega) trivial ?_ ?_
  · intro i _ h2 h3 _
    obtain ⟨v, hv⟩ := at_of (l := l) (show 0 ≤ i by omega) h3
    simp only [wrap_id (x := i + 1) (by omega) (by omega)]
    refine Round.yes (decide_eq_true h3) (Round.at hv.idx (Round.again _ ⟨(), ?_, trivial⟩))
    rw [hv.take, mxF_snoc]
    congr 2
    split <;> omega
  · intro _ _
    have e2 : mxF (l.take (l.length : Int).toNat) v0 = mxL l := by rw [take_all, mxL, hh]
    simp only [e2]
    exact Round.no (by simp) (Round.done (Evt.some _))
/- impl.ValidMachine -/
theorem e75 (m : Mch) (h : RngM m) : Evt (fun n => call T C n 75 (m, ())) ((okM m, ()), ()) := by
  have hx := h.x.len'
  have hy := h.y.len'
  have hp := h.p.len'
  refine Evt.next (Evt.at (x := ([] : List Int)) rfl (Evt.at (x := ([] : List Int)) rfl ?_)) (fun n => r75 n m)
  show Evt (fun n => loopK _ n (m, [m.1, m.2.1], 0, ())) _
  have one : ∀ (c : List Int) (hr : Rng c) (i : Int) (rest : Bool), i = 0 ∨ i = 1 → idx [m.1, m.2.1] i = some c → okM m = (mv c && ((c.length : Int) == (m.2.2.1.length : Int)) && rest) → ∀ {P : (Mch × List (List Int) × Int × Unit) → Prop}, (mv c = true → c.length = m.2.2.1.length → P (m, [m.1, m.2.1], wr .i64 (i + 1), ())) →
      Round (σ := Mch × List (List Int) × Int × Unit) (fun n ag => (idx [m.1, m.2.1] i).bind fun v6 => (call T C n 125 (v6, ())).bind fun r7 => if (!r7.1.1) = true then some ((false, ()), ()) else if (bif false then true else ((v6.length : Int) != (m.2.2.1.length : Int))) = true then some ((false, ()), ()) else (call T C n 161 (v6, ())).bind fun r8 => if (bif false then true else decide (r8.1.1 ≥ 64)) = true then some ((false, ()), ()) else ag (m, [m.1, m.2.1], wr .i64 (i + 1), ())) ((okM m, ()), ()) P := by
    intro c hr i rest _ hi he P hP
    have hc := hr.len'
    refine Round.at hi (Round.bind (e125 c (by omega)) ?_)
    cases hok : okC c with
    | false =>
      have : okM m = false := by rw [he]; simp [mv, hok]
      rw [this]
      exact Round.yes rfl (Round.done (Evt.some _))
    | true =>
      have hl := okC_len hok
      refine Round.no (by simp) (Round.ite (fun hb => ?_) (fun hb => ?_))
      · have hb : ¬ (c.length : Int) = m.2.2.1.length := by simpa using hb
        have : okM m = false := by
          rw [he]
          have : ((c.length : Int) == (m.2.2.1.length : Int)) = false := by simpa using hb
          simp [this]
        rw [this]
        exact Round.done (Evt.some _)
      · have hb : c.length = m.2.2.1.length := by
          have : (c.length : Int) = m.2.2.1.length := by simpa using hb
          omega
        refine Round.bind (e161 c hr (by omega)) (Round.ite (fun hg => ?_) (fun hg => ?_))
        · have hg : mxL c ≥ 64 := of_decide_eq_true hg
          have : okM m = false := by
            rw [he]
            have : mv c = false := by simp [mv]; intro; omega
            simp [this]
          rw [this]
          exact Round.done (Evt.some _)
        · have hg : ¬ mxL c ≥ 64 := by simpa using hg
          exact Round.again _ (hP (by simp [mv, hok]; omega) hb)
  refine for_evt' 0 2 (fun i (_ : Unit) => (m, [m.1, m.2.1], i, ())) (fun i _ => (0 < i → mv m.1 = true ∧ m.1.length = m.2.2.1.length) ∧ (1 < i → mv m.2.1 = true ∧ m.2.1.length = m.2.2.1.length)) (b0 := ()) rfl (by omega) ⟨by omega, by omega⟩ ?_ ?_
  · intro i _ h2 h3 ⟨p1, p2⟩
    refine Round.yes (decide_eq_true h3) ?_
    have hi : i = 0 ∨ i = 1 := by omega
    rcases hi with rfl | rfl
    · refine one m.1 h.x 0 (mv m.2.1 && okC m.2.2.1 && ((m.1.length : Int) == (m.2.1.length : Int))) (.inl rfl) rfl ?_ (fun q1 q2 => ⟨(), rfl, fun _ => ⟨q1, q2⟩, by omega⟩)
      unfold okM
      cases mv m.1 <;> cases mv m.2.1 <;> cases okC m.2.2.1 <;> cases ((m.1.length : Int) == (m.2.1.length : Int)) <;> cases ((m.1.length : Int) == (m.2.2.1.length : Int)) <;> rfl
    · obtain ⟨p3, p4⟩ := p1 (by omega)
      refine one m.2.1 h.y 1 (okC m.2.2.1) (.inr rfl) rfl ?_ (fun q1 q2 => ⟨(), rfl, fun _ => ⟨p3, p4⟩, fun _ => ⟨q1, q2⟩⟩)
      unfold okM
      rw [p3, p4]
      have : ((m.2.2.1.length : Int) == (m.2.1.length : Int)) = ((m.2.1.length : Int) == (m.2.2.1.length : Int)) := BEq.comm
      rw [this]
      cases mv m.2.1 <;> cases okC m.2.2.1 <;> cases ((m.2.1.length : Int) == (m.2.2.1.length : Int)) <;> simp
  · intro _ ⟨p1, p2⟩
    obtain ⟨q1, q2⟩ := p1 (by omega)
    obtain ⟨q3, q4⟩ := p2 (by omega)
    have : okM m = okC m.2.2.1 := by
      unfold okM
      rw [q1, q3, q2, q4]
      simp
    rw [this]
    exact Round.no (by simp) (Round.done (Evt.bind (e125 m.2.2.1 (by omega)) (Evt.some _)))
/- (impl.Machine).steps -/
theorem e162 (m : Mch) : Evt (fun n => call T C n 162 (m, ())) (((m.1.length : Int), ()), ()) := Evt.next (Evt.bind (e132 m.1) (Evt.some _)) (fun n => r162 n m)
/- impl.floorDiv -/
theorem e210 {a b : Int} (hb : 0 < b) (h1 : -4500000000000000000 ≤ a) (h2 : a ≤ 4500000000000000000) : Evt (fun n => call T C n 210 (a, b, ())) ((a / b, ()), ()) := by
  have hbd := ediv_bd hb h1 h2 (by omega)
  have he := floorDiv_eq (a := a) hb
  refine Evt.next (Evt.chk (bne_pos hb) (Evt.chk (bne_pos hb) (Evt.ite (fun h => ?_) (fun h => ?_)))) (fun n => r210 n a b)
  · have h : Int.tmod a b < 0 := of_decide_eq_true h
    rw [if_pos h] at he
    refine (Evt.some _).of_eq fun n => ?_
    rw [wrap_id (x := Int.tdiv a b) (by omega) (by omega), wrap_id (by omega) (by omega), he]
    rfl
  · have h : ¬ Int.tmod a b < 0 := by simpa using h
    rw [if_neg h] at he
    refine (Evt.some _).of_eq fun n => ?_
    rw [wrap_id (x := Int.tdiv a b) (by omega) (by omega), he]
    rfl
/- impl.mod -/
theorem e188 {a b : Int} (hb : 0 < b) (hb' : b ≤ 1000000000000) (h1 : -1000000000000 ≤ a) (h2 : a ≤ 1000000000000) : Evt (fun n => call T C n 188 (a, b, ())) ((a % b, ()), ()) := by
  have hd := Int.emod_def a b
  have h3 := Int.emod_nonneg a (show b ≠ 0 by omega)
  have h4 := Int.emod_lt_of_pos a hb
  refine Evt.next (Evt.bind (e210 hb (by omega) (by omega)) ((Evt.some _).of_eq fun n => ?_)) (fun n => r188 n a b)
  simp only
  rw [wrap_id (x := b * (a / b)) (by omega) (by omega), ← hd, wrap_id (by omega) (by omega)]
  rfl
/- (impl.Cam).at -/
theorem e134 {l : List Int} (hr : Rng l) (h0 : 0 < (l.length : Int)) (h1 : (l.length : Int) ≤ 1000000) {x : Int} (hx : -4000000 ≤ x) (hx' : x ≤ 4000000) : Evt (fun n => call T C n 134 (l, x, ())) ((cAt l x, ()), ()) := by
  have hp := Int.emod_nonneg x (show (l.length : Int) ≠ 0 by omega)
  have hq := Int.emod_lt_of_pos x h0
  have hv := g_idx (l := l) hp hq
  refine Evt.next (Evt.bind (e132 l) (Evt.bind (e188 (a := x) h0 (by omega) (by omega) (by omega)) (Evt.at hv.idx ((Evt.some _).of_eq fun n => ?_)))) (fun n => r134 n l x)
  rw [hr.id hv.mem]
  rfl
/- (impl.Machine).stop -/
theorem e163 (m : Mch) (hr : RngM m) (G : GoodM m) {i : Nat} (h : i < m.1.length) : Evt (fun n => call T C n 163 (m, (i : Int), ())) ((stopM m i, ()), ()) := by
  have lx := okC_len G.x
  have e1 := G.xy
  have e2 := G.xp
  have at_ : ∀ l : List Int, l.length = m.1.length → cAt l (i : Int) = g l i := fun l hl => by
    unfold cAt
    rw [Int.emod_eq_of_lt (by omega) (by omega), Int.toNat_natCast]
  have x1 := hr.x.el _ (g_mem h)
  have y1 := hr.y.el _ (g_mem (i := i) (by omega))
  have p1 := okC_el G.p hr.p _ (g_mem (i := i) (by omega))
  refine Evt.next ?_ (fun n => r163 n m (i : Int))
  refine Evt.bind (e134 hr.x (by omega) (by omega) (by omega) (by omega)) (Evt.bind (e134 hr.y (by omega) (by omega) (by omega) (by omega)) (Evt.at (x := (0 : Int)) rfl (Evt.at (x := (0 : Int)) rfl (Evt.bind (e134 hr.p (by omega) (by omega) (by omega) (by omega)) ((Evt.some _).of_eq fun n => ?_)))))
  rw [at_ _ rfl, at_ _ (by omega), at_ _ (by omega), wrap16 x1.1 x1.2, wrap16 y1.1 y1.2]
  rfl
/- (impl.Machine).stops -/
theorem e76 (m : Mch) (hr : RngM m) (G : GoodM m) : Evt (fun n => call T C n 76 (m, ())) ((stopsM m, ()), ()) := by
  have lx := okC_len G.x
  refine Evt.next (Evt.bind (e162 m) ?_) (fun n => r76 n m)
  refine for_evt' 0 (m.1.length : Int) (fun i (_ : Unit) => (m, (List.range i.toNat).map (stopM m), (m.1.length : Int), i, ())) (fun _ _ => True) (b0 := ()) rfl (by omega) trivial ?_ ?_
  · intro i _ h2 h3 _
    obtain ⟨k, rfl⟩ : ∃ k : Nat, i = k := ⟨i.toNat, by omega⟩
    refine Round.yes (decide_eq_true h3) (Round.bind (e163 m hr G (i := k) (by omega)) (Round.chk (decide_eq_true (by simp; omega)) (Round.again _ ⟨(), ?_, trivial⟩)))
    rw [wr_succ h2 h3 (by omega), show ((k : Int) + 1).toNat = k + 1 by omega, List.range_succ, List.map_append]
    rfl
  · intro _ _
    exact Round.no (by simp) (Round.done (Evt.some _))
/- impl.extend -/
theorem e77 (K : List Stk) (m : Mk) (hK : K ≠ []) (hl : K.length ≤ 2000) (hn : ∀ s ∈ K, s.length ≤ 60) : Evt (fun n => call T C n 77 (K, m, ())) ((extT K m, ()), ()) := by
  refine Evt.next ?_ (fun n => r77 n K m)
  have hpos : 0 < K.length := List.length_pos_iff.2 hK
  rw [wrap_id (x := (K.length : Int) - 1) (by omega) (by omega), show ((K.length : Int) - 1).toNat = K.length - 1 by omega]
  obtain ⟨v, hv⟩ : ∃ v, v = K.getLastD [] := ⟨_, rfl⟩
  have hg : K[K.length - 1]? = some v := by
    rw [hv, List.getLastD_eq_getLast?, List.getLast?_eq_getElem?, List.getElem?_eq_getElem (by omega)]; rfl
  have hset : K.set (K.length - 1) v = K := by
    refine List.ext_getElem? fun j => ?_
    rw [List.getElem?_set]
    split
    · rename_i e
      subst e
      rw [if_pos (by omega), hg]
    · rfl
  have hvl := hn v (List.mem_of_getElem? hg)
  have hg2 : (K.set (K.length - 1) v)[K.length - 1]? = some v := by rw [hset]; exact hg
  unfold extT
  rw [← hv]
  refine Evt.chk (decide_eq_true (by omega)) (Evt.at hg ?_)
  refine Evt.ite (fun c => ?_) (fun c => ?_)
  · have c : v.length = 60 := by have e : (v.length : Int) = 60 := (by simpa using c); omega
    have hlast : v[(wr .i64 ((v.length : Int) - 1)).toNat]? = some (lastM v) := by
      rw [c]
      unfold lastM
      rw [show wr .i64 (((60 : Nat) : Int) - 1) = 59 by rfl, List.getLastD_eq_getLast?, List.getLast?_eq_getElem?, c]
      rw [show ((59 : Int)).toNat = 60 - 1 by rfl, List.getElem?_eq_getElem (by omega)]
      rfl
    rw [if_pos c]
    exact Evt.chk (decide_eq_true (by omega)) (Evt.at hg (Evt.at hg2 (Evt.chk (by rw [c]; rfl) (Evt.at hlast (Evt.at hg2 (Evt.chk (decide_eq_true (by simp; omega)) ((Evt.some _).of_eq fun n => by rw [hset, hset]; rfl)))))))
  · have c : v.length ≠ 60 := fun e => by simp [e] at c
    rw [if_neg c]
    exact Evt.chk (decide_eq_true (by omega)) (Evt.at hg (Evt.at hg2 (Evt.chk (decide_eq_true (by simp; omega)) (Evt.chk (decide_eq_true (by rw [hset]; omega)) (Evt.chk (decide_eq_true rfl) (Evt.at hg2 ((Evt.some _).of_eq fun n => by rw [hset]; rfl)))))))
/- impl.StrokesOf -/
theorem e12 (m : Mch) (hr : RngM m) : Evt (fun n => call T C n 12 (m, ())) (soR m, ()) := by
  refine Evt.next (Evt.bind (e75 m hr) ?_) (fun n => r12 n m)
  unfold soR
  cases hM : okM m with
  | false => exact Evt.yes rfl (Evt.some _)
  | true =>
    have G := goodM hM
    have lx := okC_len G.x
    have hl : (stopsM m).length = m.1.length := by simp [stopsM]
    have hon : ∀ s ∈ stopsM m, OnP s.1 := by
      intro s hs
      simp only [stopsM, List.mem_map, List.mem_range] at hs
      obtain ⟨i, hi, rfl⟩ := hs
      exact stop_on hr G hi
    refine Evt.no (by simp) (Evt.bind (e76 m hr G) ?_)
    obtain ⟨l, hL⟩ : ∃ l, l = stopsM m := ⟨_, rfl⟩
    rw [← hL] at hl hon ⊢
    rw [if_pos rfl]
    have hne : ∀ i, trL (l.take (i + 1)) = trS (trL (l.take i)) (l.getD i ([], false, ())) ∨ l.length ≤ i := fun i => by
      by_cases h : i < l.length
      · left
        rw [List.take_succ_eq_append_getElem h, trL_snoc, List.getD_eq_getElem?_getD, List.getElem?_eq_getElem h]; rfl
      · right; omega
    refine for_evt' 0 (l.length : Int) (fun i (_ : Unit) => (l, shutT (trL (l.take i.toNat)), l, (l.length : Int), i, ())) (fun _ _ => True) (b0 := ()) rfl (by omega) trivial ?_ ?_
    · intro i _ h2 h3 _
      obtain ⟨s, hs⟩ := at_of h2 h3
      have hk := trOk_take l hon i.toNat (by omega)
      have hkl := hk.shut
      obtain ⟨p, hp⟩ : ∃ p, trL (l.take i.toNat) = p := ⟨_, rfl⟩
      have hstep : trL (l.take (i + 1).toNat) = trS p s := by rw [hs.take, trL_snoc, hp]
      rw [hp] at hkl
      simp only [hp]
      have again : ∀ o, o = shutT (trS p s) → ∃ b' : Unit, ((l, o, l, (l.length : Int), wr .i64 (i + 1), ()) : List Stp × List Stk × List Stp × Int × Int × Unit) = (l, shutT (trL (l.take (i + 1).toNat)), l, (l.length : Int), i + 1, ()) ∧ True := fun o e => ⟨(), by rw [wr_succ h2 h3 (by omega), hstep, ← e], trivial⟩
      have push : ∀ (hc : s.2.1 = true) (hp0 : p.2 = []), ∃ b' : Unit, ((l, shutT p ++ [[s.1]], l, (l.length : Int), wr .i64 (i + 1), ()) : List Stp × List Stk × List Stp × Int × Int × Unit) = (l, shutT (trL (l.take (i + 1).toNat)), l, (l.length : Int), i + 1, ()) ∧ True := fun hc hp0 => again _ (shut_new hc hp0).symm
      refine Round.yes (decide_eq_true h3) (Round.at hs.idx ?_)
      refine Round.ite (fun c => ?_) (fun c => ?_)
      · have c : s.2.1 = false := by simpa using c
        exact Round.again _ (again _ (shut_up p c).symm)
      have c : s.2.1 = true := by simpa using c
      refine Round.ite (fun c2 => ?_) (fun c2 => ?_)
      · have c2 : i = 0 := by simpa using c2
        have hp0 : p.2 = [] := by rw [← hp, c2]; rfl
        exact Round.chk (decide_eq_true (by simp; omega)) (Round.again _ (push c hp0))
      have c2 : i ≠ 0 := fun e => by simp [e] at c2
      obtain ⟨k, rfl⟩ : ∃ k : Nat, i = ((k + 1 : Nat) : Int) := ⟨(i - 1).toNat, by omega⟩
      obtain ⟨q, hq⟩ := at_of (l := l) (i := (k : Int)) (by omega) (by omega)
      have hpq : p = trS (trL (l.take k)) q := by
        rw [← hp, Int.toNat_natCast]
        have := hq.take
        rw [show ((k : Int) + 1).toNat = k + 1 by omega, Int.toNat_natCast] at this
        rw [this, trL_snoc]
      have hnil := trS_nil (trL (l.take k)) q
      rw [← hpq] at hnil
      have hw : wr .i64 (((k + 1 : Nat) : Int) - 1) = (k : Int) := by rw [wrap_id (by omega) (by omega)]; omega
      rw [hw]
      refine Round.at hq.idx (Round.ite (fun c3 => ?_) (fun c3 => ?_))
      · have c3 : q.2.1 = false := by simpa using c3
        exact Round.chk (decide_eq_true (by simp; omega)) (Round.again _ (push c (hnil.2 c3)))
      · have c3 : p.2 ≠ [] := fun e => by simp [hnil.1 e] at c3
        refine Round.bind (e77 (shutT p) s.1 (by simp [shutT, c3]) (by omega) (fun t ht => (hkl.2 t ht).1)) (Round.again _ (again _ (shut_ext c c3).symm))
    · intro _ _
      simp only [take_all]
      have hk := trOk_take l hon l.length (Nat.le_refl _)
      rw [List.take_length] at hk
      have hkl := hk.shut
      have h0 : idx l 0 = some (l.headD ([], false, ())) := by
        cases l with
        | nil => simp at hl; omega
        | cons a r => rfl
      obtain ⟨q, hq⟩ := at_of (l := l) (i := ((l.length - 1 : Nat) : Int)) (by omega) (by omega)
      have hpq : trL l = trS (trL (l.take (l.length - 1))) q := by
        have := hq.take
        rw [show (((l.length - 1 : Nat) : Int) + 1).toNat = l.length by omega, Int.toNat_natCast, List.take_length] at this
        conv => lhs; rw [this]
        rw [trL_snoc]
      have hnil := trS_nil (trL (l.take (l.length - 1))) q
      rw [← hpq] at hnil
      have hw : wr .i64 ((l.length : Int) - 1) = ((l.length - 1 : Nat) : Int) := by rw [wrap_id (by omega) (by omega)]; omega
      rw [hw]
      have fin : ∀ (K : List Stk), K = trR l → Evt (fun n => if decide ((K.length : Int) > 20) = true then some ((([] : List Stk), (3 : Int), ()), ()) else some ((K, (0 : Int), ()), ())) ((if ((trR l).length : Int) > 20 then (([] : List Stk), (3 : Int), ()) else (trR l, (0 : Int), ())), ()) := fun K e => by
        rw [e]
        refine Evt.ite (fun c => ?_) (fun c => ?_)
        · rw [if_pos (of_decide_eq_true c)]; exact Evt.some _
        · rw [if_neg (by simpa using c)]; exact Evt.some _
      refine Round.no (by simp) (Round.at h0 (Round.ite (fun c => ?_) (fun c => ?_)))
      · refine Round.at hq.idx (Round.ite (fun c2 => ?_) (fun c2 => ?_))
        · have c2 : (trL l).2 ≠ [] := fun e => by simp [hnil.1 e] at c2
          refine Round.at h0 (Round.bind (e77 (shutT (trL l)) (l.headD ([], false, ())).1 (by simp [shutT, c2]) (by omega) (fun t ht => (hkl.2 t ht).1)) (Round.done (fin _ ?_)))
          unfold trR; rw [if_pos ⟨c2, c⟩]
        · have c2 : q.2.1 = false := by simpa using c2
          refine Round.done (fin _ ?_)
          unfold trR; rw [if_neg (fun e => e.1 (hnil.2 c2))]
      · refine Round.done (fin _ ?_)
        unfold trR; rw [if_neg (fun e => c e.2)]
/- laws.eqMark -/
theorem e164 (m : Mk) (h : m.length = 2) : Evt (fun n => call T C n 164 (m, m, ())) ((true, ()), ()) := by
  refine Evt.next ?_ (fun n => r164 n m m)
  refine for_evt' 0 2 (fun i (_ : Unit) => (m, m, i, ())) (fun _ _ => True) (b0 := ()) rfl (by omega) trivial ?_ ?_
  · intro i _ h2 h3 _
    have hg := g_idx (l := m) h2 (by omega)
    refine Round.yes (decide_eq_true h3) (Round.chk (decide_eq_true (show 0 ≤ i ∧ i < ((2 : Nat) : Int) by omega)) (Round.at hg.get (Round.chk (decide_eq_true (show 0 ≤ i ∧ i < ((2 : Nat) : Int) by omega)) (Round.at hg.get (Round.no (by simp) (Round.again _ ⟨(), ?_, trivial⟩))))))
    rw [wr_succ h2 h3 (by omega)]
  · intro _ _
    exact Round.no (by simp) (Round.done (Evt.some _))
/- laws.eqStroke -/
theorem e78 (l : Stk) (hl : (l.length : Int) ≤ 140737488351232) (he : ∀ v ∈ l, v.length = 2) : Evt (fun n => call T C n 78 (l, l, ())) ((true, ()), ()) := by
  refine Evt.next (Evt.no (by simp) ?_) (fun n => r78 n l l)
  refine for_evt 0 (l.length : Int) (fun i (_ : Unit) => (l, l, i, ())) (fun _ _ => True) (b0 := ()) (by omega) trivial ?_ ?_
  · intro i _ h2 h3 _
    obtain ⟨v, hv⟩ := at_of h2 h3
    refine Round.yes (decide_eq_true h3) (Round.at hv.idx (Round.at hv.idx (Round.bind (e164 v (he v hv.mem)) (Round.no (by simp) (Round.again _ ⟨(), ?_, trivial⟩)))))
    rw [wr_succ h2 h3 (by omega)]
  · intro _ _
    exact Round.no (by simp) (Round.done (Evt.some _))
/- laws.eqStrokeS -/
theorem e13 (K : List Stk) (hr : RngT K) : Evt (fun n => call T C n 13 (K, K, ())) ((true, ()), ()) := by
  have hkl := hr.len'
  refine Evt.next (Evt.no (by simp) ?_) (fun n => r13 n K K)
  refine for_evt 0 (K.length : Int) (fun i (_ : Unit) => (K, K, i, ())) (fun _ _ => True) (b0 := ()) (by omega) trivial ?_ ?_
  · intro i _ h2 h3 _
    obtain ⟨v, hv⟩ := at_of h2 h3
    have hrv := hr.el v hv.mem
    refine Round.yes (decide_eq_true h3) (Round.at hv.idx (Round.at hv.idx (Round.bind (e78 v (by omega) (fun m hm => (hrv.2 m hm).1)) (Round.no (by simp) (Round.again _ ⟨(), ?_, trivial⟩)))))
    rw [wr_succ h2 h3 (by omega)]
  · intro _ _
    exact Round.no (by simp) (Round.done (Evt.some _))
/- laws.eqCam -/
theorem e79 (l : List Int) (hl : (l.length : Int) ≤ 140737488351232) : Evt (fun n => call T C n 79 (l, l, ())) ((true, ()), ()) := by
  refine Evt.next (Evt.no (by simp) ?_) (fun n => r79 n l l)
  refine for_evt 0 (l.length : Int) (fun i (_ : Unit) => (l, l, i, ())) (fun _ _ => True) (b0 := ()) (by omega) trivial ?_ ?_
  · intro i _ h2 h3 _
    obtain ⟨v, hv⟩ := at_of h2 h3
    refine Round.yes (decide_eq_true h3) (Round.at hv.idx (Round.at hv.idx (Round.no (by simp) (Round.again _ ⟨(), ?_, trivial⟩))))
    rw [wr_succ h2 h3 (by omega)]
  · intro _ _
    exact Round.no (by simp) (Round.done (Evt.some _))
/- laws.eqMachine -/
theorem e14 (m : Mch) (hx : (m.1.length : Int) ≤ 140737488351232) (hy : (m.2.1.length : Int) ≤ 140737488351232) (hp : (m.2.2.1.length : Int) ≤ 140737488351232) : Evt (fun n => call T C n 14 (m, m, ())) ((true, ()), ()) :=
  Evt.next (Evt.bind (e79 _ hx) (Evt.no (by simp) (Evt.bind (e79 _ hy) (Evt.no (by simp) (Evt.bind (e79 _ hp) (Evt.no (by simp) (Evt.some _))))))) (fun n => r14 n m m)
/- laws.markCam -/
theorem e80 (l : List Int) (k : Int) (h0 : 0 ≤ k) (h1 : k + l.length ≤ 4611686018427387904) : Evt (fun n => call T C n 80 (l, k, ())) ((k + l.length, ()), (mkL (wr .i16) l.length k, ())) := by
  refine Evt.next ?_ (fun n => r80 n l k)
  refine for_evt' 0 (l.length : Int) (fun i (b : List Int) => (b, k + i, i, ())) (fun i b => b.length = l.length ∧ b.take i.toNat = mkL (wr .i16) i.toNat k) (b0 := l) (by simp) (by omega) ⟨rfl, by simp [mkL]⟩ ?_ ?_
  · intro i b h2 h3 ⟨hb, ht⟩
    have hi : i < (b.length : Int) := by omega
    obtain ⟨u, hu⟩ := get_of_lt h2 hi
    refine Round.yes (decide_eq_true hi) (Round.chk (chk_at h2 hi) (Round.at hu (Round.again _ ⟨b.set i.toNat (wr .i16 (k + i)), ?_, by simpa using hb, ?_⟩)))
    · rw [wrap_id (x := k + i + 1) (by omega) (by omega), wrap_id (x := i + 1) (by omega) (by omega)]
      simp only [Int.add_assoc, id_eq]
    · rw [take_set_succ h2 hi, ht, show (i + 1).toNat = i.toNat + 1 by omega, mkL_succ, show ((i.toNat : Nat) : Int) = i by omega]
  · intro b ⟨hb, ht⟩
    have e : b = mkL (wr .i16) l.length k := by rw [← take_all b, hb, ht]; simp
    rw [← e]
    exact Round.no (by simp [hb]) (Round.done (Evt.some _))
/- laws.markMachine -/
theorem e15 (m : Mch) (k : Int) (h0 : 0 ≤ k) (h1 : k + totM m ≤ 4611686018427387904) : Evt (fun n => call T C n 15 (m, k, ())) ((k + totM m, ()), (mkM m k, ())) := by
  unfold totM at h1
  refine Evt.next (Evt.bind (e80 m.1 k h0 (by omega)) (Evt.bind (e80 m.2.1 (k + m.1.length) (by omega) (by omega)) (Evt.bind (e80 m.2.2.1 (k + m.1.length + m.2.1.length) (by omega) (by omega)) ((Evt.some _).of_eq fun n => ?_)))) (fun n => r15 n m k)
  simp only [totM, mkM]
  rw [show k + ((m.1.length : Int) + m.2.1.length + m.2.2.1.length) = k + m.1.length + m.2.1.length + m.2.2.1.length by omega]
  rfl
/- laws.markStroke -/
theorem e81 (s : Stk) (hm : ∀ m ∈ s, m.length = 2) (k : Int) (h0 : 0 ≤ k) (h1 : k + 2 * s.length ≤ 4611686018427387904) : Evt (fun n => call T C n 81 (s, k, ())) ((k + 2 * s.length, ()), (mkSk s.length k, ())) := by
  refine Evt.next ?_ (fun n => r81 n s k)
  refine for_evt' 0 (s.length : Int) (fun i (b : Stk) => (b, k + 2 * i, i, ())) (fun i b => b.length = s.length ∧ b.take i.toNat = mkSk i.toNat k ∧ ∀ m ∈ b, m.length = 2) (b0 := s) (by simp) (by omega) ⟨rfl, by simp [mkSk], hm⟩ ?_ ?_
  · intro i b h2 h3 ⟨hb, ht, hm⟩
    have hi : i < (b.length : Int) := by omega
    obtain ⟨u, hu⟩ := at_of (l := b) h2 hi
    have hu2 := hm u hu.mem
    refine Round.yes (decide_eq_true hi) ?_
    refine for_round' 0 2 (fun j (d : Mk) => (b.set i.toNat d, k + 2 * i + j, i, j, ())) (fun j d => d.length = 2 ∧ d.take j.toNat = [wr .i16 (k + 2 * i), wr .i16 (k + 2 * i + 1)].take j.toNat) (b0 := u) ?_ (by omega) ⟨hu2, rfl⟩ ?_ ?_
    · have : b.set i.toNat u = b := by
        refine List.ext_getElem? fun j => ?_
        rw [List.getElem?_set]
        split
        · rename_i e
          subst e
          rw [if_pos (by omega), hu.get]
        · rfl
      rw [this, Int.add_zero]
    · intro j d j2 j3 ⟨hd, hdt⟩
      have hset : (b.set i.toNat d)[i.toNat]? = some d := List.getElem?_set_self (by omega)
      have hgd := g_idx (l := d) j2 (by omega)
      have hl : i < (((b.set i.toNat d).length : Nat) : Int) := by rw [List.length_set]; exact hi
      refine Round.yes (decide_eq_true j3) (Round.chk (chk_at h2 hl) (Round.chk (decide_eq_true (show 0 ≤ j ∧ j < ((2 : Nat) : Int) by omega)) (Round.at hset (Round.at hgd.get (Round.inr _ ⟨d.set j.toNat (wr .i16 (k + 2 * i + j)), ?_, by simpa using hd, ?_⟩)))))
      · show ((b.set i.toNat d).set i.toNat (d.set j.toNat (wr .i16 (k + 2 * i + j))), wr .i64 (k + 2 * i + j + 1), i, wr .i64 (j + 1), ()) = _
        rw [List.set_set, wrap_id (x := k + 2 * i + j + 1) (by omega) (by omega), wr_succ j2 j3 (by omega), show k + 2 * i + j + 1 = k + 2 * i + (j + 1) by omega]
      · rw [take_set_succ j2 (by omega), hdt]
        rcases (show j = 0 ∨ j = 1 by omega) with rfl | rfl
        · simp
        · rfl
    · intro d ⟨hd, hdt⟩
      have hde : d = [wr .i16 (k + 2 * i), wr .i16 (k + 2 * i + 1)] := by
        have e1 := hdt
        rw [show (2 : Int).toNat = 2 from rfl, List.take_of_length_le (by omega), List.take_of_length_le (by simp)] at e1
        exact e1
      refine Round.no (by simp) (Round.inl _ ⟨b.set i.toNat d, ?_, by simpa using hb, ?_, fun m hm' => ?_⟩)
      · show (b.set i.toNat d, k + 2 * i + 2, wr .i64 (i + 1), ()) = _
        rw [wr_succ h2 h3 (by omega), show k + 2 * (i + 1) = k + 2 * i + 2 by omega]
      · rw [take_set_succ h2 hi, ht, show (i + 1).toNat = i.toNat + 1 by omega, mkSk_succ, show ((i.toNat : Nat) : Int) = i by omega, hde]
      · rcases List.mem_or_eq_of_mem_set hm' with h | h
        · exact hm m h
        · rw [h]; exact hd
  · intro b ⟨hb, ht, _⟩
    have e : b = mkSk s.length k := by rw [← take_all b, hb, ht]; simp
    rw [← e]
    exact Round.no (by simp [hb]) (Round.done (Evt.some _))
/- laws.markStrokeS -/
theorem e16 (K : List Stk) (hr : RngT K) (k : Int) (h0 : 0 ≤ k) (h1 : k + 2 * totT K ≤ 4611686018427387904) : Evt (fun n => call T C n 16 (K, k, ())) ((k + 2 * totT K, ()), (mkTs K k, ())) := by
  have hkl := hr.len'
  refine Evt.next ?_ (fun n => r16 n K k)
  refine for_evt' 0 (K.length : Int) (fun i (b : List Stk) => (b, k + 2 * totT (K.take i.toNat), i, ())) (fun i b => b.length = K.length ∧ b.drop i.toNat = K.drop i.toNat ∧ b.take i.toNat = mkTs (K.take i.toNat) k) (b0 := K) (by simp [totT, totL]) (by omega) ⟨rfl, rfl, by simp [mkTs]⟩ ?_ ?_
  · intro i b h2 h3 ⟨hb, hd, ht⟩
    have hi : i < (b.length : Int) := by omega
    obtain ⟨v, hv⟩ := at_of (l := K) h2 h3
    obtain ⟨u, hu⟩ := at_of (l := b) h2 hi
    have huv : u = v := by
      have e1 := hu.drop
      have e2 := hv.drop
      rw [hd, e2] at e1
      exact (List.cons.inj e1).1.symm
    subst huv
    have htot := totT_take K (i + 1).toNat
    have hnn2 := totT_nonneg (K.take i.toNat)
    have e3 : totT (K.take (i + 1).toNat) = totT (K.take i.toNat) + u.length := by rw [hv.take, totT_snoc]
    refine Round.yes (decide_eq_true hi) (Round.chk (chk_at h2 hi) (Round.at hu.get (Round.bind (e81 u (fun m hm => ((hr.el u hv.mem).2 m hm).1) (k + 2 * totT (K.take i.toNat)) (by omega) (by omega)) (Round.at hu.get (Round.again _ ⟨b.set i.toNat (mkSk u.length (k + 2 * totT (K.take i.toNat))), ?_, by simpa using hb, ?_, ?_⟩)))))
    · rw [wr_succ h2 h3 (by omega), e3, Int.mul_add, Int.add_assoc]
    · rw [show (i + 1).toNat = i.toNat + 1 by omega, List.drop_set_of_lt (by omega)]
      have e4 : b.drop (i.toNat + 1) = (b.drop i.toNat).tail := by simp
      have e5 : K.drop (i.toNat + 1) = (K.drop i.toNat).tail := by simp
      rw [e4, e5, hd]
    · rw [take_set_succ h2 hi, ht, hv.take, mkTs_snoc]
  · intro b ⟨hb, hd, ht⟩
    simp only [take_all] at ht ⊢
    have e : b = mkTs K k := by rw [← ht, ← hb, take_all]
    rw [← e]
    exact Round.no (by simp [hb]) (Round.done (Evt.some _))
/- laws.heldStroke -/
theorem e82 (m : Nat) (k : Int) (h0 : 0 ≤ k) (h1 : k + 2 * m ≤ 4611686018427387904) : Evt (fun n => call T C n 82 (mkSk m k, k, ())) ((k + 2 * m, ()), ()) := by
  refine Evt.next ?_ (fun n => r82 n _ k)
  refine for_evt' 0 (m : Int) (fun i (_ : Unit) => (mkSk m k, k + 2 * i, i, ())) (fun _ _ => True) (b0 := ()) (by simp) (by omega) trivial ?_ ?_
  · intro i _ h2 h3 _
    obtain ⟨v, hv⟩ := at_of (l := mkSk m k) h2 (by rw [mkSk_len]; exact h3)
    have e := mkSk_at m k hv h2
    refine Round.yes (by rw [mkSk_len]; exact decide_eq_true h3) ?_
    refine for_round' 0 2 (fun j (_ : Unit) => (mkSk m k, k + 2 * i + j, i, j, ())) (fun _ _ => True) (b0 := ()) (by simp) (by omega) trivial ?_ ?_
    · intro j _ j2 j3 _
      have hg := g_idx (l := v) j2 (by rw [e]; show j < 2; omega)
      have hgv : g v j.toNat = wr .i16 (k + 2 * i + j) := by
        rw [e]
        rcases (show j = 0 ∨ j = 1 by omega) with rfl | rfl
        · rw [Int.add_zero]; rfl
        · rfl
      refine Round.yes (decide_eq_true j3) (Round.at hv.idx (Round.at hg.idx (Round.no (by simp [hgv]) (Round.inr _ ⟨(), ?_, trivial⟩))))
      show (mkSk m k, wr .i64 (k + 2 * i + j + 1), i, wr .i64 (j + 1), ()) = _
      rw [wrap_id (x := k + 2 * i + j + 1) (by omega) (by omega), wr_succ j2 j3 (by omega), Int.add_assoc]
    · intro _ _
      refine Round.no (by simp) (Round.inl _ ⟨(), ?_, trivial⟩)
      show (mkSk m k, k + 2 * i + 2, wr .i64 (i + 1), ()) = _
      rw [wr_succ h2 h3 (by omega), show k + 2 * (i + 1) = k + 2 * i + 2 by omega]
  · intro _ _
    exact Round.no (by simp [mkSk_len]) (Round.done (Evt.some _))
/- laws.heldStrokeS -/
theorem e17 (K : List Stk) (k : Int) (hk : (K.length : Int) ≤ 140737488351232) (h0 : 0 ≤ k) (h1 : k + 2 * totT K ≤ 4611686018427387904) : Evt (fun n => call T C n 17 (mkTs K k, k, ())) ((k + 2 * totT K, ()), ()) := by
  refine Evt.next ?_ (fun n => r17 n _ k)
  refine for_evt' 0 (K.length : Int) (fun i (_ : Unit) => (mkTs K k, k + 2 * totT (K.take i.toNat), i, ())) (fun _ _ => True) (b0 := ()) (by simp [totT, totL]) (by omega) trivial ?_ ?_
  · intro i _ h2 h3 _
    obtain ⟨v, hv⟩ := at_of (l := mkTs K k) h2 (by rw [mkTs_len]; exact h3)
    obtain ⟨s, hs⟩ := at_of (l := K) h2 h3
    obtain ⟨s', e1, e2⟩ := mkTs_at K k hv.get
    rw [hs.get] at e1
    injection e1 with e1
    subst e1
    have htot := totT_take K (i + 1).toNat
    have hnn := totT_nonneg (K.take i.toNat)
    have e3 : totT (K.take (i + 1).toNat) = totT (K.take i.toNat) + s.length := by rw [hs.take, totT_snoc]
    refine Round.yes (by rw [mkTs_len]; exact decide_eq_true h3) (Round.at hv.idx ?_)
    rw [e2]
    refine Round.bind (e82 s.length (k + 2 * totT (K.take i.toNat)) (by omega) (by omega)) (Round.no (by simp; omega) (Round.again _ ⟨(), ?_, trivial⟩))
    rw [wr_succ h2 h3 (by omega), e3, Int.mul_add, Int.add_assoc]
  · intro _ _
    simp only [take_all]
    exact Round.no (by simp [mkTs_len]) (Round.done (Evt.some _))
/- laws.FnExactStrokesOf -/
theorem e3 (m : Mch) (hd : DomA (C 3).params (m, ())) : Evt (fun n => call T C n 3 (m, ())) ((true, ()), ()) := by
  have hR : RngM m := rngM_of hd.1
  have hx := hR.x.len'
  have hy := hR.y.len'
  have hp := hR.p.len'
  refine Evt.next (Evt.bind (e9 m 1048576) (Evt.ite (fun _ => Evt.some _) (fun hsz => ?_))) (fun n => r3 n m)
  have hsz := szM_ok hR (by omega) (Int.le_refl _) (by simpa using hsz)
  obtain ⟨hr, h20, ht⟩ := soR_rng hR
  have htn := totT_nonneg (soR m).1
  have to1 := e11 m hR
  have sp := e10 m hR
  have im := e12 m hR
  have hm0 := e15 m 1 (by omega) (by unfold totM; omega)
  have hm := e16 (soR m).1 hr 1 (by omega) (by omega)
  have hh := e17 (soR m).1 1 (by omega) (by omega) (by omega)
  have eqg := e13 (soR m).1 hr
  refine Evt.bind to1 (Evt.bind sp (Evt.bind to1 (Evt.bind im (Evt.bind eqg (Evt.no (by simp) (Evt.no (by simp) ?_))))))
  refine Evt.bind to1 (Evt.bind (e14 m (by omega) (by omega) (by omega)) (Evt.no (by simp) ?_))
  refine Evt.bind hm0 (Evt.no (by simp; unfold totM; omega) (Evt.bind eqg (Evt.no (by simp) (Evt.no (by simp) ?_))))
  refine Evt.bind hm (Evt.bind hh (Evt.no (by simp; omega) (Evt.no (by simp) ?_)))
  refine Evt.bind to1 (Evt.bind im (Evt.bind eqg (Evt.no (by simp) (Evt.no (by simp) (Evt.bind hh (Evt.no (by simp; omega) (Evt.no (by simp) (Evt.some _))))))))

end Go.Cams.YtdhgdfofgeccgaaLSt
