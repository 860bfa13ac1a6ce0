/- What the functions that the law reaches come to. -/
import Derived.Test.YtnneldeocfkfnaaRWithPhases
import Derived.Test.YtnneldeocfkfnaaPu3
namespace Go.Cams.YtnneldeocfkfnaaLWithPhases
open Go Go.Fw Go.Proofs Go.Proofs.Ytnneldeocfkfnaa.LWithPhases
/- laws.szCam -/
theorem e41 (l : List Int) (a : Int) : Evt (fun n => call T C n 41 (l, a, ())) ((sz1 l a, ()), ()) := by
  refine Evt.next ?_ (fun n => r41 n l a)
  unfold sz1
  refine Evt.ite (fun h => ?_) (fun h => ?_)
  · rw [if_pos (of_decide_eq_true h)]; exact Evt.some _
  · rw [if_neg (by simpa using h)]; exact Evt.some _
/- laws.szShaft -/
theorem e31 (s : Sft) (a : Int) : Evt (fun n => call T C n 31 (s, a, ())) ((sz s a, ()), ()) := by
  refine Evt.next (Evt.bind (e41 _ a) ?_) (fun n => r31 n s a)
  unfold sz
  refine Evt.ite (fun h => ?_) (fun h => ?_)
  · rw [if_pos (of_decide_eq_true h)]; exact Evt.some _
  · rw [if_neg (by simpa using h)]; exact Evt.some _
/- laws.szShaftS -/
theorem e8 (l : List Sft) (hl : Small l) (a : Int) : Evt (fun n => call T C n 8 (l, a, ())) ((szS l a, ()), ()) := by
  have hl1 := hl.1
  unfold szS
  refine Evt.next ?_ (fun n => r8 n l a)
  refine Evt.ite (fun h => ?_) (fun h => ?_)
  · rw [if_pos (of_decide_eq_true h)]; exact Evt.some _
  · rw [if_neg (by simpa using h)]
    generalize wr .i64 (a - (l.length : Int)) = b
    refine loop_evt (fun (x : List Sft × Int × Int × Unit) => x.1 = l ∧ 0 ≤ x.2.2.1 ∧ x.2.2.1 ≤ (l.length : Int) ∧ szf l b = szf (l.drop x.2.2.1.toNat) x.2.1) (fun (x : List Sft × Int × Int × Unit) => ((l.length : Int) - x.2.2.1).toNat) (x := (l, b, 0, ())) ⟨rfl, Int.le_refl _, by simp, by simp⟩ ?_
    rintro ⟨x1, c, i, _⟩ ⟨h', h0, h1, h2⟩
    simp only at h' h0 h1 h2
    subst h'
    refine Round.ite (fun hlt => ?_) (fun hge => ?_)
    · have hlt : i < (x1.length : Int) := of_decide_eq_true hlt
      obtain ⟨v, hv, hv'⟩ := idx_at h0 hlt
      have hd := drop_cons hv'
      have hw : wr .i64 (i + 1) = i + 1 := wrap_id (by omega) (by omega)
      refine Round.at hv (Round.bind (e31 v c) (Round.ite (fun hb => ?_) (fun hb => ?_)))
      · have hb : sz v c < 0 := of_decide_eq_true hb
        have h3 : szf x1 b = -1 := by rw [h2, hd]; simp [szf, hb]
        rw [h3]
        exact Round.done (Evt.some _)
      · have hb : ¬ sz v c < 0 := by simpa using hb
        refine Round.again _ ⟨⟨rfl, ?_, ?_, ?_⟩, ?_⟩ <;> simp only [hw]
        · omega
        · omega
        · rw [h2, hd, show (i + 1).toNat = i.toNat + 1 by omega]
          simp only [szf]
          rw [if_neg hb]
        · omega
    · have hge : ¬ i < (x1.length : Int) := by simpa using hge
      have : x1.drop i.toNat = [] := List.drop_of_length_le (by omega)
      rw [h2, this]
      exact Round.done (Evt.some _)
/- laws.toCam -/
theorem e45 (l : List Int) (hl : (l.length : Int) * 2 ≤ 140737488351232) : Evt (fun n => call T C n 45 (l, ())) ((l, ()), ()) := by
  refine Evt.next (Evt.chk (by simp; omega) ?_) (fun n => r45 n l)
  refine for_evt 0 (l.length : Int) (fun i (b : List Int) => (l, b, i, ())) (fun i b => b.length = l.length ∧ b.take i.toNat = l.take i.toNat) (b0 := List.replicate (Int.toNat (l.length : Int)) 0) (by omega) ⟨by simp, by simp⟩ ?_ ?_
  · intro i b h2 h3 ⟨hb, ht⟩
    have hi : i < (b.length : Int) := by omega
    obtain ⟨v, hv⟩ := at_of h2 h3
    obtain ⟨u, hu⟩ := get_of_lt h2 hi
    refine Round.yes (decide_eq_true h3) (Round.at hv.idx (Round.chk (chk_at h2 hi) (Round.at hu (Round.again _ ⟨b.set i.toNat v, ?_, by simpa using hb, ?_⟩))))
    · rw [wr_succ h2 h3 (by omega)]
    · rw [take_set_succ h2 hi, ht, hv.take]
  · intro b ⟨hb, ht⟩
    have e : b = l := by rw [← take_all b, hb, ht]; simp
    rw [e]
    exact Round.no (by simp) (Round.done (Evt.some _))
/- laws.toShaft -/
theorem e34 (s : Sft) (hl : (s.2.2.2.1.length : Int) * 2 ≤ 140737488351232) : Evt (fun n => call T C n 34 (s, ())) ((s, ()), ()) := by
  obtain ⟨a, b, c, d, u⟩ := s
  exact Evt.next (Evt.bind (e45 d hl) (Evt.some _)) (fun n => r34 n _)
/- laws.toShaftS -/
theorem e10 (l : List Sft) (hl : (l.length : Int) * 32 ≤ 140737488351232) (hc : ∀ s ∈ l, (s.2.2.2.1.length : Int) * 2 ≤ 140737488351232) : Evt (fun n => call T C n 10 (l, ())) ((l, ()), ()) := by
  refine Evt.next (Evt.chk (by simp; omega) ?_) (fun n => r10 n l)
  refine loop_evt (fun (x : List Sft × List Sft × Int × Unit) => x.1 = l ∧ 0 ≤ x.2.2.1 ∧ x.2.2.1 ≤ (l.length : Int) ∧ x.2.1 = l.take x.2.2.1.toNat ++ List.replicate (l.length - x.2.2.1.toNat) (0, 0, 0, [], ())) (fun (x : List Sft × List Sft × Int × Unit) => ((l.length : Int) - x.2.2.1).toNat) (x := (l, List.replicate (Int.toNat (l.length : Int)) (0, 0, 0, [], ()), 0, ())) ⟨rfl, Int.le_refl _, by simp, by simp⟩ ?_
  rintro ⟨x1, m, i, _⟩ ⟨h', h0, h1, hm⟩
  simp only at h' h0 h1 hm
  subst h'
  have hml : m.length = x1.length := by rw [hm]; simp; omega
  refine Round.ite (fun hlt => ?_) (fun hge => ?_)
  · have hlt : i < (x1.length : Int) := of_decide_eq_true hlt
    obtain ⟨v, hv, hv'⟩ := idx_at h0 hlt
    have hw : wr .i64 (i + 1) = i + 1 := wrap_id (by omega) (by omega)
    obtain ⟨u, hu⟩ : ∃ u, m[i.toNat]? = some u := ⟨m[i.toNat]'(by omega), by simp⟩
    refine Round.at hv (Round.bind (e34 v (hc v (List.mem_of_getElem? hv'))) (Round.chk (by simp [hml]; omega) (Round.at hu (Round.again _ ⟨⟨rfl, ?_, ?_, ?_⟩, ?_⟩)))) <;> simp only [hw]
    · omega
    · omega
    · rw [hm, show (i + 1).toNat = i.toNat + 1 by omega]
      exact set_take hv'
    · omega
  · have hge : ¬ i < (x1.length : Int) := by simpa using hge
    have e : i.toNat = x1.length := by omega
    have : m = x1 := by rw [hm, e]; simp
    rw [this]
    exact Round.done (Evt.some _)
/- laws.toInt64S -/
theorem e11 (l : List Int) (hl : (l.length : Int) * 8 ≤ 140737488351232) : Evt (fun n => call T C n 11 (l, ())) ((l, ()), ()) := by
  refine Evt.next (Evt.chk (by simp; omega) ?_) (fun n => r11 n l)
  refine for_evt 0 (l.length : Int) (fun i (b : List Int) => (l, b, i, ())) (fun i b => b.length = l.length ∧ b.take i.toNat = l.take i.toNat) (b0 := List.replicate (Int.toNat (l.length : Int)) 0) (by omega) ⟨by simp, by simp⟩ ?_ ?_
  · intro i b h2 h3 ⟨hb, ht⟩
    have hi : i < (b.length : Int) := by omega
    obtain ⟨v, hv⟩ := at_of h2 h3
    obtain ⟨u, hu⟩ := get_of_lt h2 hi
    refine Round.yes (decide_eq_true h3) (Round.at hv.idx (Round.chk (chk_at h2 hi) (Round.at hu (Round.again _ ⟨b.set i.toNat v, ?_, by simpa using hb, ?_⟩))))
    · rw [wr_succ h2 h3 (by omega)]
    · rw [take_set_succ h2 hi, ht, hv.take]
  · intro b ⟨hb, ht⟩
    have e : b = l := by rw [← take_all b, hb, ht]; simp
    rw [e]
    exact Round.no (by simp) (Round.done (Evt.some _))
/- spec.l00In -/
theorem e33 (a b c : Int) : Evt (fun n => call T C n 33 (a, b, c, ())) ((inR a b c, ()), ()) := by
  refine Evt.next ?_ (fun n => r33 n a b c)
  refine Evt.ite (fun h => ?_) (fun h => ?_)
  · refine (Evt.some _).of_eq fun n => ?_
    have h : b ≤ a := of_decide_eq_true h
    simp [inR, h]
    rfl
  · refine (Evt.some _).of_eq fun n => ?_
    have h : ¬ b ≤ a := by simpa using h
    simp [inR, h]
    rfl
/- spec.l01Steps -/
theorem e82 (a : Int) : Evt (fun n => call T C n 82 (a, ())) ((inR a 8 360, ()), ()) := Evt.next (Evt.bind (e33 a 8 360) (Evt.some _)) (fun n => r82 n a)
/- spec.l01Lift -/
theorem e83 (a : Int) : Evt (fun n => call T C n 83 (a, ())) ((inR a 0 10000, ()), ()) := Evt.next (Evt.bind (e33 a 0 10000) (Evt.some _)) (fun n => r83 n a)
/- spec.l01Ok -/
theorem e63 (l : List Int) (hl : (l.length : Int) ≤ 140737488351232) : Evt (fun n => call T C n 63 (l, ())) ((okC l, ()), ()) := by
  refine Evt.next ?_ (fun n => r63 n l)
  refine Evt.bind (e82 _) ?_
  refine Evt.ite (fun h => ?_) (fun h => ?_)
  · refine (Evt.some _).of_eq fun n => ?_
    have h : inR (l.length : Int) 8 360 = false := by simpa using h
    simp [okC, h]
    rfl
  · have h : inR (l.length : Int) 8 360 = true := by simpa using h
    have he : okC l = l.all okV := by simp [okC, h]
    rw [he]
    refine loop_evt (fun (x : List Int × Int × Unit) => x.1 = l ∧ 0 ≤ x.2.1 ∧ x.2.1 ≤ (l.length : Int) ∧ l.all okV = (l.drop x.2.1.toNat).all okV) (fun (x : List Int × Int × Unit) => ((l.length : Int) - x.2.1).toNat) (x := (l, 0, ())) ⟨rfl, Int.le_refl _, by simp, by simp⟩ ?_
    rintro ⟨x1, i, _⟩ ⟨h', h0, h1, h2⟩
    simp only at h' h0 h1 h2
    subst h'
    refine Round.ite (fun hlt => ?_) (fun hge => ?_)
    · have hlt : i < (x1.length : Int) := of_decide_eq_true hlt
      obtain ⟨v, hv, hv'⟩ := idx_at h0 hlt
      have hd := drop_cons hv'
      refine Round.at hv (Round.bind (e83 _) (Round.ite (fun hb => ?_) (fun hb => ?_)))
      · have hb : okV v = false := by simpa [okV] using hb
        have h3 : x1.all okV = false := by rw [h2, hd]; simp [hb]
        rw [h3]
        exact Round.done (Evt.some _)
      · have hb : okV v = true := by simpa [okV] using hb
        have hw : wr .i64 (i + 1) = i + 1 := wrap_id (by omega) (by omega)
        refine Round.again _ ⟨⟨rfl, ?_, ?_, ?_⟩, ?_⟩ <;> simp only [hw]
        · omega
        · omega
        · rw [h2, hd, show (i + 1).toNat = i.toNat + 1 by omega]
          simp [hb]
        · omega
    · have hge : ¬ i < (x1.length : Int) := by simpa using hge
      have : x1.drop i.toNat = [] := List.drop_of_length_le (by omega)
      rw [h2, this]
      exact Round.done (Evt.some _)
/- spec.l04Ok -/
theorem e32 (l : List Sft) (hl : Small l) : Evt (fun n => call T C n 32 (l, ())) ((okA l, ()), ()) := by
  refine Evt.next ?_ (fun n => r32 n l)
  refine Evt.bind (e33 _ _ _) ?_
  refine Evt.ite (fun h => ?_) (fun h => ?_)
  · refine (Evt.some _).of_eq fun n => ?_
    have h : inR (l.length : Int) 1 6 = false := by simpa using h
    simp [okA, h]
    rfl
  · have h : inR (l.length : Int) 1 6 = true := by simpa using h
    have he : okA l = l.all okS := by simp [okA, h]
    rw [he]
    have hl1 := hl.1
    refine loop_evt (fun (x : List Sft × Int × Unit) => x.1 = l ∧ 0 ≤ x.2.1 ∧ x.2.1 ≤ (l.length : Int) ∧ l.all okS = (l.drop x.2.1.toNat).all okS) (fun (x : List Sft × Int × Unit) => ((l.length : Int) - x.2.1).toNat) (x := (l, 0, ())) ⟨rfl, Int.le_refl _, by simp, by simp⟩ ?_
    rintro ⟨x1, i, _⟩ ⟨h', h0, h1, h2⟩
    simp only at h' h0 h1 h2
    subst h'
    refine Round.ite (fun hlt => ?_) (fun hge => ?_)
    · have hlt : i < (x1.length : Int) := of_decide_eq_true hlt
      obtain ⟨v, hv, hv'⟩ := idx_at h0 hlt
      have hd := drop_cons hv'
      have bad : okS v = false → x1.all okS = false := fun hb => by rw [h2, hd]; simp [hb]
      refine Round.at hv (Round.bind (e33 _ _ _) (Round.ite (fun hb => ?_) (fun hb1 => ?_)))
      · have hb : inR (wr .i64 v.1) 1 60 = false := by simpa using hb
        rw [bad (by simp [okS, hb])]
        exact Round.done (Evt.some _)
      refine Round.bind (e33 _ _ _) (Round.ite (fun hb => ?_) (fun hb2 => ?_))
      · have hb : inR (wr .i64 v.2.1) 1 60 = false := by simpa using hb
        rw [bad (by simp [okS, hb])]
        exact Round.done (Evt.some _)
      refine Round.bind (e63 _ (hl.get hv')) (Round.ite (fun hb => ?_) (fun hb3 => ?_))
      · have hb : okC v.2.2.2.1 = false := by simpa using hb
        rw [bad (by simp [okS, hb])]
        exact Round.done (Evt.some _)
      refine Round.bind (e33 _ _ _) (Round.ite (fun hb => ?_) (fun hb4 => ?_))
      · have hb : inR (wr .i64 v.2.2.1) 0 (wr .i64 ((v.2.2.2.1.length : Int) - 1)) = false := by simpa using hb
        rw [bad (by simp [okS, hb])]
        exact Round.done (Evt.some _)
      have hb : okS v = true := by
        simp only [Bool.not_eq_true', Bool.not_eq_false, cond_false] at hb1 hb2 hb3 hb4
        simp [okS, hb1, hb2, hb3, hb4]
      have hw : wr .i64 (i + 1) = i + 1 := wrap_id (by omega) (by omega)
      refine Round.again _ ⟨⟨rfl, ?_, ?_, ?_⟩, ?_⟩ <;> simp only [hw]
      · omega
      · omega
      · rw [h2, hd, show (i + 1).toNat = i.toNat + 1 by omega]
        simp [hb]
      · omega
    · have hge : ¬ i < (x1.length : Int) := by simpa using hge
      have : x1.drop i.toNat = [] := List.drop_of_length_le (by omega)
      rw [h2, this]
      exact Round.done (Evt.some _)
/- spec.WithPhases -/
theorem e9 (l : List Sft) (hl : Small l) (p : List Int) : Evt (fun n => call T C n 9 (l, p, ())) (phR l p, ()) := by
  refine Evt.next (Evt.bind (e32 l hl) ?_) (fun n => r9 n l p)
  unfold phR
  cases hok : okA l with
  | false => exact Evt.yes rfl (Evt.some _)
  | true =>
    have hG := okA_good hok
    refine Evt.no (by simp) (Evt.ite (fun h => ?_) (fun h => ?_))
    · rw [if_neg (by simp), if_pos (by simpa using h)]; exact Evt.some _
    · have hlen : (p.length : Int) = l.length := by simpa using h
      rw [if_neg (by simp), if_neg (by simpa using h)]
      refine for_evt 0 (l.length : Int) (fun i (b : List Sft) => (l, p, b, i, ())) (fun i b => b.length = i.toNat ∧ phs l p [] = phs (l.drop i.toNat) (p.drop i.toNat) b) (b0 := []) (by omega) ⟨rfl, by simp⟩ ?_ ?_
      · intro i b h2 h3 ⟨hb, hp⟩
        obtain ⟨s, hs⟩ := at_of h2 h3
        obtain ⟨q, hq⟩ := at_of (l := p) h2 (by omega)
        have hg := hG.2 s hs.mem
        rw [hp, hs.drop, hq.drop]
        refine Round.yes (decide_eq_true h3) (Round.at hq.idx (Round.at hs.idx (Round.bind (e33 _ _ _) ?_)))
        refine Round.ite (fun hb1 => ?_) (fun hb1 => ?_)
        · have hb1 : inR q 0 (wr .i64 ((s.2.2.2.1.length : Int) - 1)) = false := by simpa using hb1
          simp only [phs, hb1]
          exact Round.done (Evt.some _)
        · have hb1 : inR q 0 (wr .i64 ((s.2.2.2.1.length : Int) - 1)) = true := by simpa using hb1
          have hgl := hg.len
          refine Round.at hs.idx (Round.at hq.idx (Round.chk (by simp; omega) (Round.chk (by simp; omega) (Round.again _ ⟨b ++ [withP s (wr .i16 q)], ?_, by simp [hb]; omega, ?_⟩))))
          · rw [wr_succ h2 h3 (by omega)]; rfl
          · simp only [phs, hb1]; rfl
      · intro b ⟨_, hp⟩
        rw [hp, drop_all]
        exact Round.no (by simp) (Round.done (Evt.some _))
/- impl.inRange -/
theorem e64 (a b c : Int) : Evt (fun n => call T C n 64 (a, b, c, ())) ((inR a b c, ()), ()) := by
  refine Evt.next ?_ (fun n => r64 n a b c)
  refine Evt.ite (fun h => ?_) (fun h => ?_)
  · refine (Evt.some _).of_eq fun n => ?_
    have h : b ≤ a := of_decide_eq_true h
    simp [inR, h]
    rfl
  · refine (Evt.some _).of_eq fun n => ?_
    have h : ¬ b ≤ a := by simpa using h
    simp [inR, h]
    rfl
/- (impl.Cam).steps -/
theorem e72 (a : List Int) : Evt (fun n => call T C n 72 (a, ())) (((a.length : Int), ()), ()) := Evt.next (Evt.some _) (fun n => r72 n a)
/- impl.isSteps -/
theorem e85 (a : Int) : Evt (fun n => call T C n 85 (a, ())) ((inR a 8 360, ()), ()) := Evt.next (Evt.bind (e64 a 8 360) (Evt.some _)) (fun n => r85 n a)
/- impl.isLift -/
theorem e88 (a : Int) : Evt (fun n => call T C n 88 (a, ())) ((inR a 0 10000, ()), ()) := Evt.next (Evt.bind (e64 a 0 10000) (Evt.some _)) (fun n => r88 n a)
/- impl.ValidCam$1 -/
theorem e87 (v : Int) : Evt (fun n => call T C n 87 (v, ())) ((!okV v, ()), ()) := Evt.next (Evt.bind (e88 _) (Evt.some _)) (fun n => r87 n v)
/- slices.IndexFunc[impl.Cam,int16]{impl.ValidCam$1} -/
theorem e97 (l : List Int) (hl : (l.length : Int) ≤ 140737488351232) : Evt (fun n => call T C n 97 (l, ((), ()), ())) ((fi (fun v => !okV v) l 0, ()), ()) := by
  refine Evt.next ?_ (fun n => r97 n l ((), ()))
  refine loop_evt (fun (x : List Int × (Unit × Unit) × Int × Int × Unit) => x.1 = l ∧ x.2.2.1 = (l.length : Int) ∧ 0 ≤ x.2.2.2.1 ∧ x.2.2.2.1 ≤ (l.length : Int) ∧ fi (fun v => !okV v) l 0 = fi (fun v => !okV v) (l.drop x.2.2.2.1.toNat) x.2.2.2.1) (fun (x : List Int × (Unit × Unit) × Int × Int × Unit) => ((l.length : Int) - x.2.2.2.1).toNat) (x := (l, ((), ()), (l.length : Int), 0, ())) ⟨rfl, rfl, Int.le_refl _, by simp, by simp⟩ ?_
  rintro ⟨x1, u, m, i, _⟩ ⟨h', hm, h0, h1, h2⟩
  simp only at h' hm h0 h1 h2
  subst h'; subst hm
  refine Round.ite (fun hlt => ?_) (fun hge => ?_)
  · have hlt : i < (x1.length : Int) := of_decide_eq_true hlt
    obtain ⟨v, hv, hv'⟩ := idx_at h0 hlt
    have hd := drop_cons hv'
    refine Round.at hv (Round.bind (e87 _) (Round.ite (fun hb => ?_) (fun hb => ?_)))
    · have hb : okV v = false := by simpa using hb
      have h3 : fi (fun v => !okV v) x1 0 = i := by rw [h2, hd]; simp [fi, hb]
      rw [h3]
      exact Round.done (Evt.some _)
    · have hb : okV v = true := by simpa using hb
      have hw : wr .i64 (i + 1) = i + 1 := wrap_id (by omega) (by omega)
      refine Round.again _ ⟨⟨rfl, rfl, ?_, ?_, ?_⟩, ?_⟩ <;> simp only [hw]
      · omega
      · omega
      · rw [h2, hd, show (i + 1).toNat = i.toNat + 1 by omega]
        simp [fi, hb]
      · omega
  · have hge : ¬ i < (x1.length : Int) := by simpa using hge
    have : x1.drop i.toNat = [] := List.drop_of_length_le (by omega)
    rw [h2, this]
    exact Round.done (Evt.some _)
/- slices.ContainsFunc[impl.Cam,int16]{impl.ValidCam$1} -/
theorem e86 (l : List Int) (hl : (l.length : Int) ≤ 140737488351232) : Evt (fun n => call T C n 86 (l, ((), ()), ())) ((l.any (fun v => !okV v), ()), ()) := by
  refine Evt.next (Evt.bind (e97 l hl) ((Evt.some _).of_eq fun n => ?_)) (fun n => r86 n l ((), ()))
  simp only [fi_any _ l 0 (Int.le_refl _)]
  rfl
/- impl.ValidCam -/
theorem e67 (l : List Int) (hl : (l.length : Int) ≤ 140737488351232) : Evt (fun n => call T C n 67 (l, ())) ((okC l, ()), ()) := by
  refine Evt.next (Evt.bind (e72 l) (Evt.bind (e85 _) ?_)) (fun n => r67 n l)
  refine Evt.ite (fun h => ?_) (fun h => ?_)
  · refine Evt.bind (e86 l hl) ((Evt.some _).of_eq fun n => ?_)
    have h : inR (l.length : Int) 8 360 = true := h
    have : okC l = !l.any (fun v => !okV v) := by simp [okC, h, List.any_eq_not_all_not]
    rw [this]
    rfl
  · refine (Evt.some _).of_eq fun n => ?_
    have h : inR (l.length : Int) 8 360 = false := by simpa using h
    simp [okC, h]
    rfl
/- impl.isPlace -/
theorem e36 (a b : Int) : Evt (fun n => call T C n 36 (a, b, ())) ((inR a 0 (wr .i64 (b - 1)), ()), ()) := Evt.next (Evt.bind (e64 _ _ _) (Evt.some _)) (fun n => r36 n a b)
/- impl.ValidShafts$1 -/
theorem e66 (s : Sft) (hl : (s.2.2.2.1.length : Int) ≤ 140737488351232) : Evt (fun n => call T C n 66 (s, ())) ((!okS s, ()), ()) := by
  refine Evt.next (Evt.bind (e64 _ _ _) ?_) (fun n => r66 n s)
  refine Evt.ite (fun h => ?_) (fun h => ?_)
  · have h : inR (wr .i64 s.1) 1 60 = false := by simpa using h
    have : okS s = false := by simp [okS, h]
    rw [this]; exact Evt.some _
  · have h1 : inR (wr .i64 s.1) 1 60 = true := by simpa using h
    refine Evt.bind (e64 _ _ _) (Evt.ite (fun h => ?_) (fun h => ?_))
    · have h : inR (wr .i64 s.2.1) 1 60 = false := by simpa using h
      have : okS s = false := by simp [okS, h]
      rw [this]; exact Evt.some _
    · have h2 : inR (wr .i64 s.2.1) 1 60 = true := by simpa using h
      refine Evt.bind (e67 _ hl) (Evt.ite (fun h => ?_) (fun h => ?_))
      · have h : okC s.2.2.2.1 = false := by simpa using h
        have : okS s = false := by simp [okS, h]
        rw [this]; exact Evt.some _
      · have h3 : okC s.2.2.2.1 = true := by simpa using h
        refine Evt.bind (e36 _ _) ((Evt.some _).of_eq fun n => ?_)
        have : okS s = inR (wr .i64 s.2.2.1) 0 (wr .i64 ((s.2.2.2.1.length : Int) - 1)) := by simp [okS, h1, h2, h3]
        rw [this]
        rfl
/- slices.IndexFunc[[]impl.Shaft,impl.Shaft]{impl.ValidShafts$1} -/
theorem e84 (l : List Sft) (hl : Small l) : Evt (fun n => call T C n 84 (l, ((), ()), ())) ((fi (fun v => !okS v) l 0, ()), ()) := by
  refine Evt.next ?_ (fun n => r84 n l ((), ()))
  refine loop_evt (fun (x : List Sft × (Unit × Unit) × Int × Int × Unit) => x.1 = l ∧ x.2.2.1 = (l.length : Int) ∧ 0 ≤ x.2.2.2.1 ∧ x.2.2.2.1 ≤ (l.length : Int) ∧ fi (fun v => !okS v) l 0 = fi (fun v => !okS v) (l.drop x.2.2.2.1.toNat) x.2.2.2.1) (fun (x : List Sft × (Unit × Unit) × Int × Int × Unit) => ((l.length : Int) - x.2.2.2.1).toNat) (x := (l, ((), ()), (l.length : Int), 0, ())) ⟨rfl, rfl, Int.le_refl _, by simp, by simp⟩ ?_
  rintro ⟨x1, u, m, i, _⟩ ⟨h', hm, h0, h1, h2⟩
  simp only at h' hm h0 h1 h2
  subst h'; subst hm
  have hl1 := hl.1
  refine Round.ite (fun hlt => ?_) (fun hge => ?_)
  · have hlt : i < (x1.length : Int) := of_decide_eq_true hlt
    obtain ⟨v, hv, hv'⟩ := idx_at h0 hlt
    have hd := drop_cons hv'
    refine Round.at hv (Round.bind (e66 _ (hl.get hv')) (Round.ite (fun hb => ?_) (fun hb => ?_)))
    · have hb : okS v = false := by simpa using hb
      have h3 : fi (fun v => !okS v) x1 0 = i := by rw [h2, hd]; simp [fi, hb]
      rw [h3]
      exact Round.done (Evt.some _)
    · have hb : okS v = true := by simpa using hb
      have hw : wr .i64 (i + 1) = i + 1 := wrap_id (by omega) (by omega)
      refine Round.again _ ⟨⟨rfl, rfl, ?_, ?_, ?_⟩, ?_⟩ <;> simp only [hw]
      · omega
      · omega
      · rw [h2, hd, show (i + 1).toNat = i.toNat + 1 by omega]
        simp [fi, hb]
      · omega
  · have hge : ¬ i < (x1.length : Int) := by simpa using hge
    have : x1.drop i.toNat = [] := List.drop_of_length_le (by omega)
    rw [h2, this]
    exact Round.done (Evt.some _)
/- slices.ContainsFunc[[]impl.Shaft,impl.Shaft]{impl.ValidShafts$1} -/
theorem e65 (l : List Sft) (hl : Small l) : Evt (fun n => call T C n 65 (l, ((), ()), ())) ((l.any (fun v => !okS v), ()), ()) := by
  refine Evt.next (Evt.bind (e84 l hl) ((Evt.some _).of_eq fun n => ?_)) (fun n => r65 n l ((), ()))
  simp only [fi_any _ l 0 (Int.le_refl _)]
  rfl
/- impl.ValidShafts -/
theorem e35 (l : List Sft) (hl : Small l) : Evt (fun n => call T C n 35 (l, ())) ((okA l, ()), ()) := by
  refine Evt.next (Evt.bind (e64 _ _ _) ?_) (fun n => r35 n l)
  refine Evt.ite (fun h => ?_) (fun h => ?_)
  · refine Evt.bind (e65 l hl) ((Evt.some _).of_eq fun n => ?_)
    have h : inR (l.length : Int) 1 6 = true := h
    have : okA l = !l.any (fun v => !okS v) := by simp [okA, h, List.any_eq_not_all_not]
    rw [this]
    rfl
  · refine (Evt.some _).of_eq fun n => ?_
    have h : inR (l.length : Int) 1 6 = false := by simpa using h
    simp [okA, h]
    rfl
/- slices.Clone[impl.Cam,int16] -/
theorem e37 (l : List Int) (h0 : l.length ≠ 0) (hl : (l.length : Int) ≤ 1000000) : Evt (fun n => call T C n 37 (l, ())) ((l, ()), ()) :=
  Evt.next (Evt.chk (decide_eq_true h0) (Evt.chk (by simp; omega) (Evt.some _))) (fun n => r37 n l)
/- impl.WithPhases -/
theorem e12 (l : List Sft) (hl : Small l) (p : List Int) : Evt (fun n => call T C n 12 (l, p, ())) (phR l p, ()) := by
  refine Evt.next (Evt.bind (e35 l hl) ?_) (fun n => r12 n l p)
  unfold phR
  cases hok : okA l with
  | false => exact Evt.yes rfl (Evt.some _)
  | true =>
    have hG := okA_good hok
    refine Evt.no (by simp) (Evt.ite (fun h => ?_) (fun h => ?_))
    · rw [if_neg (by simp), if_pos (by simpa using h)]; exact Evt.some _
    · have hlen : (p.length : Int) = l.length := by simpa using h
      rw [if_neg (by simp), if_neg (by simpa using h)]
      refine for_evt 0 (l.length : Int) (fun i (b : List Sft) => (p, b, l, (l.length : Int), i, ())) (fun i b => b.length = i.toNat ∧ phs l p [] = phs (l.drop i.toNat) (p.drop i.toNat) b) (b0 := []) (by omega) ⟨rfl, by simp⟩ ?_ ?_
      · intro i b h2 h3 ⟨hb, hp⟩
        obtain ⟨s, hs⟩ := at_of h2 h3
        obtain ⟨q, hq⟩ := at_of (l := p) h2 (by omega)
        have hg := hG.2 s hs.mem
        rw [hp, hs.drop, hq.drop]
        refine Round.yes (decide_eq_true h3) (Round.at hs.idx (Round.at hq.idx (Round.bind (e36 _ _) ?_)))
        refine Round.ite (fun hb1 => ?_) (fun hb1 => ?_)
        · have hb1 : inR q 0 (wr .i64 ((s.2.2.2.1.length : Int) - 1)) = false := by simpa using hb1
          simp only [phs, hb1]
          exact Round.done (Evt.some _)
        · have hb1 : inR q 0 (wr .i64 ((s.2.2.2.1.length : Int) - 1)) = true := by simpa using hb1
          have hgl := hg.len
          refine Round.at hq.idx (Round.bind (e37 _ (by omega) (by omega)) (Round.chk (by simp; omega) (Round.again _ ⟨b ++ [withP s (wr .i16 q)], ?_, by simp [hb]; omega, ?_⟩)))
          · rw [wr_succ h2 h3 (by omega)]; rfl
          · simp only [phs, hb1]; rfl
      · intro b ⟨_, hp⟩
        rw [hp, drop_all]
        exact Round.no (by simp) (Round.done (Evt.some _))
/- laws.eqCam -/
theorem e51 (l : List Int) (hl : (l.length : Int) ≤ 140737488351232) : Evt (fun n => call T C n 51 (l, l, ())) ((true, ()), ()) := by
  refine Evt.next (Evt.no (by simp) ?_) (fun n => r51 n l l)
  refine for_evt 0 (l.length : Int) (fun i (_ : Unit) => (l, l, i, ())) (fun _ _ => True) (b0 := ()) (by omega) trivial ?_ ?_
  · intro i _ h2 h3 _
    obtain ⟨v, hv⟩ := at_of h2 h3
    refine Round.yes (decide_eq_true h3) (Round.at hv.idx (Round.at hv.idx (Round.no (by simp) (Round.again _ ⟨(), ?_, trivial⟩))))
    rw [wr_succ h2 h3 (by omega)]
  · intro _ _
    exact Round.no (by simp) (Round.done (Evt.some _))
/- laws.eqShaft -/
theorem e38 (s : Sft) (hl : (s.2.2.2.1.length : Int) ≤ 140737488351232) : Evt (fun n => call T C n 38 (s, s, ())) ((true, ()), ()) :=
  Evt.next (Evt.no (by simp) (Evt.no (by simp) (Evt.no (by simp) (Evt.bind (e51 _ hl) (Evt.no (by simp) (Evt.some _)))))) (fun n => r38 n s s)
/- laws.eqShaftS -/
theorem e13 (l : List Sft) (hl : Small l) : Evt (fun n => call T C n 13 (l, l, ())) ((true, ()), ()) := by
  have hl1 := hl.1
  refine Evt.next (Evt.no (by simp) ?_) (fun n => r13 n l l)
  refine loop_evt (fun (x : List Sft × List Sft × Int × Unit) => x.1 = l ∧ x.2.1 = l ∧ 0 ≤ x.2.2.1 ∧ x.2.2.1 ≤ (l.length : Int)) (fun (x : List Sft × List Sft × Int × Unit) => ((l.length : Int) - x.2.2.1).toNat) (x := (l, l, 0, ())) ⟨rfl, rfl, Int.le_refl _, by simp⟩ ?_
  rintro ⟨x1, x2, i, _⟩ ⟨h', h'', h0, h1⟩
  simp only at h' h'' h0 h1
  subst h'; subst h''
  refine Round.ite (fun hlt => ?_) (fun hge => ?_)
  · have hlt : i < (x2.length : Int) := of_decide_eq_true hlt
    obtain ⟨v, hv, hv'⟩ := idx_at h0 hlt
    have hw : wr .i64 (i + 1) = i + 1 := wrap_id (by omega) (by omega)
    refine Round.at hv (Round.at hv (Round.bind (e38 v (hl.get hv')) (Round.no (by simp) (Round.again _ ⟨⟨rfl, rfl, ?_, ?_⟩, ?_⟩)))) <;> simp only [hw] <;> omega
  · exact Round.done (Evt.some _)
/- laws.eqInt64S -/
theorem e14 (l : List Int) (hl : (l.length : Int) ≤ 140737488351232) : Evt (fun n => call T C n 14 (l, l, ())) ((true, ()), ()) := by
  refine Evt.next (Evt.no (by simp) ?_) (fun n => r14 n l l)
  refine for_evt 0 (l.length : Int) (fun i (_ : Unit) => (l, l, i, ())) (fun _ _ => True) (b0 := ()) (by omega) trivial ?_ ?_
  · intro i _ h2 h3 _
    obtain ⟨v, hv⟩ := at_of h2 h3
    refine Round.yes (decide_eq_true h3) (Round.at hv.idx (Round.at hv.idx (Round.no (by simp) (Round.again _ ⟨(), ?_, trivial⟩))))
    rw [wr_succ h2 h3 (by omega)]
  · intro _ _
    exact Round.no (by simp) (Round.done (Evt.some _))
/- laws.markCam -/
theorem e39 (l : List Int) (k : Int) (h0 : 0 ≤ k) (h1 : k + l.length ≤ 4611686018427387904) : Evt (fun n => call T C n 39 (l, k, ())) ((k + l.length, ()), (mkL (wr .i16) l.length k, ())) := by
  refine Evt.next ?_ (fun n => r39 n l k)
  refine for_evt' 0 (l.length : Int) (fun i (b : List Int) => (b, k + i, i, ())) (fun i b => b.length = l.length ∧ b.take i.toNat = mkL (wr .i16) i.toNat k) (b0 := l) (by simp) (by omega) ⟨rfl, by simp [mkL]⟩ ?_ ?_
  · intro i b h2 h3 ⟨hb, ht⟩
    have hi : i < (b.length : Int) := by omega
    obtain ⟨u, hu⟩ := get_of_lt h2 hi
    refine Round.yes (decide_eq_true hi) (Round.chk (chk_at h2 hi) (Round.at hu (Round.again _ ⟨b.set i.toNat (wr .i16 (k + i)), ?_, by simpa using hb, ?_⟩)))
    · rw [wrap_id (x := k + i + 1) (by omega) (by omega), wrap_id (x := i + 1) (by omega) (by omega)]
      simp only [Int.add_assoc, id_eq]
    · rw [take_set_succ h2 hi, ht, show (i + 1).toNat = i.toNat + 1 by omega, mkL_succ, show ((i.toNat : Nat) : Int) = i by omega]
  · intro b ⟨hb, ht⟩
    have e : b = mkL (wr .i16) l.length k := by rw [← take_all b, hb, ht]; simp
    rw [← e]
    exact Round.no (by simp [hb]) (Round.done (Evt.some _))
/- laws.markShaftS -/
theorem e15 (l : List Sft) (k : Int) (h0 : 0 ≤ k) (h1 : k + totS l ≤ 4611686018427387904) : ∃ b, Evt (fun n => call T C n 15 (l, k, ())) ((k + totS l, ()), (b, ())) ∧ heldS b k = some (k + totS l) := by
  have hlen : ∀ m : List Sft, (m.length : Int) ≤ totS m := by
    intro m
    induction m with
    | nil => simp [totS]
    | cons s r ih => rw [totS_cons]; simp only [List.length_cons]; omega
  have hll := hlen l
  suffices h : ∃ b : List Sft, heldS b k = some (k + totS l) ∧ Evt (fun n => call T C n 15 (l, k, ())) ((k + totS l, ()), (b, ())) by
    obtain ⟨b, h1, h2⟩ := h; exact ⟨b, h2, h1⟩
  refine ⟨markS l k, markS_held l k, ?_⟩
  refine Evt.next ?_ (fun n => r15 n l k)
  refine for_evt' 0 (l.length : Int) (fun i (b : List Sft) => (b, k + totS (l.take i.toNat), i, ())) (fun i b => b.length = l.length ∧ b.drop i.toNat = l.drop i.toNat ∧ b.take i.toNat = markS (l.take i.toNat) k) (b0 := l) (by simp [totS]) (by omega) ⟨rfl, rfl, by simp [markS]⟩ ?_ ?_
  · intro i b h2 h3 ⟨hb, hd, ht⟩
    have hi : i < (b.length : Int) := by omega
    obtain ⟨s, hs⟩ := at_of h2 h3
    have hbs : b[i.toNat]? = some s := by
      have : (b.drop i.toNat)[0]? = (l.drop i.toNat)[0]? := by rw [hd]
      rw [List.getElem?_drop, List.getElem?_drop] at this
      rw [show i.toNat + 0 = i.toNat by omega] at this
      rw [this, hs.get]
    have hset : ∀ v : Sft, (b.set i.toNat v)[i.toNat]? = some v := fun v => List.getElem?_set_self (by omega)
    have hsl : ∀ v : Sft, i < (((b.set i.toNat v).length : Nat) : Int) := fun v => by rw [List.length_set]; exact hi
    have htk := totS_take l (i + 1).toNat
    rw [hs.take, totS_append] at htk
    have ht1 : totS [s] = 3 + s.2.2.2.1.length := by rw [totS_cons]; simp [totS]
    have hp := totS_nonneg (l.take i.toNat)
    have hq := totS_nonneg (l.drop (i + 1).toNat)
    generalize hK : k + totS (l.take i.toNat) = K
    have w1 : wr .i64 (K + 1) = K + 1 := wrap_id (by omega) (by omega)
    have w2 : wr .i64 (K + 1 + 1) = K + 1 + 1 := wrap_id (by omega) (by omega)
    have w3 : wr .i64 (K + 1 + 1 + 1) = K + 1 + 1 + 1 := wrap_id (by omega) (by omega)
    simp only [w1, w2, w3, List.set_set]
    refine Round.yes (decide_eq_true hi) (Round.chk (chk_at h2 hi) (Round.at hbs (Round.chk (chk_at h2 (hsl _)) (Round.at (hset _) (Round.chk (chk_at h2 (hsl _)) (Round.at (hset _) (Round.chk (chk_at h2 (hsl _)) (Round.at (hset _) (Round.bind (e39 s.2.2.2.1 (K + 1 + 1 + 1) (by omega) (by omega)) (Round.at (hset _) (Round.again _ ⟨b.set i.toNat (markOne s K), ?_, ?_, ?_, ?_⟩)))))))))))
    · rw [hs.take, totS_append, ht1, wr_succ h2 h3 (by omega)]
      simp only [Prod.mk.injEq, and_true]
      refine ⟨rfl, ?_⟩
      show K + 1 + 1 + 1 + (s.2.2.2.1.length : Int) = _
      omega
    · simpa using hb
    · rw [drop_set_succ h2]
      have : (b.drop i.toNat).drop 1 = (l.drop i.toNat).drop 1 := by rw [hd]
      rw [List.drop_drop, List.drop_drop] at this
      rw [show (i + 1).toNat = i.toNat + 1 by omega]
      exact this
    · rw [take_set_succ h2 hi, ht, hs.take, markS_append, hK]
  · intro b ⟨hb, _, ht⟩
    have e : b = markS l k := by
      have h1 := take_all l
      rw [h1, ← hb, take_all] at ht
      exact ht
    rw [← e, take_all]
    exact Round.no (by simp [hb]) (Round.done (Evt.some _))
/- laws.markInt64S -/
theorem e16 (l : List Int) (k : Int) (h0 : 0 ≤ k) (h1 : k + l.length ≤ 4611686018427387904) : Evt (fun n => call T C n 16 (l, k, ())) ((k + l.length, ()), (mkL id l.length k, ())) := by
  refine Evt.next ?_ (fun n => r16 n l k)
  refine for_evt' 0 (l.length : Int) (fun i (b : List Int) => (b, k + i, i, ())) (fun i b => b.length = l.length ∧ b.take i.toNat = mkL id i.toNat k) (b0 := l) (by simp) (by omega) ⟨rfl, by simp [mkL]⟩ ?_ ?_
  · intro i b h2 h3 ⟨hb, ht⟩
    have hi : i < (b.length : Int) := by omega
    obtain ⟨u, hu⟩ := get_of_lt h2 hi
    refine Round.yes (decide_eq_true hi) (Round.chk (chk_at h2 hi) (Round.at hu (Round.again _ ⟨b.set i.toNat (id (k + i)), ?_, by simpa using hb, ?_⟩)))
    · rw [wrap_id (x := k + i + 1) (by omega) (by omega), wrap_id (x := i + 1) (by omega) (by omega)]
      simp only [Int.add_assoc, id_eq]
    · rw [take_set_succ h2 hi, ht, show (i + 1).toNat = i.toNat + 1 by omega, mkL_succ, show ((i.toNat : Nat) : Int) = i by omega]
  · intro b ⟨hb, ht⟩
    have e : b = mkL id l.length k := by rw [← take_all b, hb, ht]; simp
    rw [← e]
    exact Round.no (by simp [hb]) (Round.done (Evt.some _))
/- laws.heldCam -/
theorem e40 (m : Nat) (k : Int) (h0 : 0 ≤ k) (h1 : k + m ≤ 4611686018427387904) : Evt (fun n => call T C n 40 (mkL (wr .i16) m k, k, ())) ((k + m, ()), ()) := by
  refine Evt.next ?_ (fun n => r40 n _ k)
  refine for_evt' 0 (m : Int) (fun i (_ : Unit) => (mkL (wr .i16) m k, k + i, i, ())) (fun _ _ => True) (b0 := ()) (by simp) (by omega) trivial ?_ ?_
  · intro i _ h2 h3 _
    obtain ⟨v, hv⟩ := at_of (l := mkL (wr .i16) m k) h2 (by rw [mkL_len]; exact h3)
    have e := mkL_at (wr .i16) m k hv h2
    refine Round.yes (by rw [mkL_len]; exact decide_eq_true h3) (Round.at hv.idx (Round.no (by simp [e]) (Round.again _ ⟨(), ?_, trivial⟩)))
    rw [wrap_id (x := k + i + 1) (by omega) (by omega), wrap_id (x := i + 1) (by omega) (by omega)]
    simp only [Int.add_assoc]
  · intro _ _
    exact Round.no (by simp [mkL_len]) (Round.done (Evt.some _))
/- laws.heldShaftS -/
theorem e17 (b : List Sft) (k kk : Int) (h0 : 0 ≤ k) (h : heldS b k = some kk) (h1 : kk ≤ 4611686018427387904) (hb : (b.length : Int) ≤ 4611686018427387904) : Evt (fun n => call T C n 17 (b, k, ())) ((kk, ()), ()) := by
  refine Evt.next ?_ (fun n => r17 n b k)
  refine for_evt 0 (b.length : Int) (fun i (c : Int) => (b, c, i, ())) (fun i c => 0 ≤ c ∧ heldS (b.drop i.toNat) c = some kk) (b0 := k) (by omega) ⟨h0, by simpa using h⟩ ?_ ?_
  · intro i c h2 h3 ⟨hc0, hc⟩
    obtain ⟨s, hs⟩ := at_of h2 h3
    rw [hs.drop] at hc
    have hge := heldS_ge _ _ _ hc
    unfold heldS at hc
    split at hc
    · rename_i hx
      obtain ⟨x1, x2, x3, x4⟩ := hx
      rw [totS_cons] at hge
      have hn := totS_nonneg (b.drop (i + 1).toNat)
      have w1 : wr .i64 (c + 1) = c + 1 := wrap_id (by omega) (by omega)
      have w2 : wr .i64 (c + 1 + 1) = c + 1 + 1 := wrap_id (by omega) (by omega)
      have w3 : wr .i64 (c + 1 + 1 + 1) = c + 1 + 1 + 1 := wrap_id (by omega) (by omega)
      simp only [w1, w2, w3]
      have hm := e40 s.2.2.2.1.length (c + 1 + 1 + 1) (by omega) (by omega)
      rw [← x4] at hm
      refine Round.yes (decide_eq_true h3) (Round.at hs.idx (Round.no (by simp [x1]) (Round.at hs.idx (Round.no (by simp [x2]) (Round.at hs.idx (Round.no (by simp [x3]) (Round.at hs.idx (Round.bind hm (Round.no (by simp; omega) (Round.again _ ⟨c + 1 + 1 + 1 + s.2.2.2.1.length, ?_, by omega, hc⟩))))))))))
      rw [wr_succ h2 h3 (by omega)]
    · cases hc
  · intro c ⟨_, hc⟩
    rw [drop_all] at hc
    simp only [heldS, Option.some.injEq] at hc
    rw [hc]
    exact Round.no (by simp) (Round.done (Evt.some _))
/- laws.FnExactWithPhases -/
theorem e3 (l : List Sft) (p : List Int) (hd : DomA (C 3).params (l, p, ())) : Evt (fun n => call T C n 3 (l, p, ())) ((true, ()), ()) := by
  have h1 := shaftsDom1 (l := l) hd.1
  have h2 := shaftsDom2 (l := l) hd.1
  have hp : (p.length : Int) * 8 ≤ 140737488351232 := Int.ofNat_le.2 hd.2.1.1
  have hS : Small l := ⟨by omega, fun s hs => by have := h2 s hs; omega⟩
  refine Evt.next (Evt.ite (fun _ => Evt.some _) (fun hpl => ?_)) (fun n => r3 n l p)
  have hpl : (p.length : Int) ≤ 1048576 := by simpa using hpl
  refine Evt.bind (e8 l hS 1048576) (Evt.ite (fun _ => Evt.some _) (fun hsz => ?_))
  have hsz := szS_ok hS (by simpa using hsz)
  obtain ⟨hR1, hR2, hR3, hRs⟩ := phR_small l p
  have to1 := e10 l h1 h2
  have to2 := e11 p hp
  have sp := e9 l hS p
  have im := e12 l hS p
  obtain ⟨b0, hm0, _⟩ := e15 l 1 (by omega) (by omega)
  have hm1 := e16 p (1 + totS l) (by have := totS_nonneg l; omega) (by omega)
  obtain ⟨b, hm, hb⟩ := e15 (phR l p).1 1 (by omega) (by omega)
  have hh := e17 b 1 _ (by omega) hb (by omega) (by have := heldS_len b _ _ hb; omega)
  have eqg := e13 (phR l p).1 hRs
  refine Evt.bind to1 (Evt.bind to2 (Evt.bind sp (Evt.bind to1 (Evt.bind to2 (Evt.bind im (Evt.bind eqg (Evt.no (by simp) (Evt.no (by simp) ?_))))))))
  refine Evt.bind to1 (Evt.bind (e13 l hS) (Evt.no (by simp) (Evt.bind to2 (Evt.bind (e14 p (by omega)) (Evt.no (by simp) ?_)))))
  refine Evt.bind hm0 (Evt.bind hm1 (Evt.no (by have := totS_nonneg l; simp; omega) (Evt.bind eqg (Evt.no (by simp) (Evt.no (by simp) ?_)))))
  refine Evt.bind hm (Evt.bind hh (Evt.no (by have := totS_nonneg (phR l p).1; simp; omega) (Evt.no (by simp) ?_)))
  refine Evt.bind to1 (Evt.bind to2 (Evt.bind im (Evt.bind eqg (Evt.no (by simp) (Evt.no (by simp) (Evt.bind hh (Evt.no (by have := totS_nonneg (phR l p).1; simp; omega) (Evt.no (by simp) (Evt.some _)))))))))

end Go.Cams.YtnneldeocfkfnaaLWithPhases
