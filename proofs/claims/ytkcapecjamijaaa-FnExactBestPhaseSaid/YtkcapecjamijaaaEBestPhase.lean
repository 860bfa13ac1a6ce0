/- What the functions that the law reaches come to. -/
import Derived.Test.YtkcapecjamijaaaRBestPhase
import Derived.Test.YtkcapecjamijaaaPu4
namespace Go.Cams.YtkcapecjamijaaaLBestPhase
open Go Go.Fw Go.Proofs Go.Proofs.Ytkcapecjamijaaa.LBestPhase
/- laws.szCam -/
theorem e36 (l : List Int) (a : Int) : Evt (fun n => call T C n 36 (l, a, ())) ((sz1 l a, ()), ()) := by
  refine Evt.next ?_ (fun n => r36 n l a)
  unfold sz1
  refine Evt.ite (fun h => ?_) (fun h => ?_)
  · rw [if_pos (of_decide_eq_true h)]; exact Evt.some _
  · rw [if_neg (by simpa using h)]; exact Evt.some _
/- laws.szShaft -/
theorem e43 (s : Sft) (a : Int) : Evt (fun n => call T C n 43 (s, a, ())) ((sz s a, ()), ()) := by
  refine Evt.next (Evt.bind (e36 _ a) ?_) (fun n => r43 n s a)
  unfold sz
  refine Evt.ite (fun h => ?_) (fun h => ?_)
  · rw [if_pos (of_decide_eq_true h)]; exact Evt.some _
  · rw [if_neg (by simpa using h)]; exact Evt.some _
/- laws.szShaftS -/
theorem e13 (l : List Sft) (hl : Small l) (a : Int) : Evt (fun n => call T C n 13 (l, a, ())) ((szS l a, ()), ()) := by
  have hl1 := hl.1
  unfold szS
  refine Evt.next ?_ (fun n => r13 n l a)
  refine Evt.ite (fun h => ?_) (fun h => ?_)
  · rw [if_pos (of_decide_eq_true h)]; exact Evt.some _
  · rw [if_neg (by simpa using h)]
    generalize wr .i64 (a - (l.length : Int)) = b
    refine loop_evt (fun (x : List Sft × Int × Int × Unit) => x.1 = l ∧ 0 ≤ x.2.2.1 ∧ x.2.2.1 ≤ (l.length : Int) ∧ szf l b = szf (l.drop x.2.2.1.toNat) x.2.1) (fun (x : List Sft × Int × Int × Unit) => ((l.length : Int) - x.2.2.1).toNat) (x := (l, b, 0, ())) ⟨rfl, Int.le_refl _, by simp, by simp⟩ ?_
    rintro ⟨x1, c, i, _⟩ ⟨h', h0, h1, h2⟩
    simp only at h' h0 h1 h2
    subst h'
    refine Round.ite (fun hlt => ?_) (fun hge => ?_)
    · have hlt : i < (x1.length : Int) := of_decide_eq_true hlt
      obtain ⟨v, hv, hv'⟩ := idx_at h0 hlt
      have hd := drop_cons hv'
      have hw : wr .i64 (i + 1) = i + 1 := wrap_id (by omega) (by omega)
      refine Round.at hv (Round.bind (e43 v c) (Round.ite (fun hb => ?_) (fun hb => ?_)))
      · have hb : sz v c < 0 := of_decide_eq_true hb
        have h3 : szf x1 b = -1 := by rw [h2, hd]; simp [szf, hb]
        rw [h3]
        exact Round.done (Evt.some _)
      · have hb : ¬ sz v c < 0 := by simpa using hb
        refine Round.again _ ⟨⟨rfl, ?_, ?_, ?_⟩, ?_⟩ <;> simp only [hw]
        · omega
        · omega
        · rw [h2, hd, show (i + 1).toNat = i.toNat + 1 by omega]
          simp only [szf]
          rw [if_neg hb]
        · omega
    · have hge : ¬ i < (x1.length : Int) := by simpa using hge
      have : x1.drop i.toNat = [] := List.drop_of_length_le (by omega)
      rw [h2, this]
      exact Round.done (Evt.some _)
/- laws.toCam -/
theorem e39 (l : List Int) (hl : (l.length : Int) * 2 ≤ 140737488351232) : Evt (fun n => call T C n 39 (l, ())) ((l, ()), ()) := by
  refine Evt.next (Evt.chk (by simp; omega) ?_) (fun n => r39 n l)
  refine for_evt 0 (l.length : Int) (fun i (b : List Int) => (l, b, i, ())) (fun i b => b.length = l.length ∧ b.take i.toNat = l.take i.toNat) (b0 := List.replicate (Int.toNat (l.length : Int)) 0) (by omega) ⟨by simp, by simp⟩ ?_ ?_
  · intro i b h2 h3 ⟨hb, ht⟩
    have hi : i < (b.length : Int) := by omega
    obtain ⟨v, hv⟩ := at_of h2 h3
    obtain ⟨u, hu⟩ := get_of_lt h2 hi
    refine Round.yes (decide_eq_true h3) (Round.at hv.idx (Round.chk (chk_at h2 hi) (Round.at hu (Round.again _ ⟨b.set i.toNat v, ?_, by simpa using hb, ?_⟩))))
    · rw [wr_succ h2 h3 (by omega)]
    · rw [take_set_succ h2 hi, ht, hv.take]
  · intro b ⟨hb, ht⟩
    have e : b = l := by rw [← take_all b, hb, ht]; simp
    rw [e]
    exact Round.no (by simp) (Round.done (Evt.some _))
/- laws.toShaft -/
theorem e46 (s : Sft) (hl : (s.2.2.2.1.length : Int) * 2 ≤ 140737488351232) : Evt (fun n => call T C n 46 (s, ())) ((s, ()), ()) := by
  obtain ⟨a, b, c, d, u⟩ := s
  exact Evt.next (Evt.bind (e39 d hl) (Evt.some _)) (fun n => r46 n _)
/- laws.toShaftS -/
theorem e15 (l : List Sft) (hl : (l.length : Int) * 32 ≤ 140737488351232) (hc : ∀ s ∈ l, (s.2.2.2.1.length : Int) * 2 ≤ 140737488351232) : Evt (fun n => call T C n 15 (l, ())) ((l, ()), ()) := by
  refine Evt.next (Evt.chk (by simp; omega) ?_) (fun n => r15 n l)
  refine loop_evt (fun (x : List Sft × List Sft × Int × Unit) => x.1 = l ∧ 0 ≤ x.2.2.1 ∧ x.2.2.1 ≤ (l.length : Int) ∧ x.2.1 = l.take x.2.2.1.toNat ++ List.replicate (l.length - x.2.2.1.toNat) (0, 0, 0, [], ())) (fun (x : List Sft × List Sft × Int × Unit) => ((l.length : Int) - x.2.2.1).toNat) (x := (l, List.replicate (Int.toNat (l.length : Int)) (0, 0, 0, [], ()), 0, ())) ⟨rfl, Int.le_refl _, by simp, by simp⟩ ?_
  rintro ⟨x1, m, i, _⟩ ⟨h', h0, h1, hm⟩
  simp only at h' h0 h1 hm
  subst h'
  have hml : m.length = x1.length := by rw [hm]; simp; omega
  refine Round.ite (fun hlt => ?_) (fun hge => ?_)
  · have hlt : i < (x1.length : Int) := of_decide_eq_true hlt
    obtain ⟨v, hv, hv'⟩ := idx_at h0 hlt
    have hw : wr .i64 (i + 1) = i + 1 := wrap_id (by omega) (by omega)
    obtain ⟨u, hu⟩ : ∃ u, m[i.toNat]? = some u := ⟨m[i.toNat]'(by omega), by simp⟩
    refine Round.at hv (Round.bind (e46 v (hc v (List.mem_of_getElem? hv'))) (Round.chk (by simp [hml]; omega) (Round.at hu (Round.again _ ⟨⟨rfl, ?_, ?_, ?_⟩, ?_⟩)))) <;> simp only [hw]
    · omega
    · omega
    · rw [hm, show (i + 1).toNat = i.toNat + 1 by omega]
      exact set_take hv'
    · omega
  · have hge : ¬ i < (x1.length : Int) := by simpa using hge
    have e : i.toNat = x1.length := by omega
    have : m = x1 := by rw [hm, e]; simp
    rw [this]
    exact Round.done (Evt.some _)
/- spec.l00In -/
theorem e61 (a b c : Int) : Evt (fun n => call T C n 61 (a, b, c, ())) ((inR a b c, ()), ()) := by
  refine Evt.next ?_ (fun n => r61 n a b c)
  refine Evt.ite (fun h => ?_) (fun h => ?_)
  · refine (Evt.some _).of_eq fun n => ?_
    have h : b ≤ a := of_decide_eq_true h
    simp [inR, h]
    rfl
  · refine (Evt.some _).of_eq fun n => ?_
    have h : ¬ b ≤ a := by simpa using h
    simp [inR, h]
    rfl
/- spec.l01Steps -/
theorem e74 (a : Int) : Evt (fun n => call T C n 74 (a, ())) ((inR a 8 360, ()), ()) := Evt.next (Evt.bind (e61 a 8 360) (Evt.some _)) (fun n => r74 n a)
/- spec.l01Lift -/
theorem e65 (a : Int) : Evt (fun n => call T C n 65 (a, ())) ((inR a 0 10000, ()), ()) := Evt.next (Evt.bind (e61 a 0 10000) (Evt.some _)) (fun n => r65 n a)
/- spec.l01Ok -/
theorem e82 (l : List Int) (hl : (l.length : Int) ≤ 140737488351232) : Evt (fun n => call T C n 82 (l, ())) ((okC l, ()), ()) := by
  refine Evt.next ?_ (fun n => r82 n l)
  refine Evt.bind (e74 _) ?_
  refine Evt.ite (fun h => ?_) (fun h => ?_)
  · refine (Evt.some _).of_eq fun n => ?_
    have h : inR (l.length : Int) 8 360 = false := by simpa using h
    simp [okC, h]
    rfl
  · have h : inR (l.length : Int) 8 360 = true := by simpa using h
    have he : okC l = l.all okV := by simp [okC, h]
    rw [he]
    refine loop_evt (fun (x : List Int × Int × Unit) => x.1 = l ∧ 0 ≤ x.2.1 ∧ x.2.1 ≤ (l.length : Int) ∧ l.all okV = (l.drop x.2.1.toNat).all okV) (fun (x : List Int × Int × Unit) => ((l.length : Int) - x.2.1).toNat) (x := (l, 0, ())) ⟨rfl, Int.le_refl _, by simp, by simp⟩ ?_
    rintro ⟨x1, i, _⟩ ⟨h', h0, h1, h2⟩
    simp only at h' h0 h1 h2
    subst h'
    refine Round.ite (fun hlt => ?_) (fun hge => ?_)
    · have hlt : i < (x1.length : Int) := of_decide_eq_true hlt
      obtain ⟨v, hv, hv'⟩ := idx_at h0 hlt
      have hd := drop_cons hv'
      refine Round.at hv (Round.bind (e65 _) (Round.ite (fun hb => ?_) (fun hb => ?_)))
      · have hb : okV v = false := by simpa [okV] using hb
        have h3 : x1.all okV = false := by rw [h2, hd]; simp [hb]
        rw [h3]
        exact Round.done (Evt.some _)
      · have hb : okV v = true := by simpa [okV] using hb
        have hw : wr .i64 (i + 1) = i + 1 := wrap_id (by omega) (by omega)
        refine Round.again _ ⟨⟨rfl, ?_, ?_, ?_⟩, ?_⟩ <;> simp only [hw]
        · omega
        · omega
        · rw [h2, hd, show (i + 1).toNat = i.toNat + 1 by omega]
          simp [hb]
        · omega
    · have hge : ¬ i < (x1.length : Int) := by simpa using hge
      have : x1.drop i.toNat = [] := List.drop_of_length_le (by omega)
      rw [h2, this]
      exact Round.done (Evt.some _)
/- spec.l04Ok -/
theorem e90 (l : List Sft) (hl : Small l) : Evt (fun n => call T C n 90 (l, ())) ((okA l, ()), ()) := by
  refine Evt.next ?_ (fun n => r90 n l)
  refine Evt.bind (e61 _ _ _) ?_
  refine Evt.ite (fun h => ?_) (fun h => ?_)
  · refine (Evt.some _).of_eq fun n => ?_
    have h : inR (l.length : Int) 1 6 = false := by simpa using h
    simp [okA, h]
    rfl
  · have h : inR (l.length : Int) 1 6 = true := by simpa using h
    have he : okA l = l.all okS := by simp [okA, h]
    rw [he]
    have hl1 := hl.1
    refine loop_evt (fun (x : List Sft × Int × Unit) => x.1 = l ∧ 0 ≤ x.2.1 ∧ x.2.1 ≤ (l.length : Int) ∧ l.all okS = (l.drop x.2.1.toNat).all okS) (fun (x : List Sft × Int × Unit) => ((l.length : Int) - x.2.1).toNat) (x := (l, 0, ())) ⟨rfl, Int.le_refl _, by simp, by simp⟩ ?_
    rintro ⟨x1, i, _⟩ ⟨h', h0, h1, h2⟩
    simp only at h' h0 h1 h2
    subst h'
    refine Round.ite (fun hlt => ?_) (fun hge => ?_)
    · have hlt : i < (x1.length : Int) := of_decide_eq_true hlt
      obtain ⟨v, hv, hv'⟩ := idx_at h0 hlt
      have hd := drop_cons hv'
      have bad : okS v = false → x1.all okS = false := fun hb => by rw [h2, hd]; simp [hb]
      refine Round.at hv (Round.bind (e61 _ _ _) (Round.ite (fun hb => ?_) (fun hb1 => ?_)))
      · have hb : inR (wr .i64 v.1) 1 60 = false := by simpa using hb
        rw [bad (by simp [okS, hb])]
        exact Round.done (Evt.some _)
      refine Round.bind (e61 _ _ _) (Round.ite (fun hb => ?_) (fun hb2 => ?_))
      · have hb : inR (wr .i64 v.2.1) 1 60 = false := by simpa using hb
        rw [bad (by simp [okS, hb])]
        exact Round.done (Evt.some _)
      refine Round.bind (e82 _ (hl.get hv')) (Round.ite (fun hb => ?_) (fun hb3 => ?_))
      · have hb : okC v.2.2.2.1 = false := by simpa using hb
        rw [bad (by simp [okS, hb])]
        exact Round.done (Evt.some _)
      refine Round.bind (e61 _ _ _) (Round.ite (fun hb => ?_) (fun hb4 => ?_))
      · have hb : inR (wr .i64 v.2.2.1) 0 (wr .i64 ((v.2.2.2.1.length : Int) - 1)) = false := by simpa using hb
        rw [bad (by simp [okS, hb])]
        exact Round.done (Evt.some _)
      have hb : okS v = true := by
        simp only [Bool.not_eq_true', Bool.not_eq_false, cond_false] at hb1 hb2 hb3 hb4
        simp [okS, hb1, hb2, hb3, hb4]
      have hw : wr .i64 (i + 1) = i + 1 := wrap_id (by omega) (by omega)
      refine Round.again _ ⟨⟨rfl, ?_, ?_, ?_⟩, ?_⟩ <;> simp only [hw]
      · omega
      · omega
      · rw [h2, hd, show (i + 1).toNat = i.toNat + 1 by omega]
        simp [hb]
      · omega
    · have hge : ¬ i < (x1.length : Int) := by simpa using hge
      have : x1.drop i.toNat = [] := List.drop_of_length_le (by omega)
      rw [h2, this]
      exact Round.done (Evt.some _)
/- spec.l04Index -/
theorem e91 (l : List Sft) (a : Int) : Evt (fun n => call T C n 91 (l, a, ())) ((inR a 0 (wr .i64 ((l.length : Int) - 1)), ()), ()) := Evt.next (Evt.bind (e61 _ _ _) (Evt.some _)) (fun n => r91 n l a)
/- spec.l04Gcd -/
theorem e100 : ∀ (b a : Nat), Evt (fun n => call T C n 100 ((a : Int), (b : Int), ())) ((((Nat.gcd a b : Nat) : Int), ()), ()) := by
  intro b
  induction b using Nat.strongRecOn with
  | ind b ih =>
    intro a
    refine Evt.next ?_ (fun n => r100 n a b)
    refine Evt.ite (fun h => ?_) (fun h => ?_)
    · have h : b = 0 := by simpa using h
      subst h
      rw [Nat.gcd_zero_right]
      exact Evt.some _
    · have h : b ≠ 0 := by simpa using h
      refine Evt.chk (by simpa using h) ?_
      rw [← Int.ofNat_tmod]
      have := ih (a % b) (Nat.mod_lt _ (by omega)) b
      rw [show Nat.gcd a b = Nat.gcd b (a % b) by rw [Nat.gcd_comm a b, Nat.gcd_rec b a, Nat.gcd_comm]]
      exact Evt.bind this (Evt.some _)
theorem e100' {a b : Int} (ha : 0 ≤ a) (hb : 0 ≤ b) : Evt (fun n => call T C n 100 (a, b, ())) ((gg a b, ()), ()) := by
  have := e100 b.toNat a.toNat
  rw [show ((a.toNat : Nat) : Int) = a by omega, show ((b.toNat : Nat) : Int) = b by omega] at this
  exact this
/- spec.l04Own -/
theorem e99 {s : Sft} (h : Good s) : Evt (fun n => call T C n 99 (s, ())) ((own s, ()), ()) := by
  have h1 := dl_eq h
  have hg := gg_pos (a := dl s) (b := wr .i64 s.1) (by omega)
  refine Evt.next (Evt.bind (e100' (a := dl s) (by omega) (by have := h.num; omega)) (Evt.chk ?_ (Evt.some _))) (fun n => r99 n s)
  exact bne_pos hg
/- spec.l04All -/
theorem e51 (l : List Sft) (hl : Small l) (hok : okA l = true) : Evt (fun n => call T C n 51 (l, ())) (allR l, ()) := by
  have hG := okA_good hok
  refine Evt.next (Evt.bind (e90 l hl) ?_) (fun n => r51 n l)
  refine Evt.no (by simp [hok]) ?_
  refine loop_evt (fun (x : List Sft × Int × Int × Unit) => x.1 = l ∧ 1 ≤ x.2.1 ∧ x.2.1 ≤ 20000 ∧ 0 ≤ x.2.2.1 ∧ x.2.2.1 ≤ (l.length : Int) ∧ per l 1 = per (l.drop x.2.2.1.toNat) x.2.1) (fun (x : List Sft × Int × Int × Unit) => ((l.length : Int) - x.2.2.1).toNat) (x := (l, 1, 0, ())) ⟨rfl, by simp, by simp, by simp, by simp, by simp⟩ ?_
  rintro ⟨x1, t, i, _⟩ ⟨h', t0, t1, h0, h1, h2⟩
  simp only at h' t0 t1 h0 h1 h2
  subst h'
  refine Round.ite (fun hlt => ?_) (fun hge => ?_)
  · have hlt : i < (x1.length : Int) := of_decide_eq_true hlt
    obtain ⟨v, hv, hv'⟩ := idx_at h0 hlt
    have hd := drop_cons hv'
    have hgv := hG.2 v (List.mem_of_getElem? hv')
    have ho := own_eq hgv
    have hg := gg_pos (a := t) (b := own v) (by omega)
    refine Round.at hv (Round.bind (e99 hgv) (Round.bind (e100' (a := t) (b := own v) (by omega) (by omega)) (Round.chk (bne_pos hg) ?_)))
    refine Round.ite (fun hb => ?_) (fun hb => ?_)
    · have hb : nxt t v > 20000 := of_decide_eq_true hb
      have h3 : per x1 1 = none := by rw [h2, hd]; simp [per, hb]
      unfold allR
      rw [h3]
      exact Round.done (Evt.some _)
    · have hb : ¬ nxt t v > 20000 := by simpa [nxt] using hb
      have hw : wr .i64 (i + 1) = i + 1 := wrap_id (by omega) (by omega)
      have hp := nxt_pos hgv t0 t1
      refine Round.again _ ⟨⟨rfl, hp, by show nxt t v ≤ 20000; omega, ?_, ?_, ?_⟩, ?_⟩ <;> simp only [hw]
      · omega
      · omega
      · rw [h2, hd, show (i + 1).toNat = i.toNat + 1 by omega]
        simp only [per]
        rw [if_neg hb]
        rfl
      · omega
  · have hge : ¬ i < (x1.length : Int) := by simpa using hge
    have : x1.drop i.toNat = [] := List.drop_of_length_le (by omega)
    have h3 : per x1 1 = some t := by rw [h2, this]; rfl
    unfold allR
    rw [h3]
    exact Round.done (Evt.some _)
theorem e51' (l : List Sft) (hl : Small l) : Evt (fun n => call T C n 51 (l, ())) (codeR l true, ()) := by
  cases hok : okA l with
  | true =>
    have h := e51 l hl hok
    unfold codeR
    rw [if_neg (by simp [hok]), if_neg (by simp)]
    exact h
  | false =>
    unfold codeR
    rw [if_pos hok]
    refine Evt.next (Evt.bind (e90 l hl) ?_) (fun n => r51 n l)
    exact Evt.yes (by simp [hok]) (Evt.some _)
/- spec.l04Asked -/
theorem e44 (l : List Sft) (hl : Small l) (i k a : Int) : Evt (fun n => call T C n 44 (l, i, k, a, ())) (codeR l (isAt l i && isAt l k && inR a 0 20000), ()) := by
  refine Evt.next (Evt.bind (e90 l hl) ?_) (fun n => r44 n l i k a)
  unfold codeR
  cases hok : okA l with
  | false => exact Evt.yes rfl (Evt.some _)
  | true =>
    refine Evt.no (by simp) (Evt.bind (e91 l i) ?_)
    show Evt (fun n => if (!isAt l i) = true then _ else _) _
    cases isAt l i with
    | false => exact Evt.yes rfl (Evt.some _)
    | true =>
      refine Evt.no (by simp) (Evt.bind (e91 l k) ?_)
      show Evt (fun n => if (bif false then true else (!isAt l k)) = true then _ else _) _
      cases isAt l k with
      | false => exact Evt.yes rfl (Evt.some _)
      | true =>
        refine Evt.no (by simp) (Evt.bind (e61 _ _ _) ?_)
        cases inR a 0 20000 with
        | false => exact Evt.yes rfl (Evt.some _)
        | true => exact Evt.no (by simp) (Evt.bind (e51 l hl hok) (Evt.some _))
theorem e44' (l : List Sft) (hl : Small l) (a : Int) : Evt (fun n => call T C n 44 (l, 0, 0, a, ())) (codeR l (inR a 0 20000), ()) := by
  have h := e44 l hl 0 0 a
  have e : codeR l (isAt l 0 && isAt l 0 && inR a 0 20000) = codeR l (inR a 0 20000) := by
    unfold codeR
    cases hok : okA l with
    | false => rfl
    | true =>
      have := (okA_good hok).1
      rw [(isAt_iff hok).2 (by omega)]
      rfl
  rw [e] at h
  exact h
/- spec.l04Step -/
theorem e101 {s : Sft} (h : Good s) (t : Int) : Evt (fun n => call T C n 101 (s, t, ())) ((stp s t, ()), ()) := Evt.next (Evt.chk (den_ne h) (Evt.chk (len_ne h) (Evt.some _))) (fun n => r101 n s t)
/- spec.l04Lift -/
theorem e52 {s : Sft} (h : Good s) {t : Int} (h0 : 0 ≤ t) (h1 : t ≤ 20000) : Evt (fun n => call T C n 52 (s, t, ())) ((lift s t, ()), ()) := by
  obtain ⟨⟨v, hv, he⟩, _⟩ := lift_eq h h0 h1
  rw [he]
  refine Evt.next (Evt.bind (e101 h t) ?_) (fun n => r52 n s t)
  exact Evt.at hv (Evt.some ((wr .i64 v, ()), ()))
/- spec.l04Clash -/
theorem e92 {s u : Sft} (h : Good s) (k : Good u) {t : Int} (h0 : 0 ≤ t) (h1 : t ≤ 20000) (a : Int) : Evt (fun n => call T C n 92 (s, u, t, a, ())) ((decide (lift s t + lift u t > a), ()), ()) := by
  have e1 := (lift_eq h h0 h1).2
  have e2 := (lift_eq k h0 h1).2
  have hw : wr .i64 (lift s t + lift u t) = lift s t + lift u t := wrap_id (by omega) (by omega)
  refine Evt.next (Evt.bind (e52 h h0 h1) (Evt.bind (e52 k h0 h1) ((Evt.some _).of_eq fun n => ?_))) (fun n => r92 n s u t a)
  simp only [hw]
  rfl
/- spec.l04Count -/
theorem e45 {s u : Sft} (hs : Good s) (hu : Good u) {t : Int} (t0 : 0 ≤ t) (t1 : t ≤ 20000) (a : Int) : Evt (fun n => call T C n 45 (s, u, t, a, ())) ((cnt s u a t.toNat, ()), ()) := by
  refine Evt.next ?_ (fun n => r45 n s u t a)
  refine for_evt 0 t (fun i (_ : Unit) => (s, u, t, a, cnt s u a i.toNat, i, ())) (fun _ _ => True) (b0 := ()) t0 trivial ?_ ?_
  · intro i _ h0 h1 _
    have hc := cnt_le s u a i.toNat
    refine Round.yes (by simp [h1]) (Round.bind (e92 hs hu h0 (by omega) a) (Round.ite (fun h => ?_) (fun h => ?_)))
    · have h : lift s i + lift u i > a := of_decide_eq_true h
      refine Round.again _ ⟨(), ?_, trivial⟩
      rw [cnt_step s u a h0, if_pos h, wr_succ h0 h1 (by omega), wrap_id (x := cnt s u a i.toNat + 1) (by omega) (by omega)]
    · have h : ¬ lift s i + lift u i > a := by simpa using h
      refine Round.again _ ⟨(), ?_, trivial⟩
      rw [cnt_step s u a h0, if_neg h, wr_succ h0 h1 (by omega)]
  · intro _ _
    exact Round.no (by simp) (Round.done (Evt.some _))
/- spec.BestPhase -/
theorem e14 (l : List Sft) (hl : Small l) (i k a : Int) : Evt (fun n => call T C n 14 (l, i, k, a, ())) (bestR l i k a, ()) := by
  refine Evt.next (Evt.bind (e44 l hl i k a) ?_) (fun n => r14 n l i k a)
  unfold bestR
  refine Evt.ite (fun h => ?_) (fun h => ?_)
  · have h : (codeR l (isAt l i && isAt l k && inR a 0 20000)).2.1 = (0 : Int) := by simpa using h
    rw [if_neg (by simpa using h)]
    refine Evt.ite (fun e => ?_) (fun e => ?_)
    · have e : i = k := by simpa using e
      rw [if_pos e]
      exact Evt.yes (by simp) (Evt.some _)
    · have e : ¬ i = k := by simpa using e
      rw [if_neg e]
      obtain ⟨hok, hp0, hp1⟩ := code_ok h
      have hb := codeR_room h
      simp only [Bool.and_eq_true, isAt_iff hok] at hb
      obtain ⟨s, hs⟩ := at_of hb.1.1.1 hb.1.1.2
      obtain ⟨u, hu⟩ := at_of hb.1.2.1 hb.1.2.2
      have hG := (okA_good hok).2
      have hul := (hG u hu.mem).len
      refine Evt.no (by simp only [h]; decide) ?_
      simp only
      generalize (codeR l (isAt l i && isAt l k && inR a 0 20000)).1 = p at hp0 hp1
      change Int at p
      have hp0 : (0 : Int) ≤ p := hp0
      have hp1 : p ≤ (20000 : Int) := hp1
      rw [hs.idx, hu.idx]
      refine for_evt' 0 (u.2.2.2.1.length : Int) (fun j (_ : Unit) => (l, i, k, a, p, (bst s u a p j.toNat).1, (bst s u a p j.toNat).2, j, ())) (fun _ _ => True) (b0 := ()) (by rw [wrap_id (by omega) (by omega)]; rfl) (by omega) trivial ?_ ?_
      · intro j _ h2 h3 _
        have hc := cnt_le s (withP u j) a p.toNat
        have w16 : wr .i16 j = j := wrap16 (by omega) (by omega)
        simp only [w16, wr_succ h2 h3 (by omega)]
        refine Round.at hu.idx (Round.yes (decide_eq_true h3) (Round.at hu.idx (Round.at hs.idx (Round.bind (e45 (u := withP u j) (hG s hs.mem) ((hG u hu.mem).withP h2 (by omega)) hp0 hp1 a) ?_))))
        refine Round.ite (fun hb => ?_) (fun hb => ?_)
        · have hb : cnt s (withP u j) a p.toNat < (bst s u a p j.toNat).2 := of_decide_eq_true hb
          refine Round.again _ ⟨(), ?_, trivial⟩
          rw [bst_step s u a p h2, if_pos hb]
        · have hb : ¬ cnt s (withP u j) a p.toNat < (bst s u a p j.toNat).2 := by simpa using hb
          refine Round.again _ ⟨(), ?_, trivial⟩
          rw [bst_step s u a p h2, if_neg hb]
      · intro _ _
        exact Round.at hu.idx (Round.no (by simp) (Round.done (Evt.some _)))
  · have h : ¬ (codeR l (isAt l i && isAt l k && inR a 0 20000)).2.1 = (0 : Int) := by simpa using h
    rw [if_pos h]
    exact Evt.yes (by simpa using h) (Evt.some _)
/- impl.inRange -/
theorem e57 (a b c : Int) : Evt (fun n => call T C n 57 (a, b, c, ())) ((inR a b c, ()), ()) := by
  refine Evt.next ?_ (fun n => r57 n a b c)
  refine Evt.ite (fun h => ?_) (fun h => ?_)
  · refine (Evt.some _).of_eq fun n => ?_
    have h : b ≤ a := of_decide_eq_true h
    simp [inR, h]
    rfl
  · refine (Evt.some _).of_eq fun n => ?_
    have h : ¬ b ≤ a := by simpa using h
    simp [inR, h]
    rfl
/- impl.isPlace -/
theorem e93 (a b : Int) : Evt (fun n => call T C n 93 (a, b, ())) ((inR a 0 (wr .i64 (b - 1)), ()), ()) := Evt.next (Evt.bind (e57 _ _ _) (Evt.some _)) (fun n => r93 n a b)
/- impl.isRoom -/
theorem e94 (a : Int) : Evt (fun n => call T C n 94 (a, ())) ((inR a 0 20000, ()), ()) := Evt.next (Evt.bind (e57 a 0 20000) (Evt.some _)) (fun n => r94 n a)
/- (impl.Cam).steps -/
theorem e48 (a : List Int) : Evt (fun n => call T C n 48 (a, ())) (((a.length : Int), ()), ()) := Evt.next (Evt.some _) (fun n => r48 n a)
/- impl.isSteps -/
theorem e72 (a : Int) : Evt (fun n => call T C n 72 (a, ())) ((inR a 8 360, ()), ()) := Evt.next (Evt.bind (e57 a 8 360) (Evt.some _)) (fun n => r72 n a)
/- impl.isLift -/
theorem e71 (a : Int) : Evt (fun n => call T C n 71 (a, ())) ((inR a 0 10000, ()), ()) := Evt.next (Evt.bind (e57 a 0 10000) (Evt.some _)) (fun n => r71 n a)
/- impl.ValidCam$1 -/
theorem e114 (v : Int) : Evt (fun n => call T C n 114 (v, ())) ((!okV v, ()), ()) := Evt.next (Evt.bind (e71 _) (Evt.some _)) (fun n => r114 n v)
/- slices.IndexFunc[impl.Cam,int16]{impl.ValidCam$1} -/
theorem e127 (l : List Int) (hl : (l.length : Int) ≤ 140737488351232) : Evt (fun n => call T C n 127 (l, ((), ()), ())) ((fi (fun v => !okV v) l 0, ()), ()) := by
  refine Evt.next ?_ (fun n => r127 n l ((), ()))
  refine loop_evt (fun (x : List Int × (Unit × Unit) × Int × Int × Unit) => x.1 = l ∧ x.2.2.1 = (l.length : Int) ∧ 0 ≤ x.2.2.2.1 ∧ x.2.2.2.1 ≤ (l.length : Int) ∧ fi (fun v => !okV v) l 0 = fi (fun v => !okV v) (l.drop x.2.2.2.1.toNat) x.2.2.2.1) (fun (x : List Int × (Unit × Unit) × Int × Int × Unit) => ((l.length : Int) - x.2.2.2.1).toNat) (x := (l, ((), ()), (l.length : Int), 0, ())) ⟨rfl, rfl, Int.le_refl _, by simp, by simp⟩ ?_
  rintro ⟨x1, u, m, i, _⟩ ⟨h', hm, h0, h1, h2⟩
  simp only at h' hm h0 h1 h2
  subst h'; subst hm
  refine Round.ite (fun hlt => ?_) (fun hge => ?_)
  · have hlt : i < (x1.length : Int) := of_decide_eq_true hlt
    obtain ⟨v, hv, hv'⟩ := idx_at h0 hlt
    have hd := drop_cons hv'
    refine Round.at hv (Round.bind (e114 _) (Round.ite (fun hb => ?_) (fun hb => ?_)))
    · have hb : okV v = false := by simpa using hb
      have h3 : fi (fun v => !okV v) x1 0 = i := by rw [h2, hd]; simp [fi, hb]
      rw [h3]
      exact Round.done (Evt.some _)
    · have hb : okV v = true := by simpa using hb
      have hw : wr .i64 (i + 1) = i + 1 := wrap_id (by omega) (by omega)
      refine Round.again _ ⟨⟨rfl, rfl, ?_, ?_, ?_⟩, ?_⟩ <;> simp only [hw]
      · omega
      · omega
      · rw [h2, hd, show (i + 1).toNat = i.toNat + 1 by omega]
        simp [fi, hb]
      · omega
  · have hge : ¬ i < (x1.length : Int) := by simpa using hge
    have : x1.drop i.toNat = [] := List.drop_of_length_le (by omega)
    rw [h2, this]
    exact Round.done (Evt.some _)
/- slices.ContainsFunc[impl.Cam,int16]{impl.ValidCam$1} -/
theorem e113 (l : List Int) (hl : (l.length : Int) ≤ 140737488351232) : Evt (fun n => call T C n 113 (l, ((), ()), ())) ((l.any (fun v => !okV v), ()), ()) := by
  refine Evt.next (Evt.bind (e127 l hl) ((Evt.some _).of_eq fun n => ?_)) (fun n => r113 n l ((), ()))
  simp only [fi_any _ l 0 (Int.le_refl _)]
  rfl
/- impl.ValidCam -/
theorem e85 (l : List Int) (hl : (l.length : Int) ≤ 140737488351232) : Evt (fun n => call T C n 85 (l, ())) ((okC l, ()), ()) := by
  refine Evt.next (Evt.bind (e48 l) (Evt.bind (e72 _) ?_)) (fun n => r85 n l)
  refine Evt.ite (fun h => ?_) (fun h => ?_)
  · refine Evt.bind (e113 l hl) ((Evt.some _).of_eq fun n => ?_)
    have h : inR (l.length : Int) 8 360 = true := h
    have : okC l = !l.any (fun v => !okV v) := by simp [okC, h, List.any_eq_not_all_not]
    rw [this]
    rfl
  · refine (Evt.some _).of_eq fun n => ?_
    have h : inR (l.length : Int) 8 360 = false := by simpa using h
    simp [okC, h]
    rfl
/- impl.ValidShafts$1 -/
theorem e120 (s : Sft) (hl : (s.2.2.2.1.length : Int) ≤ 140737488351232) : Evt (fun n => call T C n 120 (s, ())) ((!okS s, ()), ()) := by
  refine Evt.next (Evt.bind (e57 _ _ _) ?_) (fun n => r120 n s)
  refine Evt.ite (fun h => ?_) (fun h => ?_)
  · have h : inR (wr .i64 s.1) 1 60 = false := by simpa using h
    have : okS s = false := by simp [okS, h]
    rw [this]; exact Evt.some _
  · have h1 : inR (wr .i64 s.1) 1 60 = true := by simpa using h
    refine Evt.bind (e57 _ _ _) (Evt.ite (fun h => ?_) (fun h => ?_))
    · have h : inR (wr .i64 s.2.1) 1 60 = false := by simpa using h
      have : okS s = false := by simp [okS, h]
      rw [this]; exact Evt.some _
    · have h2 : inR (wr .i64 s.2.1) 1 60 = true := by simpa using h
      refine Evt.bind (e85 _ hl) (Evt.ite (fun h => ?_) (fun h => ?_))
      · have h : okC s.2.2.2.1 = false := by simpa using h
        have : okS s = false := by simp [okS, h]
        rw [this]; exact Evt.some _
      · have h3 : okC s.2.2.2.1 = true := by simpa using h
        refine Evt.bind (e93 _ _) ((Evt.some _).of_eq fun n => ?_)
        have : okS s = inR (wr .i64 s.2.2.1) 0 (wr .i64 ((s.2.2.2.1.length : Int) - 1)) := by simp [okS, h1, h2, h3]
        rw [this]
        rfl
/- slices.IndexFunc[[]impl.Shaft,impl.Shaft]{impl.ValidShafts$1} -/
theorem e130 (l : List Sft) (hl : Small l) : Evt (fun n => call T C n 130 (l, ((), ()), ())) ((fi (fun v => !okS v) l 0, ()), ()) := by
  refine Evt.next ?_ (fun n => r130 n l ((), ()))
  refine loop_evt (fun (x : List Sft × (Unit × Unit) × Int × Int × Unit) => x.1 = l ∧ x.2.2.1 = (l.length : Int) ∧ 0 ≤ x.2.2.2.1 ∧ x.2.2.2.1 ≤ (l.length : Int) ∧ fi (fun v => !okS v) l 0 = fi (fun v => !okS v) (l.drop x.2.2.2.1.toNat) x.2.2.2.1) (fun (x : List Sft × (Unit × Unit) × Int × Int × Unit) => ((l.length : Int) - x.2.2.2.1).toNat) (x := (l, ((), ()), (l.length : Int), 0, ())) ⟨rfl, rfl, Int.le_refl _, by simp, by simp⟩ ?_
  rintro ⟨x1, u, m, i, _⟩ ⟨h', hm, h0, h1, h2⟩
  simp only at h' hm h0 h1 h2
  subst h'; subst hm
  have hl1 := hl.1
  refine Round.ite (fun hlt => ?_) (fun hge => ?_)
  · have hlt : i < (x1.length : Int) := of_decide_eq_true hlt
    obtain ⟨v, hv, hv'⟩ := idx_at h0 hlt
    have hd := drop_cons hv'
    refine Round.at hv (Round.bind (e120 _ (hl.get hv')) (Round.ite (fun hb => ?_) (fun hb => ?_)))
    · have hb : okS v = false := by simpa using hb
      have h3 : fi (fun v => !okS v) x1 0 = i := by rw [h2, hd]; simp [fi, hb]
      rw [h3]
      exact Round.done (Evt.some _)
    · have hb : okS v = true := by simpa using hb
      have hw : wr .i64 (i + 1) = i + 1 := wrap_id (by omega) (by omega)
      refine Round.again _ ⟨⟨rfl, rfl, ?_, ?_, ?_⟩, ?_⟩ <;> simp only [hw]
      · omega
      · omega
      · rw [h2, hd, show (i + 1).toNat = i.toNat + 1 by omega]
        simp [fi, hb]
      · omega
  · have hge : ¬ i < (x1.length : Int) := by simpa using hge
    have : x1.drop i.toNat = [] := List.drop_of_length_le (by omega)
    rw [h2, this]
    exact Round.done (Evt.some _)
/- slices.ContainsFunc[[]impl.Shaft,impl.Shaft]{impl.ValidShafts$1} -/
theorem e119 (l : List Sft) (hl : Small l) : Evt (fun n => call T C n 119 (l, ((), ()), ())) ((l.any (fun v => !okS v), ()), ()) := by
  refine Evt.next (Evt.bind (e130 l hl) ((Evt.some _).of_eq fun n => ?_)) (fun n => r119 n l ((), ()))
  simp only [fi_any _ l 0 (Int.le_refl _)]
  rfl
/- impl.ValidShafts -/
theorem e102 (l : List Sft) (hl : Small l) : Evt (fun n => call T C n 102 (l, ())) ((okA l, ()), ()) := by
  refine Evt.next (Evt.bind (e57 _ _ _) ?_) (fun n => r102 n l)
  refine Evt.ite (fun h => ?_) (fun h => ?_)
  · refine Evt.bind (e119 l hl) ((Evt.some _).of_eq fun n => ?_)
    have h : inR (l.length : Int) 1 6 = true := h
    have : okA l = !l.any (fun v => !okS v) := by simp [okA, h, List.any_eq_not_all_not]
    rw [this]
    rfl
  · refine (Evt.some _).of_eq fun n => ?_
    have h : inR (l.length : Int) 1 6 = false := by simpa using h
    simp [okA, h]
    rfl
/- impl.codeIf -/
theorem e96 (c : Bool) (v : Int) : Evt (fun n => call T C n 96 (c, v, ())) (((if c = true then v else 0), ()), ()) := by
  refine Evt.next ?_ (fun n => r96 n c v)
  cases c with
  | true => exact Evt.yes rfl (Evt.some _)
  | false => exact Evt.no (by simp) (Evt.some _)
/- impl.firstCode -/
theorem e95 (l : List Int) (hl : (l.length : Int) ≤ 140737488351232) : Evt (fun n => call T C n 95 (l, ())) ((fst0 l, ()), ()) := by
  refine Evt.next ?_ (fun n => r95 n l)
  refine loop_evt (fun (x : List Int × Int × Int × Unit) => x.1 = l ∧ x.2.1 = (l.length : Int) ∧ 0 ≤ x.2.2.1 ∧ x.2.2.1 ≤ (l.length : Int) ∧ fst0 l = fst0 (l.drop x.2.2.1.toNat)) (fun (x : List Int × Int × Int × Unit) => ((l.length : Int) - x.2.2.1).toNat) (x := (l, (l.length : Int), 0, ())) ⟨rfl, rfl, Int.le_refl _, by simp, by simp⟩ ?_
  rintro ⟨x1, m, i, _⟩ ⟨h', hm, h0, h1, h2⟩
  simp only at h' hm h0 h1 h2
  subst h'; subst hm
  refine Round.ite (fun hlt => ?_) (fun hge => ?_)
  · have hlt : i < (x1.length : Int) := of_decide_eq_true hlt
    obtain ⟨v, hv, hv'⟩ := idx_at h0 hlt
    have hd := drop_cons hv'
    refine Round.at hv (Round.ite (fun hb => ?_) (fun hb => ?_))
    · have hb : v ≠ 0 := by simpa using hb
      have h3 : fst0 x1 = v := by rw [h2, hd]; simp [fst0, hb]
      rw [h3]
      exact Round.done (Evt.some _)
    · have hb : v = 0 := by simpa using hb
      have hw : wr .i64 (i + 1) = i + 1 := wrap_id (by omega) (by omega)
      refine Round.again _ ⟨⟨rfl, rfl, ?_, ?_, ?_⟩, ?_⟩ <;> simp only [hw]
      · omega
      · omega
      · rw [h2, hd, show (i + 1).toNat = i.toNat + 1 by omega]
        simp [fst0, hb]
      · omega
  · have hge : ¬ i < (x1.length : Int) := by simpa using hge
    have : x1.drop i.toNat = [] := List.drop_of_length_le (by omega)
    rw [h2, this]
    exact Round.done (Evt.some _)
/- impl.common -/
theorem e122 (a b : Nat) : Evt (fun n => call T C n 122 ((a : Int), (b : Int), ())) ((((Nat.gcd a b : Nat) : Int), ()), ()) := by
  refine Evt.next ?_ (fun n => r122 n a b)
  refine loop_evt (fun (x : Int × Int × Unit) => ∃ p q : Nat, x = ((p : Int), (q : Int), ()) ∧ Nat.gcd p q = Nat.gcd a b) (fun (x : Int × Int × Unit) => x.2.1.toNat) (x := ((a : Int), (b : Int), ())) ⟨a, b, rfl, rfl⟩ ?_
  rintro x ⟨p, q, rfl, hg⟩
  refine Round.ite (fun h => ?_) (fun h => ?_)
  · have h : q ≠ 0 := by simpa using h
    refine Round.chk (by simpa using h) ?_
    refine Round.again _ ⟨⟨q, p % q, ?_, ?_⟩, ?_⟩
    · simp only [Int.ofNat_tmod]
    · rw [← hg, Nat.gcd_comm p q, Nat.gcd_rec q p, Nat.gcd_comm]
    · show (Int.tmod (p : Int) (q : Int)).toNat < ((q : Int)).toNat
      rw [← Int.ofNat_tmod]
      have := Nat.mod_lt p (show q > 0 by omega)
      omega
  · have h : q = 0 := by simpa using h
    subst h
    rw [← hg, Nat.gcd_zero_right]
    exact Round.done (Evt.some _)
theorem e122' {a b : Int} (ha : 0 ≤ a) (hb : 0 ≤ b) : Evt (fun n => call T C n 122 (a, b, ())) ((gg a b, ()), ()) := by
  have := e122 a.toNat b.toNat
  rw [show ((a.toNat : Nat) : Int) = a by omega, show ((b.toNat : Nat) : Int) = b by omega] at this
  exact this
/- (impl.Shaft).period -/
theorem e121 {s : Sft} (h : Good s) : Evt (fun n => call T C n 121 (s, ())) ((own s, ()), ()) := by
  have h1 := dl_eq h
  have hg := gg_pos (a := dl s) (b := wr .i64 s.1) (by omega)
  refine Evt.next (Evt.bind (e48 _) (Evt.bind (e122' (a := dl s) (by omega) (by have := h.num; omega)) (Evt.chk ?_ (Evt.some _)))) (fun n => r121 n s)
  exact bne_pos hg
/- impl.periodOf -/
theorem e103 (l : List Sft) (hok : okA l = true) : Evt (fun n => call T C n 103 (l, ())) (perR l, ()) := by
  have hG := okA_good hok
  refine Evt.next ?_ (fun n => r103 n l)
  refine loop_evt (fun (x : Int × List Sft × Int × Int × Unit) => x.2.1 = l ∧ x.2.2.1 = (l.length : Int) ∧ 1 ≤ x.1 ∧ x.1 ≤ 20000 ∧ 0 ≤ x.2.2.2.1 ∧ x.2.2.2.1 ≤ (l.length : Int) ∧ per l 1 = per (l.drop x.2.2.2.1.toNat) x.1) (fun (x : Int × List Sft × Int × Int × Unit) => ((l.length : Int) - x.2.2.2.1).toNat) (x := (1, l, (l.length : Int), 0, ())) ⟨rfl, rfl, by simp, by simp, by simp, by simp, by simp⟩ ?_
  rintro ⟨t, x1, m, i, _⟩ ⟨h', hm, t0, t1, h0, h1, h2⟩
  simp only at h' hm t0 t1 h0 h1 h2
  subst h'; subst hm
  refine Round.ite (fun hlt => ?_) (fun hge => ?_)
  · have hlt : i < (x1.length : Int) := of_decide_eq_true hlt
    obtain ⟨v, hv, hv'⟩ := idx_at h0 hlt
    have hd := drop_cons hv'
    have hgv := hG.2 v (List.mem_of_getElem? hv')
    have ho := own_eq hgv
    have hg := gg_pos (a := t) (b := own v) (by omega)
    refine Round.at hv (Round.bind (e121 hgv) (Round.bind (e122' (a := t) (b := own v) (by omega) (by omega)) (Round.chk (bne_pos hg) ?_)))
    refine Round.ite (fun hb => ?_) (fun hb => ?_)
    · have hb : nxt t v > 20000 := of_decide_eq_true hb
      have h3 : per x1 1 = none := by rw [h2, hd]; simp [per, hb]
      unfold perR
      rw [h3]
      exact Round.done (Evt.some _)
    · have hb : ¬ nxt t v > 20000 := by simpa [nxt] using hb
      have hw : wr .i64 (i + 1) = i + 1 := wrap_id (by omega) (by omega)
      have hp := nxt_pos hgv t0 t1
      refine Round.again _ ⟨⟨rfl, rfl, hp, by show nxt t v ≤ 20000; omega, ?_, ?_, ?_⟩, ?_⟩ <;> simp only [hw]
      · omega
      · omega
      · rw [h2, hd, show (i + 1).toNat = i.toNat + 1 by omega]
        simp only [per]
        rw [if_neg hb]
        rfl
      · omega
  · have hge : ¬ i < (x1.length : Int) := by simpa using hge
    have : x1.drop i.toNat = [] := List.drop_of_length_le (by omega)
    have h3 : per x1 1 = some t := by rw [h2, this]; rfl
    unfold perR
    rw [h3]
    exact Round.done (Evt.some _)
/- impl.shaftsCode -/
theorem e53 (l : List Sft) (hl : Small l) (room : Bool) : Evt (fun n => call T C n 53 (l, room, ())) (codeR l room, ()) := by
  refine Evt.next (Evt.bind (e102 l hl) (Evt.bind (e96 _ _) (Evt.bind (e96 _ _) (Evt.bind (e95 _ (by simp)) ?_)))) (fun n => r53 n l room)
  unfold codeR
  cases hok : okA l with
  | false =>
    refine Evt.yes (by simp [fst0]) ((Evt.some _).of_eq fun n => ?_)
    simp [fst0]
    rfl
  | true =>
    cases room with
    | false =>
      refine Evt.yes (by simp [fst0]) ((Evt.some _).of_eq fun n => ?_)
      simp [fst0]
      rfl
    | true =>
      refine Evt.no (by simp [fst0]) (Evt.bind (e103 l hok) (Evt.bind (e96 _ _) ((Evt.some _).of_eq fun n => ?_)))
      unfold perR allR
      cases per l 1 <;> rfl
/- impl.pairCodeOn -/
theorem e47 (l : List Sft) (hl : Small l) (i k a : Int) : Evt (fun n => call T C n 47 (l, i, k, a, ())) (((codeR l (isAt l i && isAt l k && inR a 0 20000)).1, (if (codeR l (isAt l i && isAt l k && inR a 0 20000)).2.1 ≠ (0 : Int) then (codeR l (isAt l i && isAt l k && inR a 0 20000)).2.1 else if i = k then 4 else 0), ()), ()) := by
  have rest : ∀ b : Bool, Evt (fun n => (call T C n 53 (l, b, ())).bind fun r => (call T C n 96 ((i == k), 4, ())).bind fun r' => (call T C n 95 ([r.1.2.1, r'.1.1], ())).bind fun r'' => some ((r.1.1, r''.1.1, ()), ())) (((codeR l b).1, (if (codeR l b).2.1 ≠ (0 : Int) then (codeR l b).2.1 else if i = k then 4 else 0), ()), ()) := by
    intro b
    refine Evt.bind (e53 l hl b) (Evt.bind (e96 _ _) (Evt.bind (e95 _ (by simp)) ((Evt.some _).of_eq fun n => ?_)))
    simp only [fst0, beq_iff_eq]
    by_cases h : (codeR l b).2.1 = (0 : Int) <;> by_cases e : i = k <;> simp [h, e] <;> rfl
  refine Evt.next (Evt.bind (e93 _ _) ?_) (fun n => r47 n l i k a)
  show Evt (fun n => if isAt l i = true then _ else _) _
  cases isAt l i with
  | false => exact Evt.no (by simp) (rest false)
  | true =>
    refine Evt.yes rfl (Evt.bind (e93 _ _) ?_)
    show Evt (fun n => if isAt l k = true then _ else _) _
    cases isAt l k with
    | false => exact Evt.no (by simp) (rest false)
    | true => exact Evt.yes rfl (Evt.bind (e94 _) (rest (inR a 0 20000)))
/- (impl.Shaft).step -/
theorem e118 {s : Sft} (h : Good s) (t : Int) {p : Int} (h0 : 0 ≤ p) (h1 : p ≤ 360) : Evt (fun n => call T C n 118 (s, t, p, ())) ((stp (withP s p) t, ()), ()) := by
  refine Evt.next (Evt.chk (den_ne h) (Evt.bind (e48 _) (Evt.chk (len_ne h) ((Evt.some _).of_eq fun n => ?_)))) (fun n => r118 n s t p)
  unfold stp withP
  simp only [wrap_id (x := p) (by omega) (by omega)]
  rfl
/- (impl.Shaft).lift -/
theorem e98 {s : Sft} (h : Good s) {t : Int} (h0 : 0 ≤ t) (h1 : t ≤ 20000) {p : Int} (p0 : 0 ≤ p) (p1 : p ≤ 360) : Evt (fun n => call T C n 98 (s, t, p, ())) ((lift (withP s p) t, ()), ()) := by
  obtain ⟨⟨v, hv, he⟩, _⟩ := lift_eq (h.withP p0 p1) h0 h1
  rw [he]
  refine Evt.next (Evt.bind (e118 h t p0 p1) ?_) (fun n => r98 n s t p)
  exact Evt.at hv (Evt.some ((wr .i64 v, ()), ()))
/- (impl.Shaft).now -/
theorem e97 {s : Sft} (h : Good s) {t : Int} (h0 : 0 ≤ t) (h1 : t ≤ 20000) : Evt (fun n => call T C n 97 (s, t, ())) ((lift s t, ()), ()) := by
  have e := e98 h h0 h1 (p := wr .i64 s.2.2.1) h.ph.1 h.ph.2
  rw [lift_wr h t] at e
  exact Evt.next (Evt.bind e (Evt.some _)) (fun n => r97 n s t)
/- impl.clashes -/
theorem e49 {s u : Sft} (hs : Good s) (hu : Good u) {p : Int} (p0 : 0 ≤ p) (p1 : p ≤ 360) {t : Int} (t0 : 0 ≤ t) (t1 : t ≤ 20000) (a : Int) : Evt (fun n => call T C n 49 (s, u, p, a, t, ())) ((cnt s (withP u p) a t.toNat, ()), ()) := by
  refine Evt.next ?_ (fun n => r49 n s u p a t)
  refine for_evt 0 t (fun i (_ : Unit) => (p, a, s, u, cnt s (withP u p) a i.toNat, t, i, ())) (fun _ _ => True) (b0 := ()) t0 trivial ?_ ?_
  · intro i _ h0 h1 _
    have hc := cnt_le s (withP u p) a i.toNat
    have l1 := (lift_eq hs h0 (show i ≤ 20000 by omega)).2
    have l2 := (lift_eq (hu.withP p0 p1) h0 (show i ≤ 20000 by omega)).2
    refine Round.yes (by simp [h1]) (Round.bind (e97 hs h0 (show i ≤ 20000 by omega)) (Round.bind (e98 hu h0 (show i ≤ 20000 by omega) p0 p1) ?_))
    simp only [wrap_id (x := lift s i + lift (withP u p) i) (by omega) (by omega)]
    refine Round.ite (fun h => ?_) (fun h => ?_)
    · have h : lift s i + lift (withP u p) i > a := of_decide_eq_true h
      refine Round.again _ ⟨(), ?_, trivial⟩
      rw [cnt_step s (withP u p) a h0, if_pos h, wr_succ h0 h1 (by omega), wrap_id (x := cnt s (withP u p) a i.toNat + 1) (by omega) (by omega)]
    · have h : ¬ lift s i + lift (withP u p) i > a := by simpa using h
      refine Round.again _ ⟨(), ?_, trivial⟩
      rw [cnt_step s (withP u p) a h0, if_neg h, wr_succ h0 h1 (by omega)]
  · intro _ _
    exact Round.no (by simp) (Round.done (Evt.some _))
/- impl.BestPhase -/
theorem e16 (l : List Sft) (hl : Small l) (i k a : Int) : Evt (fun n => call T C n 16 (l, i, k, a, ())) (bestR l i k a, ()) := by
  refine Evt.next (Evt.bind (e47 l hl i k a) ?_) (fun n => r16 n l i k a)
  unfold bestR
  by_cases h : (codeR l (isAt l i && isAt l k && inR a 0 20000)).2.1 = (0 : Int)
  · have h' : ¬ (codeR l (isAt l i && isAt l k && inR a 0 20000)).2.1 ≠ (0 : Int) := by simpa using h
    simp only [if_neg h']
    by_cases e : i = k
    · simp only [if_pos e]
      exact Evt.yes (by decide) (Evt.some _)
    · simp only [if_neg e]
      obtain ⟨hok, hp0, hp1⟩ := code_ok h
      have hb := codeR_room h
      simp only [Bool.and_eq_true, isAt_iff hok] at hb
      obtain ⟨s, hs⟩ := at_of hb.1.1.1 hb.1.1.2
      obtain ⟨u, hu⟩ := at_of hb.1.2.1 hb.1.2.2
      have hG := (okA_good hok).2
      have hul := (hG u hu.mem).len
      refine Evt.no (by decide) ?_
      generalize (codeR l (isAt l i && isAt l k && inR a 0 20000)).1 = p at hp0 hp1
      change Int at p
      have hp0 : (0 : Int) ≤ p := hp0
      have hp1 : p ≤ (20000 : Int) := hp1
      rw [hs.idx, hu.idx]
      refine Evt.at rfl (Evt.bind (e48 _) ?_)
      refine for_evt' 0 (u.2.2.2.1.length : Int) (fun j (_ : Unit) => (l, i, k, a, p, (bst s u a p j.toNat).1, (bst s u a p j.toNat).2, (u.2.2.2.1.length : Int), j, ())) (fun _ _ => True) (b0 := ()) (by rw [wrap_id (by omega) (by omega)]; rfl) (by omega) trivial ?_ ?_
      · intro j _ h2 h3 _
        have hc := cnt_le s (withP u j) a p.toNat
        simp only [wr_succ h2 h3 (by omega)]
        refine Round.yes (decide_eq_true h3) (Round.at hs.idx (Round.at hu.idx (Round.bind (e49 (hG s hs.mem) (hG u hu.mem) h2 (by omega) hp0 hp1 a) ?_)))
        refine Round.ite (fun hb => ?_) (fun hb => ?_)
        · have hb : cnt s (withP u j) a p.toNat < (bst s u a p j.toNat).2 := of_decide_eq_true hb
          refine Round.again _ ⟨(), ?_, trivial⟩
          rw [bst_step s u a p h2, if_pos hb]
        · have hb : ¬ cnt s (withP u j) a p.toNat < (bst s u a p j.toNat).2 := by simpa using hb
          refine Round.again _ ⟨(), ?_, trivial⟩
          rw [bst_step s u a p h2, if_neg hb]
      · intro _ _
        exact Round.no (by simp) (Round.done (Evt.some _))
  · simp only [if_pos h]
    exact Evt.yes (by simpa using h) (Evt.some _)
/- laws.eqCam -/
theorem e42 (l : List Int) (hl : (l.length : Int) ≤ 140737488351232) : Evt (fun n => call T C n 42 (l, l, ())) ((true, ()), ()) := by
  refine Evt.next (Evt.no (by simp) ?_) (fun n => r42 n l l)
  refine for_evt 0 (l.length : Int) (fun i (_ : Unit) => (l, l, i, ())) (fun _ _ => True) (b0 := ()) (by omega) trivial ?_ ?_
  · intro i _ h2 h3 _
    obtain ⟨v, hv⟩ := at_of h2 h3
    refine Round.yes (decide_eq_true h3) (Round.at hv.idx (Round.at hv.idx (Round.no (by simp) (Round.again _ ⟨(), ?_, trivial⟩))))
    rw [wr_succ h2 h3 (by omega)]
  · intro _ _
    exact Round.no (by simp) (Round.done (Evt.some _))
/- laws.eqShaft -/
theorem e50 (s : Sft) (hl : (s.2.2.2.1.length : Int) ≤ 140737488351232) : Evt (fun n => call T C n 50 (s, s, ())) ((true, ()), ()) :=
  Evt.next (Evt.no (by simp) (Evt.no (by simp) (Evt.no (by simp) (Evt.bind (e42 _ hl) (Evt.no (by simp) (Evt.some _)))))) (fun n => r50 n s s)
/- laws.eqShaftS -/
theorem e17 (l : List Sft) (hl : Small l) : Evt (fun n => call T C n 17 (l, l, ())) ((true, ()), ()) := by
  have hl1 := hl.1
  refine Evt.next (Evt.no (by simp) ?_) (fun n => r17 n l l)
  refine loop_evt (fun (x : List Sft × List Sft × Int × Unit) => x.1 = l ∧ x.2.1 = l ∧ 0 ≤ x.2.2.1 ∧ x.2.2.1 ≤ (l.length : Int)) (fun (x : List Sft × List Sft × Int × Unit) => ((l.length : Int) - x.2.2.1).toNat) (x := (l, l, 0, ())) ⟨rfl, rfl, Int.le_refl _, by simp⟩ ?_
  rintro ⟨x1, x2, i, _⟩ ⟨h', h'', h0, h1⟩
  simp only at h' h'' h0 h1
  subst h'; subst h''
  refine Round.ite (fun hlt => ?_) (fun hge => ?_)
  · have hlt : i < (x2.length : Int) := of_decide_eq_true hlt
    obtain ⟨v, hv, hv'⟩ := idx_at h0 hlt
    have hw : wr .i64 (i + 1) = i + 1 := wrap_id (by omega) (by omega)
    refine Round.at hv (Round.at hv (Round.bind (e50 v (hl.get hv')) (Round.no (by simp) (Round.again _ ⟨⟨rfl, rfl, ?_, ?_⟩, ?_⟩)))) <;> simp only [hw] <;> omega
  · exact Round.done (Evt.some _)
/- laws.FnExactBestPhase -/
theorem e4 (l : List Sft) (i k a : Int) (hd : DomA (C 4).params (l, i, k, a, ())) : Evt (fun n => call T C n 4 (l, i, k, a, ())) ((true, ()), ()) := by
  have h1 := shaftsDom1 (l := l) hd.1
  have h2 := shaftsDom2 (l := l) hd.1
  have hS : Small l := ⟨by omega, fun s hs => by have := h2 s hs; omega⟩
  refine Evt.next (Evt.bind (e13 l hS 1048576) (Evt.ite (fun _ => Evt.some _) (fun _ => ?_))) (fun n => r4 n l i k a)
  refine Evt.bind (e15 l h1 h2) (Evt.bind (e14 l hS i k a) (Evt.bind (e15 l h1 h2) (Evt.bind (e16 l hS i k a) ?_)))
  refine Evt.no (by simp) (Evt.no (by simp) (Evt.no (by simp) (Evt.bind (e15 l h1 h2) (Evt.bind (e17 l hS) (Evt.no (by simp) (Evt.some _))))))

end Go.Cams.YtkcapecjamijaaaLBestPhase
