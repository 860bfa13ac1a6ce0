/- What the functions that the law reaches come to. -/
import Derived.Test.YtgmkcekfpmdhoaaRPf
import Derived.Test.YtgmkcekfpmdhoaaPuAll
namespace Go.Cams.YtgmkcekfpmdhoaaLPf
open Go Go.Fw Go.Proofs Go.Proofs.Ytgmkcekfpmdhoaa.LPf
/- laws.szCam -/
theorem e53 (l : List Int) (a : Int) : Evt (fun n => call T C n 53 (l, a, ())) ((sz1 l a, ()), ()) := by
  refine Evt.next ?_ (fun n => r53 n l a)
  unfold sz1
  refine Evt.ite (fun h => ?_) (fun h => ?_)
  · rw [if_pos (of_decide_eq_true h)]; exact Evt.some _
  · rw [if_neg (by simpa using h)]; exact Evt.some _
/- laws.szShaft -/
theorem e26 (s : Sft) (a : Int) : Evt (fun n => call T C n 26 (s, a, ())) ((sz s a, ()), ()) := by
  refine Evt.next (Evt.bind (e53 _ a) ?_) (fun n => r26 n s a)
  unfold sz
  refine Evt.ite (fun h => ?_) (fun h => ?_)
  · rw [if_pos (of_decide_eq_true h)]; exact Evt.some _
  · rw [if_neg (by simpa using h)]; exact Evt.some _
/- laws.szShaftS -/
theorem e5 (l : List Sft) (hl : Small l) (a : Int) : Evt (fun n => call T C n 5 (l, a, ())) ((szS l a, ()), ()) := by
  have hl1 := hl.1
  unfold szS
  refine Evt.next ?_ (fun n => r5 n l a)
  refine Evt.ite (fun h => ?_) (fun h => ?_)
  · rw [if_pos (of_decide_eq_true h)]; exact Evt.some _
  · rw [if_neg (by simpa using h)]
    generalize wr .i64 (a - (l.length : Int)) = b
    refine loop_evt (fun (x : List Sft × Int × Int × Unit) => x.1 = l ∧ 0 ≤ x.2.2.1 ∧ x.2.2.1 ≤ (l.length : Int) ∧ szf l b = szf (l.drop x.2.2.1.toNat) x.2.1) (fun (x : List Sft × Int × Int × Unit) => ((l.length : Int) - x.2.2.1).toNat) (x := (l, b, 0, ())) ⟨rfl, Int.le_refl _, by simp, by simp⟩ ?_
    rintro ⟨x1, c, i, _⟩ ⟨h', h0, h1, h2⟩
    simp only at h' h0 h1 h2
    subst h'
    refine Round.ite (fun hlt => ?_) (fun hge => ?_)
    · have hlt : i < (x1.length : Int) := of_decide_eq_true hlt
      obtain ⟨v, hv, hv'⟩ := idx_at h0 hlt
      have hd := drop_cons hv'
      have hw : wr .i64 (i + 1) = i + 1 := wrap_id (by omega) (by omega)
      refine Round.at hv (Round.bind (e26 v c) (Round.ite (fun hb => ?_) (fun hb => ?_)))
      · have hb : sz v c < 0 := of_decide_eq_true hb
        have h3 : szf x1 b = -1 := by rw [h2, hd]; simp [szf, hb]
        rw [h3]
        exact Round.done (Evt.some _)
      · have hb : ¬ sz v c < 0 := by simpa using hb
        refine Round.again _ ⟨⟨rfl, ?_, ?_, ?_⟩, ?_⟩ <;> simp only [hw]
        · omega
        · omega
        · rw [h2, hd, show (i + 1).toNat = i.toNat + 1 by omega]
          simp only [szf]
          rw [if_neg hb]
        · omega
    · have hge : ¬ i < (x1.length : Int) := by simpa using hge
      have : x1.drop i.toNat = [] := List.drop_of_length_le (by omega)
      rw [h2, this]
      exact Round.done (Evt.some _)
/- laws.toCam -/
theorem e57 (l : List Int) (hl : (l.length : Int) * 2 ≤ 140737488351232) : Evt (fun n => call T C n 57 (l, ())) ((l, ()), ()) := by
  refine Evt.next (Evt.chk (by simp; omega) ?_) (fun n => r57 n l)
  refine for_evt 0 (l.length : Int) (fun i (b : List Int) => (l, b, i, ())) (fun i b => b.length = l.length ∧ b.take i.toNat = l.take i.toNat) (b0 := List.replicate (Int.toNat (l.length : Int)) 0) (by omega) ⟨by simp, by simp⟩ ?_ ?_
  · intro i b h2 h3 ⟨hb, ht⟩
    have hi : i < (b.length : Int) := by omega
    obtain ⟨v, hv⟩ := at_of h2 h3
    obtain ⟨u, hu⟩ := get_of_lt h2 hi
    refine Round.yes (decide_eq_true h3) (Round.at hv.idx (Round.chk (chk_at h2 hi) (Round.at hu (Round.again _ ⟨b.set i.toNat v, ?_, by simpa using hb, ?_⟩))))
    · rw [wr_succ h2 h3 (by omega)]
    · rw [take_set_succ h2 hi, ht, hv.take]
  · intro b ⟨hb, ht⟩
    have e : b = l := by rw [← take_all b, hb, ht]; simp
    rw [e]
    exact Round.no (by simp) (Round.done (Evt.some _))
/- laws.toShaft -/
theorem e31 (s : Sft) (hl : (s.2.2.2.1.length : Int) * 2 ≤ 140737488351232) : Evt (fun n => call T C n 31 (s, ())) ((s, ()), ()) := by
  obtain ⟨a, b, c, d, u⟩ := s
  exact Evt.next (Evt.bind (e57 d hl) (Evt.some _)) (fun n => r31 n _)
/- laws.toShaftS -/
theorem e7 (l : List Sft) (hl : (l.length : Int) * 32 ≤ 140737488351232) (hc : ∀ s ∈ l, (s.2.2.2.1.length : Int) * 2 ≤ 140737488351232) : Evt (fun n => call T C n 7 (l, ())) ((l, ()), ()) := by
  refine Evt.next (Evt.chk (by simp; omega) ?_) (fun n => r7 n l)
  refine loop_evt (fun (x : List Sft × List Sft × Int × Unit) => x.1 = l ∧ 0 ≤ x.2.2.1 ∧ x.2.2.1 ≤ (l.length : Int) ∧ x.2.1 = l.take x.2.2.1.toNat ++ List.replicate (l.length - x.2.2.1.toNat) (0, 0, 0, [], ())) (fun (x : List Sft × List Sft × Int × Unit) => ((l.length : Int) - x.2.2.1).toNat) (x := (l, List.replicate (Int.toNat (l.length : Int)) (0, 0, 0, [], ()), 0, ())) ⟨rfl, Int.le_refl _, by simp, by simp⟩ ?_
  rintro ⟨x1, m, i, _⟩ ⟨h', h0, h1, hm⟩
  simp only at h' h0 h1 hm
  subst h'
  have hml : m.length = x1.length := by rw [hm]; simp; omega
  refine Round.ite (fun hlt => ?_) (fun hge => ?_)
  · have hlt : i < (x1.length : Int) := of_decide_eq_true hlt
    obtain ⟨v, hv, hv'⟩ := idx_at h0 hlt
    have hw : wr .i64 (i + 1) = i + 1 := wrap_id (by omega) (by omega)
    obtain ⟨u, hu⟩ : ∃ u, m[i.toNat]? = some u := ⟨m[i.toNat]'(by omega), by simp⟩
    refine Round.at hv (Round.bind (e31 v (hc v (List.mem_of_getElem? hv'))) (Round.chk (by simp [hml]; omega) (Round.at hu (Round.again _ ⟨⟨rfl, ?_, ?_, ?_⟩, ?_⟩)))) <;> simp only [hw]
    · omega
    · omega
    · rw [hm, show (i + 1).toNat = i.toNat + 1 by omega]
      exact set_take hv'
    · omega
  · have hge : ¬ i < (x1.length : Int) := by simpa using hge
    have e : i.toNat = x1.length := by omega
    have : m = x1 := by rw [hm, e]; simp
    rw [this]
    exact Round.done (Evt.some _)
/- spec.l00In -/
theorem e28 (a b c : Int) : Evt (fun n => call T C n 28 (a, b, c, ())) ((inR a b c, ()), ()) := by
  refine Evt.next ?_ (fun n => r28 n a b c)
  refine Evt.ite (fun h => ?_) (fun h => ?_)
  · refine (Evt.some _).of_eq fun n => ?_
    have h : b ≤ a := of_decide_eq_true h
    simp [inR, h]
    rfl
  · refine (Evt.some _).of_eq fun n => ?_
    have h : ¬ b ≤ a := by simpa using h
    simp [inR, h]
    rfl
/- spec.l01Steps -/
theorem e71 (a : Int) : Evt (fun n => call T C n 71 (a, ())) ((inR a 8 360, ()), ()) := Evt.next (Evt.bind (e28 a 8 360) (Evt.some _)) (fun n => r71 n a)
/- spec.l01Lift -/
theorem e72 (a : Int) : Evt (fun n => call T C n 72 (a, ())) ((inR a 0 10000, ()), ()) := Evt.next (Evt.bind (e28 a 0 10000) (Evt.some _)) (fun n => r72 n a)
/- spec.l01Ok -/
theorem e54 (l : List Int) (hl : (l.length : Int) ≤ 140737488351232) : Evt (fun n => call T C n 54 (l, ())) ((okC l, ()), ()) := by
  refine Evt.next ?_ (fun n => r54 n l)
  refine Evt.bind (e71 _) ?_
  refine Evt.ite (fun h => ?_) (fun h => ?_)
  · refine (Evt.some _).of_eq fun n => ?_
    have h : inR (l.length : Int) 8 360 = false := by simpa using h
    simp [okC, h]
    rfl
  · have h : inR (l.length : Int) 8 360 = true := by simpa using h
    have he : okC l = l.all okV := by simp [okC, h]
    rw [he]
    refine loop_evt (fun (x : List Int × Int × Unit) => x.1 = l ∧ 0 ≤ x.2.1 ∧ x.2.1 ≤ (l.length : Int) ∧ l.all okV = (l.drop x.2.1.toNat).all okV) (fun (x : List Int × Int × Unit) => ((l.length : Int) - x.2.1).toNat) (x := (l, 0, ())) ⟨rfl, Int.le_refl _, by simp, by simp⟩ ?_
    rintro ⟨x1, i, _⟩ ⟨h', h0, h1, h2⟩
    simp only at h' h0 h1 h2
    subst h'
    refine Round.ite (fun hlt => ?_) (fun hge => ?_)
    · have hlt : i < (x1.length : Int) := of_decide_eq_true hlt
      obtain ⟨v, hv, hv'⟩ := idx_at h0 hlt
      have hd := drop_cons hv'
      refine Round.at hv (Round.bind (e72 _) (Round.ite (fun hb => ?_) (fun hb => ?_)))
      · have hb : okV v = false := by simpa [okV] using hb
        have h3 : x1.all okV = false := by rw [h2, hd]; simp [hb]
        rw [h3]
        exact Round.done (Evt.some _)
      · have hb : okV v = true := by simpa [okV] using hb
        have hw : wr .i64 (i + 1) = i + 1 := wrap_id (by omega) (by omega)
        refine Round.again _ ⟨⟨rfl, ?_, ?_, ?_⟩, ?_⟩ <;> simp only [hw]
        · omega
        · omega
        · rw [h2, hd, show (i + 1).toNat = i.toNat + 1 by omega]
          simp [hb]
        · omega
    · have hge : ¬ i < (x1.length : Int) := by simpa using hge
      have : x1.drop i.toNat = [] := List.drop_of_length_le (by omega)
      rw [h2, this]
      exact Round.done (Evt.some _)
/- spec.l04Ok -/
theorem e27 (l : List Sft) (hl : Small l) : Evt (fun n => call T C n 27 (l, ())) ((okA l, ()), ()) := by
  refine Evt.next ?_ (fun n => r27 n l)
  refine Evt.bind (e28 _ _ _) ?_
  refine Evt.ite (fun h => ?_) (fun h => ?_)
  · refine (Evt.some _).of_eq fun n => ?_
    have h : inR (l.length : Int) 1 6 = false := by simpa using h
    simp [okA, h]
    rfl
  · have h : inR (l.length : Int) 1 6 = true := by simpa using h
    have he : okA l = l.all okS := by simp [okA, h]
    rw [he]
    have hl1 := hl.1
    refine loop_evt (fun (x : List Sft × Int × Unit) => x.1 = l ∧ 0 ≤ x.2.1 ∧ x.2.1 ≤ (l.length : Int) ∧ l.all okS = (l.drop x.2.1.toNat).all okS) (fun (x : List Sft × Int × Unit) => ((l.length : Int) - x.2.1).toNat) (x := (l, 0, ())) ⟨rfl, Int.le_refl _, by simp, by simp⟩ ?_
    rintro ⟨x1, i, _⟩ ⟨h', h0, h1, h2⟩
    simp only at h' h0 h1 h2
    subst h'
    refine Round.ite (fun hlt => ?_) (fun hge => ?_)
    · have hlt : i < (x1.length : Int) := of_decide_eq_true hlt
      obtain ⟨v, hv, hv'⟩ := idx_at h0 hlt
      have hd := drop_cons hv'
      have bad : okS v = false → x1.all okS = false := fun hb => by rw [h2, hd]; simp [hb]
      refine Round.at hv (Round.bind (e28 _ _ _) (Round.ite (fun hb => ?_) (fun hb1 => ?_)))
      · have hb : inR (wr .i64 v.1) 1 60 = false := by simpa using hb
        rw [bad (by simp [okS, hb])]
        exact Round.done (Evt.some _)
      refine Round.bind (e28 _ _ _) (Round.ite (fun hb => ?_) (fun hb2 => ?_))
      · have hb : inR (wr .i64 v.2.1) 1 60 = false := by simpa using hb
        rw [bad (by simp [okS, hb])]
        exact Round.done (Evt.some _)
      refine Round.bind (e54 _ (hl.get hv')) (Round.ite (fun hb => ?_) (fun hb3 => ?_))
      · have hb : okC v.2.2.2.1 = false := by simpa using hb
        rw [bad (by simp [okS, hb])]
        exact Round.done (Evt.some _)
      refine Round.bind (e28 _ _ _) (Round.ite (fun hb => ?_) (fun hb4 => ?_))
      · have hb : inR (wr .i64 v.2.2.1) 0 (wr .i64 ((v.2.2.2.1.length : Int) - 1)) = false := by simpa using hb
        rw [bad (by simp [okS, hb])]
        exact Round.done (Evt.some _)
      have hb : okS v = true := by
        simp only [Bool.not_eq_true', Bool.not_eq_false, cond_false] at hb1 hb2 hb3 hb4
        simp [okS, hb1, hb2, hb3, hb4]
      have hw : wr .i64 (i + 1) = i + 1 := wrap_id (by omega) (by omega)
      refine Round.again _ ⟨⟨rfl, ?_, ?_, ?_⟩, ?_⟩ <;> simp only [hw]
      · omega
      · omega
      · rw [h2, hd, show (i + 1).toNat = i.toNat + 1 by omega]
        simp [hb]
      · omega
    · have hge : ¬ i < (x1.length : Int) := by simpa using hge
      have : x1.drop i.toNat = [] := List.drop_of_length_le (by omega)
      rw [h2, this]
      exact Round.done (Evt.some _)
/- spec.l04Index -/
theorem e55 (l : List Sft) (a : Int) : Evt (fun n => call T C n 55 (l, a, ())) ((inR a 0 (wr .i64 ((l.length : Int) - 1)), ()), ()) := Evt.next (Evt.bind (e28 _ _ _) (Evt.some _)) (fun n => r55 n l a)
/- spec.l04Gcd -/
theorem e64 : ∀ (b a : Nat), Evt (fun n => call T C n 64 ((a : Int), (b : Int), ())) ((((Nat.gcd a b : Nat) : Int), ()), ()) := by
  intro b
  induction b using Nat.strongRecOn with
  | ind b ih =>
    intro a
    refine Evt.next ?_ (fun n => r64 n a b)
    refine Evt.ite (fun h => ?_) (fun h => ?_)
    · have h : b = 0 := by simpa using h
      subst h
      rw [Nat.gcd_zero_right]
      exact Evt.some _
    · have h : b ≠ 0 := by simpa using h
      refine Evt.chk (by simpa using h) ?_
      rw [← Int.ofNat_tmod]
      have := ih (a % b) (Nat.mod_lt _ (by omega)) b
      rw [show Nat.gcd a b = Nat.gcd b (a % b) by rw [Nat.gcd_comm a b, Nat.gcd_rec b a, Nat.gcd_comm]]
      exact Evt.bind this (Evt.some _)
theorem e64' {a b : Int} (ha : 0 ≤ a) (hb : 0 ≤ b) : Evt (fun n => call T C n 64 (a, b, ())) ((gg a b, ()), ()) := by
  have := e64 b.toNat a.toNat
  rw [show ((a.toNat : Nat) : Int) = a by omega, show ((b.toNat : Nat) : Int) = b by omega] at this
  exact this
/- spec.l04Own -/
theorem e63 {s : Sft} (h : Good s) : Evt (fun n => call T C n 63 (s, ())) ((own s, ()), ()) := by
  have h1 := dl_eq h
  have hg := gg_pos (a := dl s) (b := wr .i64 s.1) (by omega)
  refine Evt.next (Evt.bind (e64' (a := dl s) (by omega) (by have := h.num; omega)) (Evt.chk ?_ (Evt.some _))) (fun n => r63 n s)
  exact bne_pos hg
/- spec.l04All -/
theorem e40 (l : List Sft) (hl : Small l) (hok : okA l = true) : Evt (fun n => call T C n 40 (l, ())) (allR l, ()) := by
  have hG := okA_good hok
  refine Evt.next (Evt.bind (e27 l hl) ?_) (fun n => r40 n l)
  refine Evt.no (by simp [hok]) ?_
  refine loop_evt (fun (x : List Sft × Int × Int × Unit) => x.1 = l ∧ 1 ≤ x.2.1 ∧ x.2.1 ≤ 20000 ∧ 0 ≤ x.2.2.1 ∧ x.2.2.1 ≤ (l.length : Int) ∧ per l 1 = per (l.drop x.2.2.1.toNat) x.2.1) (fun (x : List Sft × Int × Int × Unit) => ((l.length : Int) - x.2.2.1).toNat) (x := (l, 1, 0, ())) ⟨rfl, by simp, by simp, by simp, by simp, by simp⟩ ?_
  rintro ⟨x1, t, i, _⟩ ⟨h', t0, t1, h0, h1, h2⟩
  simp only at h' t0 t1 h0 h1 h2
  subst h'
  refine Round.ite (fun hlt => ?_) (fun hge => ?_)
  · have hlt : i < (x1.length : Int) := of_decide_eq_true hlt
    obtain ⟨v, hv, hv'⟩ := idx_at h0 hlt
    have hd := drop_cons hv'
    have hgv := hG.2 v (List.mem_of_getElem? hv')
    have ho := own_eq hgv
    have hg := gg_pos (a := t) (b := own v) (by omega)
    refine Round.at hv (Round.bind (e63 hgv) (Round.bind (e64' (a := t) (b := own v) (by omega) (by omega)) (Round.chk (bne_pos hg) ?_)))
    refine Round.ite (fun hb => ?_) (fun hb => ?_)
    · have hb : nxt t v > 20000 := of_decide_eq_true hb
      have h3 : per x1 1 = none := by rw [h2, hd]; simp [per, hb]
      unfold allR
      rw [h3]
      exact Round.done (Evt.some _)
    · have hb : ¬ nxt t v > 20000 := by simpa [nxt] using hb
      have hw : wr .i64 (i + 1) = i + 1 := wrap_id (by omega) (by omega)
      have hp := nxt_pos hgv t0 t1
      refine Round.again _ ⟨⟨rfl, hp, by show nxt t v ≤ 20000; omega, ?_, ?_, ?_⟩, ?_⟩ <;> simp only [hw]
      · omega
      · omega
      · rw [h2, hd, show (i + 1).toNat = i.toNat + 1 by omega]
        simp only [per]
        rw [if_neg hb]
        rfl
      · omega
  · have hge : ¬ i < (x1.length : Int) := by simpa using hge
    have : x1.drop i.toNat = [] := List.drop_of_length_le (by omega)
    have h3 : per x1 1 = some t := by rw [h2, this]; rfl
    unfold allR
    rw [h3]
    exact Round.done (Evt.some _)
theorem e40' (l : List Sft) (hl : Small l) : Evt (fun n => call T C n 40 (l, ())) (codeR l true, ()) := by
  cases hok : okA l with
  | true =>
    have h := e40 l hl hok
    unfold codeR
    rw [if_neg (by simp [hok]), if_neg (by simp)]
    exact h
  | false =>
    unfold codeR
    rw [if_pos hok]
    refine Evt.next (Evt.bind (e27 l hl) ?_) (fun n => r40 n l)
    exact Evt.yes (by simp [hok]) (Evt.some _)
/- spec.l04Asked -/
theorem e29 (l : List Sft) (hl : Small l) (i k a : Int) : Evt (fun n => call T C n 29 (l, i, k, a, ())) (codeR l (isAt l i && isAt l k && inR a 0 20000), ()) := by
  refine Evt.next (Evt.bind (e27 l hl) ?_) (fun n => r29 n l i k a)
  unfold codeR
  cases hok : okA l with
  | false => exact Evt.yes rfl (Evt.some _)
  | true =>
    refine Evt.no (by simp) (Evt.bind (e55 l i) ?_)
    show Evt (fun n => if (!isAt l i) = true then _ else _) _
    cases isAt l i with
    | false => exact Evt.yes rfl (Evt.some _)
    | true =>
      refine Evt.no (by simp) (Evt.bind (e55 l k) ?_)
      show Evt (fun n => if (bif false then true else (!isAt l k)) = true then _ else _) _
      cases isAt l k with
      | false => exact Evt.yes rfl (Evt.some _)
      | true =>
        refine Evt.no (by simp) (Evt.bind (e28 _ _ _) ?_)
        cases inR a 0 20000 with
        | false => exact Evt.yes rfl (Evt.some _)
        | true => exact Evt.no (by simp) (Evt.bind (e40 l hl hok) (Evt.some _))
theorem e29' (l : List Sft) (hl : Small l) (a : Int) : Evt (fun n => call T C n 29 (l, 0, 0, a, ())) (codeR l (inR a 0 20000), ()) := by
  have h := e29 l hl 0 0 a
  have e : codeR l (isAt l 0 && isAt l 0 && inR a 0 20000) = codeR l (inR a 0 20000) := by
    unfold codeR
    cases hok : okA l with
    | false => rfl
    | true =>
      have := (okA_good hok).1
      rw [(isAt_iff hok).2 (by omega)]
      rfl
  rw [e] at h
  exact h
/- spec.l04Step -/
theorem e78 {s : Sft} (h : Good s) (t : Int) : Evt (fun n => call T C n 78 (s, t, ())) ((stp s t, ()), ()) := Evt.next (Evt.chk (den_ne h) (Evt.chk (len_ne h) (Evt.some _))) (fun n => r78 n s t)
/- spec.l04Lift -/
theorem e66 {s : Sft} (h : Good s) {t : Int} (h0 : 0 ≤ t) (h1 : t ≤ 20000) : Evt (fun n => call T C n 66 (s, t, ())) ((lift s t, ()), ()) := by
  obtain ⟨⟨v, hv, he⟩, _⟩ := lift_eq h h0 h1
  rw [he]
  refine Evt.next (Evt.bind (e78 h t) ?_) (fun n => r66 n s t)
  exact Evt.at hv (Evt.some ((wr .i64 v, ()), ()))
/- spec.l04Clash -/
theorem e42 {s u : Sft} (h : Good s) (k : Good u) {t : Int} (h0 : 0 ≤ t) (h1 : t ≤ 20000) (a : Int) : Evt (fun n => call T C n 42 (s, u, t, a, ())) ((decide (lift s t + lift u t > a), ()), ()) := by
  have e1 := (lift_eq h h0 h1).2
  have e2 := (lift_eq k h0 h1).2
  have hw : wr .i64 (lift s t + lift u t) = lift s t + lift u t := wrap_id (by omega) (by omega)
  refine Evt.next (Evt.bind (e66 h h0 h1) (Evt.bind (e66 k h0 h1) ((Evt.some _).of_eq fun n => ?_))) (fun n => r42 n s u t a)
  simp only [hw]
  rfl
/- spec.l04Free -/
theorem e56 {s u : Sft} (hs : Good s) (hu : Good u) {t : Int} (t0 : 0 ≤ t) (t1 : t ≤ 20000) (a : Int) : Evt (fun n => call T C n 56 (s, u, t, a, ())) ((!ck2 s u t a, ()), ()) := by
  refine Evt.next ?_ (fun n => r56 n s u t a)
  refine for_evt 0 t (fun i (_ : Unit) => (s, u, t, a, i, ())) (fun i _ => ∀ j : Nat, j < i.toNat → ¬ lift s (j : Nat) + lift u (j : Nat) > a) (b0 := ()) t0 (fun j hj => by simp at hj) ?_ ?_
  · intro i _ h0 h1 hp
    refine Round.yes (decide_eq_true h1) (Round.bind (e42 hs hu h0 (by omega) a) (Round.ite (fun h => ?_) (fun h => ?_)))
    · have h : lift s i + lift u i > a := of_decide_eq_true h
      have hc : ck2 s u t a = true := ck2_of (i := i.toNat) (by omega) (by rw [show ((i.toNat : Nat) : Int) = i by omega]; exact h)
      rw [hc]
      exact Round.done (Evt.some _)
    · have h : ¬ lift s i + lift u i > a := by simpa using h
      refine Round.again _ ⟨(), by rw [wr_succ h0 h1 (by omega)], fun j hj => ?_⟩
      by_cases hji : j < i.toNat
      · exact hp j hji
      · have : j = i.toNat := by omega
        rw [this, show ((i.toNat : Nat) : Int) = i by omega]
        exact h
  · intro _ hp
    have hc : ck2 s u t a = false := ck2_no hp
    rw [hc]
    exact Round.no (by simp) (Round.done (Evt.some _))
/- spec.l04Look -/
theorem e30 {S0 : List Sft} (hG : ∀ s ∈ S0, Good s) (h6 : S0.length ≤ 6) {t : Int} (t0 : 0 ≤ t) (t1 : t ≤ 20000) (a : Int) {bud : Int} (b1 : bud ≤ 100000) :
    ∀ (d k : Nat) (S : List Sft) (ps : List Int) (l : Int), 1 ≤ k → k + d = S0.length → RelS S0 k S ps → 0 ≤ l → l ≤ bud →
    EvtX (fun n => call T C n 30 (S, (k : Int), t, a, bud, bud - l, ())) (fun y => y.1.1 = (skP S0 t a d k ps l).1 ∧ y.2.2.1 = bud - (skP S0 t a d k ps l).2.2 ∧ 0 ≤ (skP S0 t a d k ps l).2.2 ∧ (skP S0 t a d k ps l).2.2 ≤ bud ∧ RelS S0 k y.2.1 (skP S0 t a d k ps l).2.1 ∧ (y.1.1 = (0 : Int) → RelS S0 S0.length y.2.1 (skP S0 t a d k ps l).2.1)) := by
  intro d
  induction d with
  | zero =>
    intro k S ps l hk hkd hr l0 l1
    have hkl : k = S0.length := by omega
    refine EvtX.next (EvtX.yes (by rw [hr.len]; simp [hkl]) ⟨_, ⟨rfl, rfl, l0, l1, hr, fun _ => hkl ▸ hr⟩, Evt.some _⟩) (fun n => r30 n S k t a bud (bud - l))
  | succ d ih =>
    intro k S ps l hk hkd hr l0 l1
    refine EvtX.next (EvtX.no (by rw [hr.len]; simp; omega) ?_) (fun n => r30 n S k t a bud (bud - l))
    have hkl : k < S0.length := by omega
    have hgk := gSf_good hG hkl
    have hlen := hgk.len
    have hR : skP S0 t a (d + 1) k ps l = skL (skP S0 t a d (k + 1)) (ckB S0 t a k) k (gSf S0 k).2.2.2.1.length 0 ps l := rfl
    generalize skP S0 t a (d + 1) k ps l = R at hR
    generalize hn : (gSf S0 k).2.2.2.1.length = N at hR hlen
    refine EvtX.loop (fun x => ∃ (i : Nat) (S' : List Sft) (ps' : List Int) (l' : Int), x = (S', (k : Int), t, a, bud, bud - l', (i : Int), ()) ∧ i ≤ N ∧ RelS S0 k S' ps' ∧ 0 ≤ l' ∧ l' ≤ bud ∧ skL (skP S0 t a d (k + 1)) (ckB S0 t a k) k (N - i) i ps' l' = R) (fun x => N - x.2.2.2.2.2.2.1.toNat) ⟨0, S, ps, l, rfl, Nat.zero_le _, hr, l0, l1, hR.symm⟩ ?_
    rintro x ⟨i, S', ps', l', rfl, hi, hr', l0', l1', hR'⟩
    obtain ⟨q, q0, q1, hv, _⟩ := hr'.at' k hkl
    have hlen' := hr'.len
    have hc1 : decide ((0 : Int) ≤ (k : Int) ∧ (k : Int) < (S'.length : Int)) = true := decide_eq_true (by omega)
    have hv' : S'[((k : Int)).toNat]? = some (withP (gSf S0 k) q) := by rw [Int.toNat_natCast]; exact hv
    by_cases hlt : i < N
    · have hc2 : decide ((i : Int) < (((withP (gSf S0 k) q).2.2.2.1.length : Nat) : Int)) = true := decide_eq_true (by show (i : Int) < (((gSf S0 k).2.2.2.1.length : Nat) : Int); rw [hn]; omega)
      obtain ⟨m, hm⟩ : ∃ m, N - i = m + 1 := ⟨N - i - 1, by omega⟩
      rw [hm, skL_succ] at hR'
      by_cases hl0 : l' = 0
      · subst hl0
        rw [if_pos rfl] at hR'
        subst hR'
        refine .inl ⟨((7, ()), (S', bud - 0, ())), ⟨rfl, rfl, Int.le_refl _, l1', hr', fun h => absurd h (show ¬ ((7 : Int) = 0) by decide)⟩, ?_⟩
        refine Round.chk hc1 (Round.at hv' (Round.yes hc2 (Round.yes (by simp) (Round.done (Evt.some _)))))
      · rw [if_neg hl0] at hR'
        have hw16 : wr .i16 (i : Int) = (i : Int) := wrap16 (by omega) (by omega)
        have hw64 : wr .i64 (i : Int) = (i : Int) := wrap_id (by omega) (by omega)
        have hwk : wr .i64 ((k : Int) - 1) = ((k - 1 : Nat) : Int) := by rw [wrap_id (by omega) (by omega)]; omega
        have hwk1 : wr .i64 ((k : Int) + 1) = ((k + 1 : Nat) : Int) := by rw [wrap_id (by omega) (by omega)]; omega
        have hwt : wr .i64 (bud - l' + 1) = bud - (l' - 1) := by rw [wrap_id (by omega) (by omega)]; omega
        have hwi : wr .i64 ((i : Int) + 1) = ((i + 1 : Nat) : Int) := by rw [wrap_id (by omega) (by omega)]; omega
        have hne : ¬ ((bud - l' == bud) = true) := by simp; omega
        have hr1 := hr'.put (p := (i : Int)) (by rw [hw64]; omega) (by rw [hw64]; omega)
        have hr2 := hr'.put2 (p := (i : Int)) (by omega) (by omega)
        obtain ⟨v, hv1, hvg, hck⟩ := hr1.ck hG hk hkl i t a
        have hset : S'.set ((k : Int)).toNat ((withP (gSf S0 k) q).1, ((withP (gSf S0 k) q).2.1, (wr .i16 (i : Int), (withP (gSf S0 k) q).2.2.2))) = S'.set k (withP (gSf S0 k) i) := by rw [hw16, Int.toNat_natCast]; rfl
        have hvk : (S'.set k (withP (gSf S0 k) i))[((k : Int)).toNat]? = some (withP (gSf S0 k) i) := by rw [Int.toNat_natCast, List.getElem?_set_self (by omega)]
        have hv1' : (S'.set k (withP (gSf S0 k) i))[(((k - 1 : Nat) : Int)).toNat]? = some v := by rw [Int.toNat_natCast]; exact hv1
        have hc3 : decide ((0 : Int) ≤ (k : Int) ∧ (k : Int) < ((S'.set k (withP (gSf S0 k) i)).length : Int)) = true := decide_eq_true (by rw [List.length_set]; omega)
        have hc4 : decide ((0 : Int) ≤ ((k - 1 : Nat) : Int) ∧ ((k - 1 : Nat) : Int) < ((S'.set k (withP (gSf S0 k) i)).length : Int)) = true := decide_eq_true (by rw [List.length_set]; omega)
        have hgi : Good (withP (gSf S0 k) i) := hgk.withW (by rw [hw64]; omega) (by rw [hw64]; omega)
        have hfree := e56 hvg hgi t0 t1 a
        rw [hck] at hfree
        have hic : (i : Int) + 1 = ((i + 1 : Nat) : Int) := by omega
        have hm1 : N - (i + 1) = m := by omega
        by_cases hcl : ckB S0 t a k i (ps'.getD (k - 1) 0) = true
        · rw [if_pos hcl] at hR'
          rw [hcl] at hfree
          refine .inr ⟨(S'.set k (withP (gSf S0 k) i), (k : Int), t, a, bud, bud - (l' - 1), ((i + 1 : Nat) : Int), ()), ⟨i + 1, _, ps', l' - 1, rfl, by omega, hr1, by omega, by omega, by rw [hm1, ← hic]; exact hR'⟩, by simp; omega, fun y => ?_⟩
          refine Round.chk hc1 (Round.at hv' (Round.yes hc2 (Round.no hne (Round.chk hc1 (Round.at hv' ?_)))))
          simp only [hset, hwk, hwk1, hwt, hwi]
          exact Round.chk hc4 (Round.chk hc3 (Round.at hv1' (Round.at hvk (Round.bind hfree (Round.yes rfl (Round.again _ rfl))))))
        · rw [if_neg hcl] at hR'
          have hcl : ckB S0 t a k i (ps'.getD (k - 1) 0) = false := by simpa using hcl
          rw [hcl] at hfree
          obtain ⟨y1, ⟨g1, g2, g3, g4, g5, g6⟩, hE⟩ := ih (k + 1) (S'.set k (withP (gSf S0 k) i)) (ps'.set k i) (l' - 1) (by omega) (by omega) hr2 (by omega) (by omega)
          generalize hr0 : skP S0 t a d (k + 1) (ps'.set k i) (l' - 1) = r at hR' g1 g2 g3 g4 g5 g6
          obtain ⟨r1, r2, r3⟩ := r
          obtain ⟨⟨c, cu⟩, S2, tr, tu⟩ := y1
          have g1 : c = r1 := g1
          have g2 : tr = bud - r3 := g2
          subst g1; subst g2
          by_cases hc6 : c = 6
          · rw [if_neg (by simpa using hc6)] at hR'
            refine .inr ⟨(S2, (k : Int), t, a, bud, bud - r3, ((i + 1 : Nat) : Int), ()), ⟨i + 1, S2, r2, r3, rfl, by omega, g5.mono (by omega), g3, g4, by rw [hm1, ← hic]; exact hR'⟩, by simp; omega, fun y => ?_⟩
            refine Round.chk hc1 (Round.at hv' (Round.yes hc2 (Round.no hne (Round.chk hc1 (Round.at hv' ?_)))))
            simp only [hset, hwk, hwk1, hwt, hwi]
            exact Round.chk hc4 (Round.chk hc3 (Round.at hv1' (Round.at hvk (Round.bind hfree (Round.no (by simp) (Round.bind hE (Round.no (by simp [hc6]) (Round.again _ rfl))))))))
          · rw [if_pos (by simpa using hc6)] at hR'
            subst hR'
            refine .inl ⟨((c, ()), (S2, bud - r3, ())), ⟨rfl, rfl, g3, g4, g5.mono (by omega), g6⟩, ?_⟩
            refine Round.chk hc1 (Round.at hv' (Round.yes hc2 (Round.no hne (Round.chk hc1 (Round.at hv' ?_)))))
            simp only [hset, hwk, hwk1, hwt, hwi]
            exact Round.chk hc4 (Round.chk hc3 (Round.at hv1' (Round.at hvk (Round.bind hfree (Round.no (by simp) (Round.bind hE (Round.yes (by simp [hc6]) (Round.done (Evt.some _)))))))))
    · have h0 : N - i = 0 := by omega
      rw [h0] at hR'
      have hR' : (6, ps', l') = R := hR'
      subst hR'
      have hc2 : ¬ (decide ((i : Int) < (((withP (gSf S0 k) q).2.2.2.1.length : Nat) : Int)) = true) := by
        show ¬ (decide ((i : Int) < (((gSf S0 k).2.2.2.1.length : Nat) : Int)) = true)
        rw [hn]; simp; omega
      exact .inl ⟨((6, ()), (S', bud - l', ())), ⟨rfl, rfl, l0', l1', hr', fun h => absurd h (show ¬ ((6 : Int) = 0) by decide)⟩, Round.chk hc1 (Round.at hv' (Round.no hc2 (Round.done (Evt.some _))))⟩
/- spec.PhasesFor -/
theorem e6 (S : List Sft) (hS : Small S) (a b : Int) : Evt (fun n => call T C n 6 (S, a, b, ())) (pfI S a b, ()) := by
  refine Evt.next (Evt.bind (e27 S hS) ?_) (fun n => r6 n S a b)
  cases hok : okA S with
  | false =>
    rw [pfI_code (codeR_bad hok _) (by decide)]
    exact Evt.yes rfl (Evt.some _)
  | true =>
    refine Evt.no (by simp) (Evt.bind (e28 _ _ _) ?_)
    cases hb : inR b 0 100000 with
    | false =>
      rw [pfI_code (t := 0) (c := 2) (by rw [hb, Bool.and_false]; exact codeR_out hok) (by decide)]
      exact Evt.yes rfl (Evt.some _)
    | true =>
      refine Evt.no (by simp) (Evt.bind (e29' S hS a) ?_)
      have hpf : pfI S a b = if (codeR S (inR a 0 20000)).2.1 = (0 : Int) then
          (if (skP S (codeR S (inR a 0 20000)).1 a (S.length - 1) 1 (psI S) b).1 = 0 then ((skP S (codeR S (inR a 0 20000)).1 a (S.length - 1) 1 (psI S) b).2.1, b - (skP S (codeR S (inR a 0 20000)).1 a (S.length - 1) 1 (psI S) b).2.2, 0, ()) else ([], 0, (skP S (codeR S (inR a 0 20000)).1 a (S.length - 1) 1 (psI S) b).1, ()))
        else ([], 0, (codeR S (inR a 0 20000)).2.1, ()) := by
        unfold pfI
        rw [hb, Bool.and_true]
      rw [hpf]
      clear hpf
      refine Evt.ite (fun h => ?_) (fun h => ?_)
      · rw [if_neg (by simpa using h)]
        exact Evt.some _
      · have h : (codeR S (inR a 0 20000)).2.1 = (0 : Int) := by simpa using h
        rw [if_pos h]
        obtain ⟨_, hp0, hp1⟩ := code_ok h
        obtain ⟨hn, hG⟩ := okA_good hok
        have hb := inR_iff.1 hb
        generalize (codeR S (inR a 0 20000)).1 = t at hp0 hp1
        change Int at t
        have hp0 : (0 : Int) ≤ t := hp0
        have hp1 : t ≤ (20000 : Int) := hp1
        refine Evt.chk (by simp; omega) ?_
        obtain ⟨y, ⟨g1, g2, g3, g4, g5, g6⟩, hE⟩ := e30 hG (by omega) hp0 hp1 a hb.2 (S.length - 1) 1 S (psI S) b (by omega) (by omega) (relS_start hG (by omega)) hb.1 (Int.le_refl _)
        generalize skP S t a (S.length - 1) 1 (psI S) b = r at g1 g2 g3 g4 g5 g6
        obtain ⟨r1, r2, r3⟩ := r
        obtain ⟨⟨c, cu⟩, S2, tr, tu⟩ := y
        have g1 : c = r1 := g1
        have g2 : tr = b - r3 := g2
        subst g1; subst g2
        have hE' : Evt (fun n => call T C n 30 ([] ++ S, 1, t, a, b, 0, ())) ((c, cu), (S2, b - r3, tu)) := by
          have e : b - b = 0 := by omega
          rw [e] at hE
          exact hE
        refine Evt.bind hE' ?_
        refine Evt.ite (fun h => ?_) (fun h => ?_)
        · have h : ¬ c = 0 := by simpa using h
          rw [if_neg h]
          exact Evt.some _
        · have h : c = 0 := by simpa using h
          subst h
          rw [if_pos rfl]
          have g7 := g6 rfl
          have hout := g7.out
          have hl2 : S2.length = S.length := g7.len
          refine for_evt' 0 (S2.length : Int) (fun i (_ : Unit) => (S2, b - r3, (S2.map (fun s => wr .i64 s.2.2.1)).take i.toNat, i, ())) (fun _ _ => True) (b0 := ()) rfl (by omega) trivial ?_ ?_
          · intro i _ h0 h1 _
            obtain ⟨v, hv⟩ := at_of h0 h1
            have hv1 : S2[i.toNat]? = some v := hv.get
            have hlt : i.toNat < S2.length := by omega
            have hlm : (S2.map (fun s => wr .i64 s.2.2.1)).length = S2.length := List.length_map _
            refine Round.yes (decide_eq_true h1) (Round.chk (decide_eq_true ⟨h0, h1⟩) (Round.at hv1 (Round.chk (by simp; omega) (Round.again _ ⟨(), ?_, trivial⟩))))
            have htk : (S2.map (fun s => wr .i64 s.2.2.1)).take (i + 1).toNat = (S2.map (fun s => wr .i64 s.2.2.1)).take i.toNat ++ [wr .i64 v.2.2.1] := by
              rw [show (i + 1).toNat = i.toNat + 1 by omega, List.take_add_one, List.getElem?_map, hv1]
              rfl
            rw [htk, wr_succ h0 h1 (by omega)]
          · intro _ _
            have hlm : (S2.map (fun s => wr .i64 s.2.2.1)).length = S2.length := List.length_map _
            rw [Int.toNat_natCast, List.take_of_length_le (by omega), hout]
            exact Round.no (by simp) (Round.done (Evt.some _))
/- impl.PhasesFor -/
theorem e8 (S : List Sft) (hS : Small S) (a b : Int) : Evt (fun n => call T C n 8 (S, a, b, ())) (pfI S a b, ()) := by
  refine Evt.next ?_ (fun n => r8 n S a b)
  dsimp only
  rw [if_pos (smallB_iff.2 hS)]
  exact Evt.some _
/- laws.eqInt64S -/
theorem e9 (l : List Int) (hl : (l.length : Int) ≤ 140737488351232) : Evt (fun n => call T C n 9 (l, l, ())) ((true, ()), ()) := by
  refine Evt.next (Evt.no (by simp) ?_) (fun n => r9 n l l)
  refine for_evt 0 (l.length : Int) (fun i (_ : Unit) => (l, l, i, ())) (fun _ _ => True) (b0 := ()) (by omega) trivial ?_ ?_
  · intro i _ h2 h3 _
    obtain ⟨v, hv⟩ := at_of h2 h3
    refine Round.yes (decide_eq_true h3) (Round.at hv.idx (Round.at hv.idx (Round.no (by simp) (Round.again _ ⟨(), ?_, trivial⟩))))
    rw [wr_succ h2 h3 (by omega)]
  · intro _ _
    exact Round.no (by simp) (Round.done (Evt.some _))
/- laws.eqCam -/
theorem e60 (l : List Int) (hl : (l.length : Int) ≤ 140737488351232) : Evt (fun n => call T C n 60 (l, l, ())) ((true, ()), ()) := by
  refine Evt.next (Evt.no (by simp) ?_) (fun n => r60 n l l)
  refine for_evt 0 (l.length : Int) (fun i (_ : Unit) => (l, l, i, ())) (fun _ _ => True) (b0 := ()) (by omega) trivial ?_ ?_
  · intro i _ h2 h3 _
    obtain ⟨v, hv⟩ := at_of h2 h3
    refine Round.yes (decide_eq_true h3) (Round.at hv.idx (Round.at hv.idx (Round.no (by simp) (Round.again _ ⟨(), ?_, trivial⟩))))
    rw [wr_succ h2 h3 (by omega)]
  · intro _ _
    exact Round.no (by simp) (Round.done (Evt.some _))
/- laws.eqShaft -/
theorem e36 (s : Sft) (hl : (s.2.2.2.1.length : Int) ≤ 140737488351232) : Evt (fun n => call T C n 36 (s, s, ())) ((true, ()), ()) :=
  Evt.next (Evt.no (by simp) (Evt.no (by simp) (Evt.no (by simp) (Evt.bind (e60 _ hl) (Evt.no (by simp) (Evt.some _)))))) (fun n => r36 n s s)
/- laws.eqShaftS -/
theorem e10 (l : List Sft) (hl : Small l) : Evt (fun n => call T C n 10 (l, l, ())) ((true, ()), ()) := by
  have hl1 := hl.1
  refine Evt.next (Evt.no (by simp) ?_) (fun n => r10 n l l)
  refine loop_evt (fun (x : List Sft × List Sft × Int × Unit) => x.1 = l ∧ x.2.1 = l ∧ 0 ≤ x.2.2.1 ∧ x.2.2.1 ≤ (l.length : Int)) (fun (x : List Sft × List Sft × Int × Unit) => ((l.length : Int) - x.2.2.1).toNat) (x := (l, l, 0, ())) ⟨rfl, rfl, Int.le_refl _, by simp⟩ ?_
  rintro ⟨x1, x2, i, _⟩ ⟨h', h'', h0, h1⟩
  simp only at h' h'' h0 h1
  subst h'; subst h''
  refine Round.ite (fun hlt => ?_) (fun hge => ?_)
  · have hlt : i < (x2.length : Int) := of_decide_eq_true hlt
    obtain ⟨v, hv, hv'⟩ := idx_at h0 hlt
    have hw : wr .i64 (i + 1) = i + 1 := wrap_id (by omega) (by omega)
    refine Round.at hv (Round.at hv (Round.bind (e36 v (hl.get hv')) (Round.no (by simp) (Round.again _ ⟨⟨rfl, rfl, ?_, ?_⟩, ?_⟩)))) <;> simp only [hw] <;> omega
  · exact Round.done (Evt.some _)
/- laws.markCam -/
theorem e37 (l : List Int) (k : Int) (h0 : 0 ≤ k) (h1 : k + l.length ≤ 4611686018427387904) : Evt (fun n => call T C n 37 (l, k, ())) ((k + l.length, ()), (mkL (wr .i16) l.length k, ())) := by
  refine Evt.next ?_ (fun n => r37 n l k)
  refine for_evt' 0 (l.length : Int) (fun i (b : List Int) => (b, k + i, i, ())) (fun i b => b.length = l.length ∧ b.take i.toNat = mkL (wr .i16) i.toNat k) (b0 := l) (by simp) (by omega) ⟨rfl, by simp [mkL]⟩ ?_ ?_
  · intro i b h2 h3 ⟨hb, ht⟩
    have hi : i < (b.length : Int) := by omega
    obtain ⟨u, hu⟩ := get_of_lt h2 hi
    refine Round.yes (decide_eq_true hi) (Round.chk (chk_at h2 hi) (Round.at hu (Round.again _ ⟨b.set i.toNat (wr .i16 (k + i)), ?_, by simpa using hb, ?_⟩)))
    · rw [wrap_id (x := k + i + 1) (by omega) (by omega), wrap_id (x := i + 1) (by omega) (by omega)]
      simp only [Int.add_assoc, id_eq]
    · rw [take_set_succ h2 hi, ht, show (i + 1).toNat = i.toNat + 1 by omega, mkL_succ, show ((i.toNat : Nat) : Int) = i by omega]
  · intro b ⟨hb, ht⟩
    have e : b = mkL (wr .i16) l.length k := by rw [← take_all b, hb, ht]; simp
    rw [← e]
    exact Round.no (by simp [hb]) (Round.done (Evt.some _))
/- laws.markShaftS -/
theorem e11 (l : List Sft) (k : Int) (h0 : 0 ≤ k) (h1 : k + totS l ≤ 4611686018427387904) : ∃ b, Evt (fun n => call T C n 11 (l, k, ())) ((k + totS l, ()), (b, ())) ∧ heldS b k = some (k + totS l) := by
  have hlen : ∀ m : List Sft, (m.length : Int) ≤ totS m := by
    intro m
    induction m with
    | nil => simp [totS]
    | cons s r ih => rw [totS_cons]; simp only [List.length_cons]; omega
  have hll := hlen l
  suffices h : ∃ b : List Sft, heldS b k = some (k + totS l) ∧ Evt (fun n => call T C n 11 (l, k, ())) ((k + totS l, ()), (b, ())) by
    obtain ⟨b, h1, h2⟩ := h; exact ⟨b, h2, h1⟩
  refine ⟨markS l k, markS_held l k, ?_⟩
  refine Evt.next ?_ (fun n => r11 n l k)
  refine for_evt' 0 (l.length : Int) (fun i (b : List Sft) => (b, k + totS (l.take i.toNat), i, ())) (fun i b => b.length = l.length ∧ b.drop i.toNat = l.drop i.toNat ∧ b.take i.toNat = markS (l.take i.toNat) k) (b0 := l) (by simp [totS]) (by omega) ⟨rfl, rfl, by simp [markS]⟩ ?_ ?_
  · intro i b h2 h3 ⟨hb, hd, ht⟩
    have hi : i < (b.length : Int) := by omega
    obtain ⟨s, hs⟩ := at_of h2 h3
    have hbs : b[i.toNat]? = some s := by
      have : (b.drop i.toNat)[0]? = (l.drop i.toNat)[0]? := by rw [hd]
      rw [List.getElem?_drop, List.getElem?_drop] at this
      rw [show i.toNat + 0 = i.toNat by omega] at this
      rw [this, hs.get]
    have hset : ∀ v : Sft, (b.set i.toNat v)[i.toNat]? = some v := fun v => List.getElem?_set_self (by omega)
    have hsl : ∀ v : Sft, i < (((b.set i.toNat v).length : Nat) : Int) := fun v => by rw [List.length_set]; exact hi
    have htk := totS_take l (i + 1).toNat
    rw [hs.take, totS_append] at htk
    have ht1 : totS [s] = 3 + s.2.2.2.1.length := by rw [totS_cons]; simp [totS]
    have hp := totS_nonneg (l.take i.toNat)
    have hq := totS_nonneg (l.drop (i + 1).toNat)
    generalize hK : k + totS (l.take i.toNat) = K
    have w1 : wr .i64 (K + 1) = K + 1 := wrap_id (by omega) (by omega)
    have w2 : wr .i64 (K + 1 + 1) = K + 1 + 1 := wrap_id (by omega) (by omega)
    have w3 : wr .i64 (K + 1 + 1 + 1) = K + 1 + 1 + 1 := wrap_id (by omega) (by omega)
    simp only [w1, w2, w3, List.set_set]
    refine Round.yes (decide_eq_true hi) (Round.chk (chk_at h2 hi) (Round.at hbs (Round.chk (chk_at h2 (hsl _)) (Round.at (hset _) (Round.chk (chk_at h2 (hsl _)) (Round.at (hset _) (Round.chk (chk_at h2 (hsl _)) (Round.at (hset _) (Round.bind (e37 s.2.2.2.1 (K + 1 + 1 + 1) (by omega) (by omega)) (Round.at (hset _) (Round.again _ ⟨b.set i.toNat (markOne s K), ?_, ?_, ?_, ?_⟩)))))))))))
    · rw [hs.take, totS_append, ht1, wr_succ h2 h3 (by omega)]
      simp only [Prod.mk.injEq, and_true]
      refine ⟨rfl, ?_⟩
      show K + 1 + 1 + 1 + (s.2.2.2.1.length : Int) = _
      omega
    · simpa using hb
    · rw [drop_set_succ h2]
      have : (b.drop i.toNat).drop 1 = (l.drop i.toNat).drop 1 := by rw [hd]
      rw [List.drop_drop, List.drop_drop] at this
      rw [show (i + 1).toNat = i.toNat + 1 by omega]
      exact this
    · rw [take_set_succ h2 hi, ht, hs.take, markS_append, hK]
  · intro b ⟨hb, _, ht⟩
    have e : b = markS l k := by
      have h1 := take_all l
      rw [h1, ← hb, take_all] at ht
      exact ht
    rw [← e, take_all]
    exact Round.no (by simp [hb]) (Round.done (Evt.some _))
/- laws.markInt64S -/
theorem e12 (l : List Int) (k : Int) (h0 : 0 ≤ k) (h1 : k + l.length ≤ 4611686018427387904) : Evt (fun n => call T C n 12 (l, k, ())) ((k + l.length, ()), (mkL id l.length k, ())) := by
  refine Evt.next ?_ (fun n => r12 n l k)
  refine for_evt' 0 (l.length : Int) (fun i (b : List Int) => (b, k + i, i, ())) (fun i b => b.length = l.length ∧ b.take i.toNat = mkL id i.toNat k) (b0 := l) (by simp) (by omega) ⟨rfl, by simp [mkL]⟩ ?_ ?_
  · intro i b h2 h3 ⟨hb, ht⟩
    have hi : i < (b.length : Int) := by omega
    obtain ⟨u, hu⟩ := get_of_lt h2 hi
    refine Round.yes (decide_eq_true hi) (Round.chk (chk_at h2 hi) (Round.at hu (Round.again _ ⟨b.set i.toNat (id (k + i)), ?_, by simpa using hb, ?_⟩)))
    · rw [wrap_id (x := k + i + 1) (by omega) (by omega), wrap_id (x := i + 1) (by omega) (by omega)]
      simp only [Int.add_assoc, id_eq]
    · rw [take_set_succ h2 hi, ht, show (i + 1).toNat = i.toNat + 1 by omega, mkL_succ, show ((i.toNat : Nat) : Int) = i by omega]
  · intro b ⟨hb, ht⟩
    have e : b = mkL id l.length k := by rw [← take_all b, hb, ht]; simp
    rw [← e]
    exact Round.no (by simp [hb]) (Round.done (Evt.some _))
/- laws.heldInt64S -/
theorem e13 (m : Nat) (k : Int) (h0 : 0 ≤ k) (h1 : k + m ≤ 4611686018427387904) : Evt (fun n => call T C n 13 (mkL id m k, k, ())) ((k + m, ()), ()) := by
  refine Evt.next ?_ (fun n => r13 n _ k)
  refine for_evt' 0 (m : Int) (fun i (_ : Unit) => (mkL id m k, k + i, i, ())) (fun _ _ => True) (b0 := ()) (by simp) (by omega) trivial ?_ ?_
  · intro i _ h2 h3 _
    obtain ⟨v, hv⟩ := at_of (l := mkL id m k) h2 (by rw [mkL_len]; exact h3)
    have e := mkL_at id m k hv h2
    refine Round.yes (by rw [mkL_len]; exact decide_eq_true h3) (Round.at hv.idx (Round.no (by simp [e]) (Round.again _ ⟨(), ?_, trivial⟩)))
    rw [wrap_id (x := k + i + 1) (by omega) (by omega), wrap_id (x := i + 1) (by omega) (by omega)]
    simp only [Int.add_assoc]
  · intro _ _
    exact Round.no (by simp [mkL_len]) (Round.done (Evt.some _))
/- laws.FnExactPhasesFor -/
theorem e3 (l : List Sft) (a b : Int) (hd : DomA (C 3).params (l, a, b, ())) : Evt (fun n => call T C n 3 (l, a, b, ())) ((true, ()), ()) := by
  have h1 := shaftsDom1 (l := l) hd.1
  have h2 := shaftsDom2 (l := l) hd.1
  have hS : Small l := ⟨by omega, fun s hs => by have := h2 s hs; omega⟩
  refine Evt.next (Evt.bind (e5 l hS 1048576) (Evt.ite (fun _ => Evt.some _) (fun hsz => ?_))) (fun n => r3 n l a b)
  have hsz := szS_ok hS (by simpa using hsz)
  have hR := pfI_len l a b
  have to1 := e7 l h1 h2
  have sp := e6 l hS a b
  have im := e8 l hS a b
  obtain ⟨b0, hm0, _⟩ := e11 l 1 (by omega) (by omega)
  have hm := e12 (pfI l a b).1 1 (by omega) (by omega)
  have hh := e13 (pfI l a b).1.length 1 (by omega) (by omega)
  have eqg := e9 (pfI l a b).1 (by omega)
  refine Evt.bind to1 (Evt.bind sp (Evt.bind to1 (Evt.bind im (Evt.bind eqg (Evt.no (by simp) (Evt.no (by simp) (Evt.no (by simp) ?_)))))))
  refine Evt.bind to1 (Evt.bind (e10 l hS) (Evt.no (by simp) ?_))
  refine Evt.bind hm0 (Evt.no (by have := totS_nonneg l; simp; omega) (Evt.bind eqg (Evt.no (by simp) (Evt.no (by simp) (Evt.no (by simp) ?_)))))
  refine Evt.bind hm (Evt.bind hh (Evt.no (by simp; omega) (Evt.no (by simp) ?_)))
  refine Evt.bind to1 (Evt.bind im (Evt.bind eqg (Evt.no (by simp) (Evt.no (by simp) (Evt.no (by simp) (Evt.bind hh (Evt.no (by simp; omega) (Evt.no (by simp) (Evt.some _)))))))))

end Go.Cams.YtgmkcekfpmdhoaaLPf
