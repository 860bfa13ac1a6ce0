/- What the functions that the law reaches come to. -/
import Derived.Test.YtkcapecjamijaaaRSumOfLifts
import Derived.Test.YtkcapecjamijaaaPu4
namespace Go.Cams.YtkcapecjamijaaaLSumOfLifts
open Go Go.Fw Go.Proofs Go.Proofs.Ytkcapecjamijaaa.LSumOfLifts
/- laws.szCam -/
theorem e36 (l : List Int) (a : Int) : Evt (fun n => call T C n 36 (l, a, ())) ((sz1 l a, ()), ()) := by
  refine Evt.next ?_ (fun n => r36 n l a)
  unfold sz1
  refine Evt.ite (fun h => ?_) (fun h => ?_)
  · rw [if_pos (of_decide_eq_true h)]; exact Evt.some _
  · rw [if_neg (by simpa using h)]; exact Evt.some _
/- laws.szShaft -/
theorem e43 (s : Sft) (a : Int) : Evt (fun n => call T C n 43 (s, a, ())) ((sz s a, ()), ()) := by
  refine Evt.next (Evt.bind (e36 _ a) ?_) (fun n => r43 n s a)
  unfold sz
  refine Evt.ite (fun h => ?_) (fun h => ?_)
  · rw [if_pos (of_decide_eq_true h)]; exact Evt.some _
  · rw [if_neg (by simpa using h)]; exact Evt.some _
/- laws.szShaftS -/
theorem e13 (l : List Sft) (hl : Small l) (a : Int) : Evt (fun n => call T C n 13 (l, a, ())) ((szS l a, ()), ()) := by
  have hl1 := hl.1
  unfold szS
  refine Evt.next ?_ (fun n => r13 n l a)
  refine Evt.ite (fun h => ?_) (fun h => ?_)
  · rw [if_pos (of_decide_eq_true h)]; exact Evt.some _
  · rw [if_neg (by simpa using h)]
    generalize wr .i64 (a - (l.length : Int)) = b
    refine loop_evt (fun (x : List Sft × Int × Int × Unit) => x.1 = l ∧ 0 ≤ x.2.2.1 ∧ x.2.2.1 ≤ (l.length : Int) ∧ szf l b = szf (l.drop x.2.2.1.toNat) x.2.1) (fun (x : List Sft × Int × Int × Unit) => ((l.length : Int) - x.2.2.1).toNat) (x := (l, b, 0, ())) ⟨rfl, Int.le_refl _, by simp, by simp⟩ ?_
    rintro ⟨x1, c, i, _⟩ ⟨h', h0, h1, h2⟩
    simp only at h' h0 h1 h2
    subst h'
    refine Round.ite (fun hlt => ?_) (fun hge => ?_)
    · have hlt : i < (x1.length : Int) := of_decide_eq_true hlt
      obtain ⟨v, hv, hv'⟩ := idx_at h0 hlt
      have hd := drop_cons hv'
      have hw : wr .i64 (i + 1) = i + 1 := wrap_id (by omega) (by omega)
      refine Round.at hv (Round.bind (e43 v c) (Round.ite (fun hb => ?_) (fun hb => ?_)))
      · have hb : sz v c < 0 := of_decide_eq_true hb
        have h3 : szf x1 b = -1 := by rw [h2, hd]; simp [szf, hb]
        rw [h3]
        exact Round.done (Evt.some _)
      · have hb : ¬ sz v c < 0 := by simpa using hb
        refine Round.again _ ⟨⟨rfl, ?_, ?_, ?_⟩, ?_⟩ <;> simp only [hw]
        · omega
        · omega
        · rw [h2, hd, show (i + 1).toNat = i.toNat + 1 by omega]
          simp only [szf]
          rw [if_neg hb]
        · omega
    · have hge : ¬ i < (x1.length : Int) := by simpa using hge
      have : x1.drop i.toNat = [] := List.drop_of_length_le (by omega)
      rw [h2, this]
      exact Round.done (Evt.some _)
/- laws.toCam -/
theorem e39 (l : List Int) (hl : (l.length : Int) * 2 ≤ 140737488351232) : Evt (fun n => call T C n 39 (l, ())) ((l, ()), ()) := by
  refine Evt.next (Evt.chk (by simp; omega) ?_) (fun n => r39 n l)
  refine for_evt 0 (l.length : Int) (fun i (b : List Int) => (l, b, i, ())) (fun i b => b.length = l.length ∧ b.take i.toNat = l.take i.toNat) (b0 := List.replicate (Int.toNat (l.length : Int)) 0) (by omega) ⟨by simp, by simp⟩ ?_ ?_
  · intro i b h2 h3 ⟨hb, ht⟩
    have hi : i < (b.length : Int) := by omega
    obtain ⟨v, hv⟩ := at_of h2 h3
    obtain ⟨u, hu⟩ := get_of_lt h2 hi
    refine Round.yes (decide_eq_true h3) (Round.at hv.idx (Round.chk (chk_at h2 hi) (Round.at hu (Round.again _ ⟨b.set i.toNat v, ?_, by simpa using hb, ?_⟩))))
    · rw [wr_succ h2 h3 (by omega)]
    · rw [take_set_succ h2 hi, ht, hv.take]
  · intro b ⟨hb, ht⟩
    have e : b = l := by rw [← take_all b, hb, ht]; simp
    rw [e]
    exact Round.no (by simp) (Round.done (Evt.some _))
/- laws.toShaft -/
theorem e46 (s : Sft) (hl : (s.2.2.2.1.length : Int) * 2 ≤ 140737488351232) : Evt (fun n => call T C n 46 (s, ())) ((s, ()), ()) := by
  obtain ⟨a, b, c, d, u⟩ := s
  exact Evt.next (Evt.bind (e39 d hl) (Evt.some _)) (fun n => r46 n _)
/- laws.toShaftS -/
theorem e15 (l : List Sft) (hl : (l.length : Int) * 32 ≤ 140737488351232) (hc : ∀ s ∈ l, (s.2.2.2.1.length : Int) * 2 ≤ 140737488351232) : Evt (fun n => call T C n 15 (l, ())) ((l, ()), ()) := by
  refine Evt.next (Evt.chk (by simp; omega) ?_) (fun n => r15 n l)
  refine loop_evt (fun (x : List Sft × List Sft × Int × Unit) => x.1 = l ∧ 0 ≤ x.2.2.1 ∧ x.2.2.1 ≤ (l.length : Int) ∧ x.2.1 = l.take x.2.2.1.toNat ++ List.replicate (l.length - x.2.2.1.toNat) (0, 0, 0, [], ())) (fun (x : List Sft × List Sft × Int × Unit) => ((l.length : Int) - x.2.2.1).toNat) (x := (l, List.replicate (Int.toNat (l.length : Int)) (0, 0, 0, [], ()), 0, ())) ⟨rfl, Int.le_refl _, by simp, by simp⟩ ?_
  rintro ⟨x1, m, i, _⟩ ⟨h', h0, h1, hm⟩
  simp only at h' h0 h1 hm
  subst h'
  have hml : m.length = x1.length := by rw [hm]; simp; omega
  refine Round.ite (fun hlt => ?_) (fun hge => ?_)
  · have hlt : i < (x1.length : Int) := of_decide_eq_true hlt
    obtain ⟨v, hv, hv'⟩ := idx_at h0 hlt
    have hw : wr .i64 (i + 1) = i + 1 := wrap_id (by omega) (by omega)
    obtain ⟨u, hu⟩ : ∃ u, m[i.toNat]? = some u := ⟨m[i.toNat]'(by omega), by simp⟩
    refine Round.at hv (Round.bind (e46 v (hc v (List.mem_of_getElem? hv'))) (Round.chk (by simp [hml]; omega) (Round.at hu (Round.again _ ⟨⟨rfl, ?_, ?_, ?_⟩, ?_⟩)))) <;> simp only [hw]
    · omega
    · omega
    · rw [hm, show (i + 1).toNat = i.toNat + 1 by omega]
      exact set_take hv'
    · omega
  · have hge : ¬ i < (x1.length : Int) := by simpa using hge
    have e : i.toNat = x1.length := by omega
    have : m = x1 := by rw [hm, e]; simp
    rw [this]
    exact Round.done (Evt.some _)
/- spec.l00In -/
theorem e61 (a b c : Int) : Evt (fun n => call T C n 61 (a, b, c, ())) ((inR a b c, ()), ()) := by
  refine Evt.next ?_ (fun n => r61 n a b c)
  refine Evt.ite (fun h => ?_) (fun h => ?_)
  · refine (Evt.some _).of_eq fun n => ?_
    have h : b ≤ a := of_decide_eq_true h
    simp [inR, h]
    rfl
  · refine (Evt.some _).of_eq fun n => ?_
    have h : ¬ b ≤ a := by simpa using h
    simp [inR, h]
    rfl
/- spec.l01Steps -/
theorem e74 (a : Int) : Evt (fun n => call T C n 74 (a, ())) ((inR a 8 360, ()), ()) := Evt.next (Evt.bind (e61 a 8 360) (Evt.some _)) (fun n => r74 n a)
/- spec.l01Lift -/
theorem e65 (a : Int) : Evt (fun n => call T C n 65 (a, ())) ((inR a 0 10000, ()), ()) := Evt.next (Evt.bind (e61 a 0 10000) (Evt.some _)) (fun n => r65 n a)
/- spec.l01Ok -/
theorem e82 (l : List Int) (hl : (l.length : Int) ≤ 140737488351232) : Evt (fun n => call T C n 82 (l, ())) ((okC l, ()), ()) := by
  refine Evt.next ?_ (fun n => r82 n l)
  refine Evt.bind (e74 _) ?_
  refine Evt.ite (fun h => ?_) (fun h => ?_)
  · refine (Evt.some _).of_eq fun n => ?_
    have h : inR (l.length : Int) 8 360 = false := by simpa using h
    simp [okC, h]
    rfl
  · have h : inR (l.length : Int) 8 360 = true := by simpa using h
    have he : okC l = l.all okV := by simp [okC, h]
    rw [he]
    refine loop_evt (fun (x : List Int × Int × Unit) => x.1 = l ∧ 0 ≤ x.2.1 ∧ x.2.1 ≤ (l.length : Int) ∧ l.all okV = (l.drop x.2.1.toNat).all okV) (fun (x : List Int × Int × Unit) => ((l.length : Int) - x.2.1).toNat) (x := (l, 0, ())) ⟨rfl, Int.le_refl _, by simp, by simp⟩ ?_
    rintro ⟨x1, i, _⟩ ⟨h', h0, h1, h2⟩
    simp only at h' h0 h1 h2
    subst h'
    refine Round.ite (fun hlt => ?_) (fun hge => ?_)
    · have hlt : i < (x1.length : Int) := of_decide_eq_true hlt
      obtain ⟨v, hv, hv'⟩ := idx_at h0 hlt
      have hd := drop_cons hv'
      refine Round.at hv (Round.bind (e65 _) (Round.ite (fun hb => ?_) (fun hb => ?_)))
      · have hb : okV v = false := by simpa [okV] using hb
        have h3 : x1.all okV = false := by rw [h2, hd]; simp [hb]
        rw [h3]
        exact Round.done (Evt.some _)
      · have hb : okV v = true := by simpa [okV] using hb
        have hw : wr .i64 (i + 1) = i + 1 := wrap_id (by omega) (by omega)
        refine Round.again _ ⟨⟨rfl, ?_, ?_, ?_⟩, ?_⟩ <;> simp only [hw]
        · omega
        · omega
        · rw [h2, hd, show (i + 1).toNat = i.toNat + 1 by omega]
          simp [hb]
        · omega
    · have hge : ¬ i < (x1.length : Int) := by simpa using hge
      have : x1.drop i.toNat = [] := List.drop_of_length_le (by omega)
      rw [h2, this]
      exact Round.done (Evt.some _)
/- spec.l04Ok -/
theorem e90 (l : List Sft) (hl : Small l) : Evt (fun n => call T C n 90 (l, ())) ((okA l, ()), ()) := by
  refine Evt.next ?_ (fun n => r90 n l)
  refine Evt.bind (e61 _ _ _) ?_
  refine Evt.ite (fun h => ?_) (fun h => ?_)
  · refine (Evt.some _).of_eq fun n => ?_
    have h : inR (l.length : Int) 1 6 = false := by simpa using h
    simp [okA, h]
    rfl
  · have h : inR (l.length : Int) 1 6 = true := by simpa using h
    have he : okA l = l.all okS := by simp [okA, h]
    rw [he]
    have hl1 := hl.1
    refine loop_evt (fun (x : List Sft × Int × Unit) => x.1 = l ∧ 0 ≤ x.2.1 ∧ x.2.1 ≤ (l.length : Int) ∧ l.all okS = (l.drop x.2.1.toNat).all okS) (fun (x : List Sft × Int × Unit) => ((l.length : Int) - x.2.1).toNat) (x := (l, 0, ())) ⟨rfl, Int.le_refl _, by simp, by simp⟩ ?_
    rintro ⟨x1, i, _⟩ ⟨h', h0, h1, h2⟩
    simp only at h' h0 h1 h2
    subst h'
    refine Round.ite (fun hlt => ?_) (fun hge => ?_)
    · have hlt : i < (x1.length : Int) := of_decide_eq_true hlt
      obtain ⟨v, hv, hv'⟩ := idx_at h0 hlt
      have hd := drop_cons hv'
      have bad : okS v = false → x1.all okS = false := fun hb => by rw [h2, hd]; simp [hb]
      refine Round.at hv (Round.bind (e61 _ _ _) (Round.ite (fun hb => ?_) (fun hb1 => ?_)))
      · have hb : inR (wr .i64 v.1) 1 60 = false := by simpa using hb
        rw [bad (by simp [okS, hb])]
        exact Round.done (Evt.some _)
      refine Round.bind (e61 _ _ _) (Round.ite (fun hb => ?_) (fun hb2 => ?_))
      · have hb : inR (wr .i64 v.2.1) 1 60 = false := by simpa using hb
        rw [bad (by simp [okS, hb])]
        exact Round.done (Evt.some _)
      refine Round.bind (e82 _ (hl.get hv')) (Round.ite (fun hb => ?_) (fun hb3 => ?_))
      · have hb : okC v.2.2.2.1 = false := by simpa using hb
        rw [bad (by simp [okS, hb])]
        exact Round.done (Evt.some _)
      refine Round.bind (e61 _ _ _) (Round.ite (fun hb => ?_) (fun hb4 => ?_))
      · have hb : inR (wr .i64 v.2.2.1) 0 (wr .i64 ((v.2.2.2.1.length : Int) - 1)) = false := by simpa using hb
        rw [bad (by simp [okS, hb])]
        exact Round.done (Evt.some _)
      have hb : okS v = true := by
        simp only [Bool.not_eq_true', Bool.not_eq_false, cond_false] at hb1 hb2 hb3 hb4
        simp [okS, hb1, hb2, hb3, hb4]
      have hw : wr .i64 (i + 1) = i + 1 := wrap_id (by omega) (by omega)
      refine Round.again _ ⟨⟨rfl, ?_, ?_, ?_⟩, ?_⟩ <;> simp only [hw]
      · omega
      · omega
      · rw [h2, hd, show (i + 1).toNat = i.toNat + 1 by omega]
        simp [hb]
      · omega
    · have hge : ¬ i < (x1.length : Int) := by simpa using hge
      have : x1.drop i.toNat = [] := List.drop_of_length_le (by omega)
      rw [h2, this]
      exact Round.done (Evt.some _)
/- spec.l04Gcd -/
theorem e100 : ∀ (b a : Nat), Evt (fun n => call T C n 100 ((a : Int), (b : Int), ())) ((((Nat.gcd a b : Nat) : Int), ()), ()) := by
  intro b
  induction b using Nat.strongRecOn with
  | ind b ih =>
    intro a
    refine Evt.next ?_ (fun n => r100 n a b)
    refine Evt.ite (fun h => ?_) (fun h => ?_)
    · have h : b = 0 := by simpa using h
      subst h
      rw [Nat.gcd_zero_right]
      exact Evt.some _
    · have h : b ≠ 0 := by simpa using h
      refine Evt.chk (by simpa using h) ?_
      rw [← Int.ofNat_tmod]
      have := ih (a % b) (Nat.mod_lt _ (by omega)) b
      rw [show Nat.gcd a b = Nat.gcd b (a % b) by rw [Nat.gcd_comm a b, Nat.gcd_rec b a, Nat.gcd_comm]]
      exact Evt.bind this (Evt.some _)
theorem e100' {a b : Int} (ha : 0 ≤ a) (hb : 0 ≤ b) : Evt (fun n => call T C n 100 (a, b, ())) ((gg a b, ()), ()) := by
  have := e100 b.toNat a.toNat
  rw [show ((a.toNat : Nat) : Int) = a by omega, show ((b.toNat : Nat) : Int) = b by omega] at this
  exact this
/- spec.l04Own -/
theorem e99 {s : Sft} (h : Good s) : Evt (fun n => call T C n 99 (s, ())) ((own s, ()), ()) := by
  have h1 := dl_eq h
  have hg := gg_pos (a := dl s) (b := wr .i64 s.1) (by omega)
  refine Evt.next (Evt.bind (e100' (a := dl s) (by omega) (by have := h.num; omega)) (Evt.chk ?_ (Evt.some _))) (fun n => r99 n s)
  exact bne_pos hg
/- spec.l04All -/
theorem e51 (l : List Sft) (hl : Small l) (hok : okA l = true) : Evt (fun n => call T C n 51 (l, ())) (allR l, ()) := by
  have hG := okA_good hok
  refine Evt.next (Evt.bind (e90 l hl) ?_) (fun n => r51 n l)
  refine Evt.no (by simp [hok]) ?_
  refine loop_evt (fun (x : List Sft × Int × Int × Unit) => x.1 = l ∧ 1 ≤ x.2.1 ∧ x.2.1 ≤ 20000 ∧ 0 ≤ x.2.2.1 ∧ x.2.2.1 ≤ (l.length : Int) ∧ per l 1 = per (l.drop x.2.2.1.toNat) x.2.1) (fun (x : List Sft × Int × Int × Unit) => ((l.length : Int) - x.2.2.1).toNat) (x := (l, 1, 0, ())) ⟨rfl, by simp, by simp, by simp, by simp, by simp⟩ ?_
  rintro ⟨x1, t, i, _⟩ ⟨h', t0, t1, h0, h1, h2⟩
  simp only at h' t0 t1 h0 h1 h2
  subst h'
  refine Round.ite (fun hlt => ?_) (fun hge => ?_)
  · have hlt : i < (x1.length : Int) := of_decide_eq_true hlt
    obtain ⟨v, hv, hv'⟩ := idx_at h0 hlt
    have hd := drop_cons hv'
    have hgv := hG.2 v (List.mem_of_getElem? hv')
    have ho := own_eq hgv
    have hg := gg_pos (a := t) (b := own v) (by omega)
    refine Round.at hv (Round.bind (e99 hgv) (Round.bind (e100' (a := t) (b := own v) (by omega) (by omega)) (Round.chk (bne_pos hg) ?_)))
    refine Round.ite (fun hb => ?_) (fun hb => ?_)
    · have hb : nxt t v > 20000 := of_decide_eq_true hb
      have h3 : per x1 1 = none := by rw [h2, hd]; simp [per, hb]
      unfold allR
      rw [h3]
      exact Round.done (Evt.some _)
    · have hb : ¬ nxt t v > 20000 := by simpa [nxt] using hb
      have hw : wr .i64 (i + 1) = i + 1 := wrap_id (by omega) (by omega)
      have hp := nxt_pos hgv t0 t1
      refine Round.again _ ⟨⟨rfl, hp, by show nxt t v ≤ 20000; omega, ?_, ?_, ?_⟩, ?_⟩ <;> simp only [hw]
      · omega
      · omega
      · rw [h2, hd, show (i + 1).toNat = i.toNat + 1 by omega]
        simp only [per]
        rw [if_neg hb]
        rfl
      · omega
  · have hge : ¬ i < (x1.length : Int) := by simpa using hge
    have : x1.drop i.toNat = [] := List.drop_of_length_le (by omega)
    have h3 : per x1 1 = some t := by rw [h2, this]; rfl
    unfold allR
    rw [h3]
    exact Round.done (Evt.some _)
theorem e51' (l : List Sft) (hl : Small l) : Evt (fun n => call T C n 51 (l, ())) (codeR l true, ()) := by
  cases hok : okA l with
  | true =>
    have h := e51 l hl hok
    unfold codeR
    rw [if_neg (by simp [hok]), if_neg (by simp)]
    exact h
  | false =>
    unfold codeR
    rw [if_pos hok]
    refine Evt.next (Evt.bind (e90 l hl) ?_) (fun n => r51 n l)
    exact Evt.yes (by simp [hok]) (Evt.some _)
/- spec.l04Step -/
theorem e101 {s : Sft} (h : Good s) (t : Int) : Evt (fun n => call T C n 101 (s, t, ())) ((stp s t, ()), ()) := Evt.next (Evt.chk (den_ne h) (Evt.chk (len_ne h) (Evt.some _))) (fun n => r101 n s t)
/- spec.l04Lift -/
theorem e52 {s : Sft} (h : Good s) {t : Int} (h0 : 0 ≤ t) (h1 : t ≤ 20000) : Evt (fun n => call T C n 52 (s, t, ())) ((lift s t, ()), ()) := by
  obtain ⟨⟨v, hv, he⟩, _⟩ := lift_eq h h0 h1
  rw [he]
  refine Evt.next (Evt.bind (e101 h t) ?_) (fun n => r52 n s t)
  exact Evt.at hv (Evt.some ((wr .i64 v, ()), ()))
/- spec.SumOfLifts -/
theorem e18 (l : List Sft) (hl : Small l) : Evt (fun n => call T C n 18 (l, ())) (sumR l, ()) := by
  refine Evt.next (Evt.bind (e51' l hl) ?_) (fun n => r18 n l)
  unfold sumR
  refine Evt.ite (fun h => ?_) (fun h => ?_)
  · have h : ¬ (codeR l true).2.1 = (0 : Int) := by simpa using h
    rw [if_pos h]; exact Evt.some _
  · have h : (codeR l true).2.1 = (0 : Int) := by simpa using h
    rw [if_neg (by simpa using h)]
    obtain ⟨hok, hp0, hp1⟩ := code_ok h
    have hG := okA_good hok
    generalize (codeR l true).1 = p at hp0 hp1
    change Int at p
    have hp0 : (0 : Int) ≤ p := hp0
    have hp1 : p ≤ (20000 : Int) := hp1
    refine for_evt' 0 p (fun t (_ : Unit) => (l, p, sums l t.toNat, t, ())) (fun _ _ => True) (b0 := ()) rfl hp0 trivial ?_ ?_
    · intro t _ t0 t1 _
      refine Round.yes (decide_eq_true t1) ?_
      refine for_round' 0 (l.length : Int) (fun i (_ : Unit) => (l, p, sums l t.toNat, t, sumL (l.take i.toNat) t, i, ())) (fun _ _ => True) (b0 := ()) rfl (by omega) trivial ?_ ?_
      · intro i _ h2 h3 _
        obtain ⟨s, hs⟩ := at_of h2 h3
        have hle := sumL_le (l := l.take i.toNat) (fun x hx => hG.2 x (List.mem_of_mem_take hx)) t0 (show t ≤ 20000 by omega)
        have hlf := (lift_eq (hG.2 s hs.mem) t0 (show t ≤ 20000 by omega)).2
        have htl : (l.take i.toNat).length ≤ 6 := by rw [List.length_take]; omega
        refine Round.yes (decide_eq_true h3) (Round.at hs.idx (Round.bind (e52 (hG.2 s hs.mem) t0 (show t ≤ 20000 by omega)) (Round.inr _ ⟨(), ?_, trivial⟩)))
        rw [hs.take, sumL_snoc, wr_succ h2 h3 (by omega), wrap_id (x := sumL (l.take i.toNat) t + lift s t) (by omega) (by omega)]
      · intro _ _
        refine Round.no (by simp) (Round.chk (by simp [sums_len]; omega) (Round.inl _ ⟨(), ?_, trivial⟩))
        rw [take_all, sums_succ l t0, wr_succ t0 t1 (by omega)]
    · intro _ _
      exact Round.no (by simp) (Round.done (Evt.some _))
/- impl.inRange -/
theorem e57 (a b c : Int) : Evt (fun n => call T C n 57 (a, b, c, ())) ((inR a b c, ()), ()) := by
  refine Evt.next ?_ (fun n => r57 n a b c)
  refine Evt.ite (fun h => ?_) (fun h => ?_)
  · refine (Evt.some _).of_eq fun n => ?_
    have h : b ≤ a := of_decide_eq_true h
    simp [inR, h]
    rfl
  · refine (Evt.some _).of_eq fun n => ?_
    have h : ¬ b ≤ a := by simpa using h
    simp [inR, h]
    rfl
/- (impl.Cam).steps -/
theorem e48 (a : List Int) : Evt (fun n => call T C n 48 (a, ())) (((a.length : Int), ()), ()) := Evt.next (Evt.some _) (fun n => r48 n a)
/- impl.isSteps -/
theorem e72 (a : Int) : Evt (fun n => call T C n 72 (a, ())) ((inR a 8 360, ()), ()) := Evt.next (Evt.bind (e57 a 8 360) (Evt.some _)) (fun n => r72 n a)
/- impl.isLift -/
theorem e71 (a : Int) : Evt (fun n => call T C n 71 (a, ())) ((inR a 0 10000, ()), ()) := Evt.next (Evt.bind (e57 a 0 10000) (Evt.some _)) (fun n => r71 n a)
/- impl.ValidCam$1 -/
theorem e114 (v : Int) : Evt (fun n => call T C n 114 (v, ())) ((!okV v, ()), ()) := Evt.next (Evt.bind (e71 _) (Evt.some _)) (fun n => r114 n v)
/- slices.IndexFunc[impl.Cam,int16]{impl.ValidCam$1} -/
theorem e127 (l : List Int) (hl : (l.length : Int) ≤ 140737488351232) : Evt (fun n => call T C n 127 (l, ((), ()), ())) ((fi (fun v => !okV v) l 0, ()), ()) := by
  refine Evt.next ?_ (fun n => r127 n l ((), ()))
  refine loop_evt (fun (x : List Int × (Unit × Unit) × Int × Int × Unit) => x.1 = l ∧ x.2.2.1 = (l.length : Int) ∧ 0 ≤ x.2.2.2.1 ∧ x.2.2.2.1 ≤ (l.length : Int) ∧ fi (fun v => !okV v) l 0 = fi (fun v => !okV v) (l.drop x.2.2.2.1.toNat) x.2.2.2.1) (fun (x : List Int × (Unit × Unit) × Int × Int × Unit) => ((l.length : Int) - x.2.2.2.1).toNat) (x := (l, ((), ()), (l.length : Int), 0, ())) ⟨rfl, rfl, Int.le_refl _, by simp, by simp⟩ ?_
  rintro ⟨x1, u, m, i, _⟩ ⟨h', hm, h0, h1, h2⟩
  simp only at h' hm h0 h1 h2
  subst h'; subst hm
  refine Round.ite (fun hlt => ?_) (fun hge => ?_)
  · have hlt : i < (x1.length : Int) := of_decide_eq_true hlt
    obtain ⟨v, hv, hv'⟩ := idx_at h0 hlt
    have hd := drop_cons hv'
    refine Round.at hv (Round.bind (e114 _) (Round.ite (fun hb => ?_) (fun hb => ?_)))
    · have hb : okV v = false := by simpa using hb
      have h3 : fi (fun v => !okV v) x1 0 = i := by rw [h2, hd]; simp [fi, hb]
      rw [h3]
      exact Round.done (Evt.some _)
    · have hb : okV v = true := by simpa using hb
      have hw : wr .i64 (i + 1) = i + 1 := wrap_id (by omega) (by omega)
      refine Round.again _ ⟨⟨rfl, rfl, ?_, ?_, ?_⟩, ?_⟩ <;> simp only [hw]
      · omega
      · omega
      · rw [h2, hd, show (i + 1).toNat = i.toNat + 1 by omega]
        simp [fi, hb]
      · omega
  · have hge : ¬ i < (x1.length : Int) := by simpa using hge
    have : x1.drop i.toNat = [] := List.drop_of_length_le (by omega)
    rw [h2, this]
    exact Round.done (Evt.some _)
/- slices.ContainsFunc[impl.Cam,int16]{impl.ValidCam$1} -/
theorem e113 (l : List Int) (hl : (l.length : Int) ≤ 140737488351232) : Evt (fun n => call T C n 113 (l, ((), ()), ())) ((l.any (fun v => !okV v), ()), ()) := by
  refine Evt.next (Evt.bind (e127 l hl) ((Evt.some _).of_eq fun n => ?_)) (fun n => r113 n l ((), ()))
  simp only [fi_any _ l 0 (Int.le_refl _)]
  rfl
/- impl.ValidCam -/
theorem e85 (l : List Int) (hl : (l.length : Int) ≤ 140737488351232) : Evt (fun n => call T C n 85 (l, ())) ((okC l, ()), ()) := by
  refine Evt.next (Evt.bind (e48 l) (Evt.bind (e72 _) ?_)) (fun n => r85 n l)
  refine Evt.ite (fun h => ?_) (fun h => ?_)
  · refine Evt.bind (e113 l hl) ((Evt.some _).of_eq fun n => ?_)
    have h : inR (l.length : Int) 8 360 = true := h
    have : okC l = !l.any (fun v => !okV v) := by simp [okC, h, List.any_eq_not_all_not]
    rw [this]
    rfl
  · refine (Evt.some _).of_eq fun n => ?_
    have h : inR (l.length : Int) 8 360 = false := by simpa using h
    simp [okC, h]
    rfl
/- impl.isPlace -/
theorem e93 (a b : Int) : Evt (fun n => call T C n 93 (a, b, ())) ((inR a 0 (wr .i64 (b - 1)), ()), ()) := Evt.next (Evt.bind (e57 _ _ _) (Evt.some _)) (fun n => r93 n a b)
/- impl.ValidShafts$1 -/
theorem e120 (s : Sft) (hl : (s.2.2.2.1.length : Int) ≤ 140737488351232) : Evt (fun n => call T C n 120 (s, ())) ((!okS s, ()), ()) := by
  refine Evt.next (Evt.bind (e57 _ _ _) ?_) (fun n => r120 n s)
  refine Evt.ite (fun h => ?_) (fun h => ?_)
  · have h : inR (wr .i64 s.1) 1 60 = false := by simpa using h
    have : okS s = false := by simp [okS, h]
    rw [this]; exact Evt.some _
  · have h1 : inR (wr .i64 s.1) 1 60 = true := by simpa using h
    refine Evt.bind (e57 _ _ _) (Evt.ite (fun h => ?_) (fun h => ?_))
    · have h : inR (wr .i64 s.2.1) 1 60 = false := by simpa using h
      have : okS s = false := by simp [okS, h]
      rw [this]; exact Evt.some _
    · have h2 : inR (wr .i64 s.2.1) 1 60 = true := by simpa using h
      refine Evt.bind (e85 _ hl) (Evt.ite (fun h => ?_) (fun h => ?_))
      · have h : okC s.2.2.2.1 = false := by simpa using h
        have : okS s = false := by simp [okS, h]
        rw [this]; exact Evt.some _
      · have h3 : okC s.2.2.2.1 = true := by simpa using h
        refine Evt.bind (e93 _ _) ((Evt.some _).of_eq fun n => ?_)
        have : okS s = inR (wr .i64 s.2.2.1) 0 (wr .i64 ((s.2.2.2.1.length : Int) - 1)) := by simp [okS, h1, h2, h3]
        rw [this]
        rfl
/- slices.IndexFunc[[]impl.Shaft,impl.Shaft]{impl.ValidShafts$1} -/
theorem e130 (l : List Sft) (hl : Small l) : Evt (fun n => call T C n 130 (l, ((), ()), ())) ((fi (fun v => !okS v) l 0, ()), ()) := by
  refine Evt.next ?_ (fun n => r130 n l ((), ()))
  refine loop_evt (fun (x : List Sft × (Unit × Unit) × Int × Int × Unit) => x.1 = l ∧ x.2.2.1 = (l.length : Int) ∧ 0 ≤ x.2.2.2.1 ∧ x.2.2.2.1 ≤ (l.length : Int) ∧ fi (fun v => !okS v) l 0 = fi (fun v => !okS v) (l.drop x.2.2.2.1.toNat) x.2.2.2.1) (fun (x : List Sft × (Unit × Unit) × Int × Int × Unit) => ((l.length : Int) - x.2.2.2.1).toNat) (x := (l, ((), ()), (l.length : Int), 0, ())) ⟨rfl, rfl, Int.le_refl _, by simp, by simp⟩ ?_
  rintro ⟨x1, u, m, i, _⟩ ⟨h', hm, h0, h1, h2⟩
  simp only at h' hm h0 h1 h2
  subst h'; subst hm
  have hl1 := hl.1
  refine Round.ite (fun hlt => ?_) (fun hge => ?_)
  · have hlt : i < (x1.length : Int) := of_decide_eq_true hlt
    obtain ⟨v, hv, hv'⟩ := idx_at h0 hlt
    have hd := drop_cons hv'
    refine Round.at hv (Round.bind (e120 _ (hl.get hv')) (Round.ite (fun hb => ?_) (fun hb => ?_)))
    · have hb : okS v = false := by simpa using hb
      have h3 : fi (fun v => !okS v) x1 0 = i := by rw [h2, hd]; simp [fi, hb]
      rw [h3]
      exact Round.done (Evt.some _)
    · have hb : okS v = true := by simpa using hb
      have hw : wr .i64 (i + 1) = i + 1 := wrap_id (by omega) (by omega)
      refine Round.again _ ⟨⟨rfl, rfl, ?_, ?_, ?_⟩, ?_⟩ <;> simp only [hw]
      · omega
      · omega
      · rw [h2, hd, show (i + 1).toNat = i.toNat + 1 by omega]
        simp [fi, hb]
      · omega
  · have hge : ¬ i < (x1.length : Int) := by simpa using hge
    have : x1.drop i.toNat = [] := List.drop_of_length_le (by omega)
    rw [h2, this]
    exact Round.done (Evt.some _)
/- slices.ContainsFunc[[]impl.Shaft,impl.Shaft]{impl.ValidShafts$1} -/
theorem e119 (l : List Sft) (hl : Small l) : Evt (fun n => call T C n 119 (l, ((), ()), ())) ((l.any (fun v => !okS v), ()), ()) := by
  refine Evt.next (Evt.bind (e130 l hl) ((Evt.some _).of_eq fun n => ?_)) (fun n => r119 n l ((), ()))
  simp only [fi_any _ l 0 (Int.le_refl _)]
  rfl
/- impl.ValidShafts -/
theorem e102 (l : List Sft) (hl : Small l) : Evt (fun n => call T C n 102 (l, ())) ((okA l, ()), ()) := by
  refine Evt.next (Evt.bind (e57 _ _ _) ?_) (fun n => r102 n l)
  refine Evt.ite (fun h => ?_) (fun h => ?_)
  · refine Evt.bind (e119 l hl) ((Evt.some _).of_eq fun n => ?_)
    have h : inR (l.length : Int) 1 6 = true := h
    have : okA l = !l.any (fun v => !okS v) := by simp [okA, h, List.any_eq_not_all_not]
    rw [this]
    rfl
  · refine (Evt.some _).of_eq fun n => ?_
    have h : inR (l.length : Int) 1 6 = false := by simpa using h
    simp [okA, h]
    rfl
/- impl.codeIf -/
theorem e96 (c : Bool) (v : Int) : Evt (fun n => call T C n 96 (c, v, ())) (((if c = true then v else 0), ()), ()) := by
  refine Evt.next ?_ (fun n => r96 n c v)
  cases c with
  | true => exact Evt.yes rfl (Evt.some _)
  | false => exact Evt.no (by simp) (Evt.some _)
/- impl.firstCode -/
theorem e95 (l : List Int) (hl : (l.length : Int) ≤ 140737488351232) : Evt (fun n => call T C n 95 (l, ())) ((fst0 l, ()), ()) := by
  refine Evt.next ?_ (fun n => r95 n l)
  refine loop_evt (fun (x : List Int × Int × Int × Unit) => x.1 = l ∧ x.2.1 = (l.length : Int) ∧ 0 ≤ x.2.2.1 ∧ x.2.2.1 ≤ (l.length : Int) ∧ fst0 l = fst0 (l.drop x.2.2.1.toNat)) (fun (x : List Int × Int × Int × Unit) => ((l.length : Int) - x.2.2.1).toNat) (x := (l, (l.length : Int), 0, ())) ⟨rfl, rfl, Int.le_refl _, by simp, by simp⟩ ?_
  rintro ⟨x1, m, i, _⟩ ⟨h', hm, h0, h1, h2⟩
  simp only at h' hm h0 h1 h2
  subst h'; subst hm
  refine Round.ite (fun hlt => ?_) (fun hge => ?_)
  · have hlt : i < (x1.length : Int) := of_decide_eq_true hlt
    obtain ⟨v, hv, hv'⟩ := idx_at h0 hlt
    have hd := drop_cons hv'
    refine Round.at hv (Round.ite (fun hb => ?_) (fun hb => ?_))
    · have hb : v ≠ 0 := by simpa using hb
      have h3 : fst0 x1 = v := by rw [h2, hd]; simp [fst0, hb]
      rw [h3]
      exact Round.done (Evt.some _)
    · have hb : v = 0 := by simpa using hb
      have hw : wr .i64 (i + 1) = i + 1 := wrap_id (by omega) (by omega)
      refine Round.again _ ⟨⟨rfl, rfl, ?_, ?_, ?_⟩, ?_⟩ <;> simp only [hw]
      · omega
      · omega
      · rw [h2, hd, show (i + 1).toNat = i.toNat + 1 by omega]
        simp [fst0, hb]
      · omega
  · have hge : ¬ i < (x1.length : Int) := by simpa using hge
    have : x1.drop i.toNat = [] := List.drop_of_length_le (by omega)
    rw [h2, this]
    exact Round.done (Evt.some _)
/- impl.common -/
theorem e122 (a b : Nat) : Evt (fun n => call T C n 122 ((a : Int), (b : Int), ())) ((((Nat.gcd a b : Nat) : Int), ()), ()) := by
  refine Evt.next ?_ (fun n => r122 n a b)
  refine loop_evt (fun (x : Int × Int × Unit) => ∃ p q : Nat, x = ((p : Int), (q : Int), ()) ∧ Nat.gcd p q = Nat.gcd a b) (fun (x : Int × Int × Unit) => x.2.1.toNat) (x := ((a : Int), (b : Int), ())) ⟨a, b, rfl, rfl⟩ ?_
  rintro x ⟨p, q, rfl, hg⟩
  refine Round.ite (fun h => ?_) (fun h => ?_)
  · have h : q ≠ 0 := by simpa using h
    refine Round.chk (by simpa using h) ?_
    refine Round.again _ ⟨⟨q, p % q, ?_, ?_⟩, ?_⟩
    · simp only [Int.ofNat_tmod]
    · rw [← hg, Nat.gcd_comm p q, Nat.gcd_rec q p, Nat.gcd_comm]
    · show (Int.tmod (p : Int) (q : Int)).toNat < ((q : Int)).toNat
      rw [← Int.ofNat_tmod]
      have := Nat.mod_lt p (show q > 0 by omega)
      omega
  · have h : q = 0 := by simpa using h
    subst h
    rw [← hg, Nat.gcd_zero_right]
    exact Round.done (Evt.some _)
theorem e122' {a b : Int} (ha : 0 ≤ a) (hb : 0 ≤ b) : Evt (fun n => call T C n 122 (a, b, ())) ((gg a b, ()), ()) := by
  have := e122 a.toNat b.toNat
  rw [show ((a.toNat : Nat) : Int) = a by omega, show ((b.toNat : Nat) : Int) = b by omega] at this
  exact this
/- (impl.Shaft).period -/
theorem e121 {s : Sft} (h : Good s) : Evt (fun n => call T C n 121 (s, ())) ((own s, ()), ()) := by
  have h1 := dl_eq h
  have hg := gg_pos (a := dl s) (b := wr .i64 s.1) (by omega)
  refine Evt.next (Evt.bind (e48 _) (Evt.bind (e122' (a := dl s) (by omega) (by have := h.num; omega)) (Evt.chk ?_ (Evt.some _)))) (fun n => r121 n s)
  exact bne_pos hg
/- impl.periodOf -/
theorem e103 (l : List Sft) (hok : okA l = true) : Evt (fun n => call T C n 103 (l, ())) (perR l, ()) := by
  have hG := okA_good hok
  refine Evt.next ?_ (fun n => r103 n l)
  refine loop_evt (fun (x : Int × List Sft × Int × Int × Unit) => x.2.1 = l ∧ x.2.2.1 = (l.length : Int) ∧ 1 ≤ x.1 ∧ x.1 ≤ 20000 ∧ 0 ≤ x.2.2.2.1 ∧ x.2.2.2.1 ≤ (l.length : Int) ∧ per l 1 = per (l.drop x.2.2.2.1.toNat) x.1) (fun (x : Int × List Sft × Int × Int × Unit) => ((l.length : Int) - x.2.2.2.1).toNat) (x := (1, l, (l.length : Int), 0, ())) ⟨rfl, rfl, by simp, by simp, by simp, by simp, by simp⟩ ?_
  rintro ⟨t, x1, m, i, _⟩ ⟨h', hm, t0, t1, h0, h1, h2⟩
  simp only at h' hm t0 t1 h0 h1 h2
  subst h'; subst hm
  refine Round.ite (fun hlt => ?_) (fun hge => ?_)
  · have hlt : i < (x1.length : Int) := of_decide_eq_true hlt
    obtain ⟨v, hv, hv'⟩ := idx_at h0 hlt
    have hd := drop_cons hv'
    have hgv := hG.2 v (List.mem_of_getElem? hv')
    have ho := own_eq hgv
    have hg := gg_pos (a := t) (b := own v) (by omega)
    refine Round.at hv (Round.bind (e121 hgv) (Round.bind (e122' (a := t) (b := own v) (by omega) (by omega)) (Round.chk (bne_pos hg) ?_)))
    refine Round.ite (fun hb => ?_) (fun hb => ?_)
    · have hb : nxt t v > 20000 := of_decide_eq_true hb
      have h3 : per x1 1 = none := by rw [h2, hd]; simp [per, hb]
      unfold perR
      rw [h3]
      exact Round.done (Evt.some _)
    · have hb : ¬ nxt t v > 20000 := by simpa [nxt] using hb
      have hw : wr .i64 (i + 1) = i + 1 := wrap_id (by omega) (by omega)
      have hp := nxt_pos hgv t0 t1
      refine Round.again _ ⟨⟨rfl, rfl, hp, by show nxt t v ≤ 20000; omega, ?_, ?_, ?_⟩, ?_⟩ <;> simp only [hw]
      · omega
      · omega
      · rw [h2, hd, show (i + 1).toNat = i.toNat + 1 by omega]
        simp only [per]
        rw [if_neg hb]
        rfl
      · omega
  · have hge : ¬ i < (x1.length : Int) := by simpa using hge
    have : x1.drop i.toNat = [] := List.drop_of_length_le (by omega)
    have h3 : per x1 1 = some t := by rw [h2, this]; rfl
    unfold perR
    rw [h3]
    exact Round.done (Evt.some _)
/- impl.shaftsCode -/
theorem e53 (l : List Sft) (hl : Small l) (room : Bool) : Evt (fun n => call T C n 53 (l, room, ())) (codeR l room, ()) := by
  refine Evt.next (Evt.bind (e102 l hl) (Evt.bind (e96 _ _) (Evt.bind (e96 _ _) (Evt.bind (e95 _ (by simp)) ?_)))) (fun n => r53 n l room)
  unfold codeR
  cases hok : okA l with
  | false =>
    refine Evt.yes (by simp [fst0]) ((Evt.some _).of_eq fun n => ?_)
    simp [fst0]
    rfl
  | true =>
    cases room with
    | false =>
      refine Evt.yes (by simp [fst0]) ((Evt.some _).of_eq fun n => ?_)
      simp [fst0]
      rfl
    | true =>
      refine Evt.no (by simp [fst0]) (Evt.bind (e103 l hok) (Evt.bind (e96 _ _) ((Evt.some _).of_eq fun n => ?_)))
      unfold perR allR
      cases per l 1 <;> rfl
/- (impl.Shaft).step -/
theorem e118 {s : Sft} (h : Good s) (t : Int) {p : Int} (h0 : 0 ≤ p) (h1 : p ≤ 360) : Evt (fun n => call T C n 118 (s, t, p, ())) ((stp (withP s p) t, ()), ()) := by
  refine Evt.next (Evt.chk (den_ne h) (Evt.bind (e48 _) (Evt.chk (len_ne h) ((Evt.some _).of_eq fun n => ?_)))) (fun n => r118 n s t p)
  unfold stp withP
  simp only [wrap_id (x := p) (by omega) (by omega)]
  rfl
/- (impl.Shaft).lift -/
theorem e98 {s : Sft} (h : Good s) {t : Int} (h0 : 0 ≤ t) (h1 : t ≤ 20000) {p : Int} (p0 : 0 ≤ p) (p1 : p ≤ 360) : Evt (fun n => call T C n 98 (s, t, p, ())) ((lift (withP s p) t, ()), ()) := by
  obtain ⟨⟨v, hv, he⟩, _⟩ := lift_eq (h.withP p0 p1) h0 h1
  rw [he]
  refine Evt.next (Evt.bind (e118 h t p0 p1) ?_) (fun n => r98 n s t p)
  exact Evt.at hv (Evt.some ((wr .i64 v, ()), ()))
/- (impl.Shaft).now -/
theorem e97 {s : Sft} (h : Good s) {t : Int} (h0 : 0 ≤ t) (h1 : t ≤ 20000) : Evt (fun n => call T C n 97 (s, t, ())) ((lift s t, ()), ()) := by
  have e := e98 h h0 h1 (p := wr .i64 s.2.2.1) h.ph.1 h.ph.2
  rw [lift_wr h t] at e
  exact Evt.next (Evt.bind e (Evt.some _)) (fun n => r97 n s t)
/- impl.liftsOn -/
theorem e54 (l : List Sft) (hG : (1 ≤ (l.length : Int) ∧ (l.length : Int) ≤ 6) ∧ ∀ s ∈ l, Good s) {t : Int} (t0 : 0 ≤ t) (t1 : t ≤ 20000) : Evt (fun n => call T C n 54 (l, t, ())) ((l.map (lift · t), ()), ()) := by
  refine Evt.next ?_ (fun n => r54 n l t)
  refine loop_evt (fun (x : Int × List Int × List Sft × Int × Int × Unit) => x.1 = t ∧ x.2.2.1 = l ∧ x.2.2.2.1 = (l.length : Int) ∧ 0 ≤ x.2.2.2.2.1 ∧ x.2.2.2.2.1 ≤ (l.length : Int) ∧ x.2.1 = (l.take x.2.2.2.2.1.toNat).map (lift · t)) (fun (x : Int × List Int × List Sft × Int × Int × Unit) => ((l.length : Int) - x.2.2.2.2.1).toNat) (x := (t, [], l, (l.length : Int), 0, ())) ⟨rfl, rfl, rfl, Int.le_refl _, by simp, by simp⟩ ?_
  rintro ⟨tt, m, x1, mm, i, _⟩ ⟨h', h'', hmm, h0, h1, hm⟩
  simp only at h' h'' hmm h0 h1 hm
  subst h'; subst h''; subst hmm
  have hG1 := hG.1
  refine Round.ite (fun hlt => ?_) (fun hge => ?_)
  · have hlt : i < (x1.length : Int) := of_decide_eq_true hlt
    obtain ⟨v, hv, hv'⟩ := idx_at h0 hlt
    have hw : wr .i64 (i + 1) = i + 1 := wrap_id (by omega) (by omega)
    have hml : m.length ≤ 6 := by rw [hm]; simp; omega
    refine Round.at hv (Round.bind (e97 (hG.2 v (List.mem_of_getElem? hv')) t0 t1) (Round.chk (by simp; omega) (Round.again _ ⟨⟨rfl, rfl, rfl, ?_, ?_, ?_⟩, ?_⟩))) <;> simp only [hw]
    · omega
    · omega
    · rw [hm, show (i + 1).toNat = i.toNat + 1 by omega, List.take_add_one, hv']
      simp
    · omega
  · have hge : ¬ i < (x1.length : Int) := by simpa using hge
    have : m = x1.map (lift · tt) := by rw [hm, List.take_of_length_le (by omega)]
    rw [← this]
    exact Round.done (Evt.some _)
/- impl.SumOfLifts -/
theorem e19 (l : List Sft) (hl : Small l) : Evt (fun n => call T C n 19 (l, ())) (sumR l, ()) := by
  refine Evt.next (Evt.bind (e53 l hl true) ?_) (fun n => r19 n l)
  unfold sumR
  refine Evt.ite (fun h => ?_) (fun h => ?_)
  · have h : ¬ (codeR l true).2.1 = (0 : Int) := by simpa using h
    rw [if_pos h]; exact Evt.some _
  · have h : (codeR l true).2.1 = (0 : Int) := by simpa using h
    rw [if_neg (by simpa using h)]
    obtain ⟨hok, hp0, hp1⟩ := code_ok h
    have hG := okA_good hok
    generalize (codeR l true).1 = p at hp0 hp1
    change Int at p
    have hp0 : (0 : Int) ≤ p := hp0
    have hp1 : p ≤ (20000 : Int) := hp1
    refine for_evt' 0 p (fun t (_ : Unit) => (l, sums l t.toNat, p, t, ())) (fun _ _ => True) (b0 := ()) rfl hp0 trivial ?_ ?_
    · intro t _ t0 t1 _
      refine Round.yes (decide_eq_true t1) (Round.bind (e54 l hG t0 (show t ≤ 20000 by omega)) ?_)
      refine for_round' 0 (l.length : Int) (fun i (_ : Unit) => (l, sums l t.toNat, sumL (l.take i.toNat) t, p, t, l.map (lift · t), (l.length : Int), i, ())) (fun _ _ => True) (b0 := ()) (by simp [sumL]) (by omega) trivial ?_ ?_
      · intro i _ h2 h3 _
        obtain ⟨s, hs⟩ := at_of h2 h3
        have hle := sumL_le (l := l.take i.toNat) (fun x hx => hG.2 x (List.mem_of_mem_take hx)) t0 (show t ≤ 20000 by omega)
        have hlf := (lift_eq (hG.2 s hs.mem) t0 (show t ≤ 20000 by omega)).2
        have htl : (l.take i.toNat).length ≤ 6 := by rw [List.length_take]; omega
        refine Round.yes (decide_eq_true h3) (Round.at (hs.map (lift · t)).idx (Round.inr _ ⟨(), ?_, trivial⟩))
        rw [hs.take, sumL_snoc, wr_succ h2 h3 (by omega), wrap_id (x := sumL (l.take i.toNat) t + lift s t) (by omega) (by omega)]
      · intro _ _
        refine Round.no (by simp) (Round.chk (by simp [sums_len]; omega) (Round.inl _ ⟨(), ?_, trivial⟩))
        rw [take_all, sums_succ l t0, wr_succ t0 t1 (by omega)]
    · intro _ _
      exact Round.no (by simp) (Round.done (Evt.some _))
/- laws.eqInt64S -/
theorem e20 (l : List Int) (hl : (l.length : Int) ≤ 140737488351232) : Evt (fun n => call T C n 20 (l, l, ())) ((true, ()), ()) := by
  refine Evt.next (Evt.no (by simp) ?_) (fun n => r20 n l l)
  refine for_evt 0 (l.length : Int) (fun i (_ : Unit) => (l, l, i, ())) (fun _ _ => True) (b0 := ()) (by omega) trivial ?_ ?_
  · intro i _ h2 h3 _
    obtain ⟨v, hv⟩ := at_of h2 h3
    refine Round.yes (decide_eq_true h3) (Round.at hv.idx (Round.at hv.idx (Round.no (by simp) (Round.again _ ⟨(), ?_, trivial⟩))))
    rw [wr_succ h2 h3 (by omega)]
  · intro _ _
    exact Round.no (by simp) (Round.done (Evt.some _))
/- laws.eqCam -/
theorem e42 (l : List Int) (hl : (l.length : Int) ≤ 140737488351232) : Evt (fun n => call T C n 42 (l, l, ())) ((true, ()), ()) := by
  refine Evt.next (Evt.no (by simp) ?_) (fun n => r42 n l l)
  refine for_evt 0 (l.length : Int) (fun i (_ : Unit) => (l, l, i, ())) (fun _ _ => True) (b0 := ()) (by omega) trivial ?_ ?_
  · intro i _ h2 h3 _
    obtain ⟨v, hv⟩ := at_of h2 h3
    refine Round.yes (decide_eq_true h3) (Round.at hv.idx (Round.at hv.idx (Round.no (by simp) (Round.again _ ⟨(), ?_, trivial⟩))))
    rw [wr_succ h2 h3 (by omega)]
  · intro _ _
    exact Round.no (by simp) (Round.done (Evt.some _))
/- laws.eqShaft -/
theorem e50 (s : Sft) (hl : (s.2.2.2.1.length : Int) ≤ 140737488351232) : Evt (fun n => call T C n 50 (s, s, ())) ((true, ()), ()) :=
  Evt.next (Evt.no (by simp) (Evt.no (by simp) (Evt.no (by simp) (Evt.bind (e42 _ hl) (Evt.no (by simp) (Evt.some _)))))) (fun n => r50 n s s)
/- laws.eqShaftS -/
theorem e17 (l : List Sft) (hl : Small l) : Evt (fun n => call T C n 17 (l, l, ())) ((true, ()), ()) := by
  have hl1 := hl.1
  refine Evt.next (Evt.no (by simp) ?_) (fun n => r17 n l l)
  refine loop_evt (fun (x : List Sft × List Sft × Int × Unit) => x.1 = l ∧ x.2.1 = l ∧ 0 ≤ x.2.2.1 ∧ x.2.2.1 ≤ (l.length : Int)) (fun (x : List Sft × List Sft × Int × Unit) => ((l.length : Int) - x.2.2.1).toNat) (x := (l, l, 0, ())) ⟨rfl, rfl, Int.le_refl _, by simp⟩ ?_
  rintro ⟨x1, x2, i, _⟩ ⟨h', h'', h0, h1⟩
  simp only at h' h'' h0 h1
  subst h'; subst h''
  refine Round.ite (fun hlt => ?_) (fun hge => ?_)
  · have hlt : i < (x2.length : Int) := of_decide_eq_true hlt
    obtain ⟨v, hv, hv'⟩ := idx_at h0 hlt
    have hw : wr .i64 (i + 1) = i + 1 := wrap_id (by omega) (by omega)
    refine Round.at hv (Round.at hv (Round.bind (e50 v (hl.get hv')) (Round.no (by simp) (Round.again _ ⟨⟨rfl, rfl, ?_, ?_⟩, ?_⟩)))) <;> simp only [hw] <;> omega
  · exact Round.done (Evt.some _)
/- laws.markCam -/
theorem e55 (l : List Int) (k : Int) (h0 : 0 ≤ k) (h1 : k + l.length ≤ 4611686018427387904) : Evt (fun n => call T C n 55 (l, k, ())) ((k + l.length, ()), (mkL (wr .i16) l.length k, ())) := by
  refine Evt.next ?_ (fun n => r55 n l k)
  refine for_evt' 0 (l.length : Int) (fun i (b : List Int) => (b, k + i, i, ())) (fun i b => b.length = l.length ∧ b.take i.toNat = mkL (wr .i16) i.toNat k) (b0 := l) (by simp) (by omega) ⟨rfl, by simp [mkL]⟩ ?_ ?_
  · intro i b h2 h3 ⟨hb, ht⟩
    have hi : i < (b.length : Int) := by omega
    obtain ⟨u, hu⟩ := get_of_lt h2 hi
    refine Round.yes (decide_eq_true hi) (Round.chk (chk_at h2 hi) (Round.at hu (Round.again _ ⟨b.set i.toNat (wr .i16 (k + i)), ?_, by simpa using hb, ?_⟩)))
    · rw [wrap_id (x := k + i + 1) (by omega) (by omega), wrap_id (x := i + 1) (by omega) (by omega)]
      simp only [Int.add_assoc, id_eq]
    · rw [take_set_succ h2 hi, ht, show (i + 1).toNat = i.toNat + 1 by omega, mkL_succ, show ((i.toNat : Nat) : Int) = i by omega]
  · intro b ⟨hb, ht⟩
    have e : b = mkL (wr .i16) l.length k := by rw [← take_all b, hb, ht]; simp
    rw [← e]
    exact Round.no (by simp [hb]) (Round.done (Evt.some _))
/- laws.markShaftS -/
theorem e21 (l : List Sft) (k : Int) (h0 : 0 ≤ k) (h1 : k + totS l ≤ 4611686018427387904) : ∃ b, Evt (fun n => call T C n 21 (l, k, ())) ((k + totS l, ()), (b, ())) ∧ heldS b k = some (k + totS l) := by
  have hlen : ∀ m : List Sft, (m.length : Int) ≤ totS m := by
    intro m
    induction m with
    | nil => simp [totS]
    | cons s r ih => rw [totS_cons]; simp only [List.length_cons]; omega
  have hll := hlen l
  suffices h : ∃ b : List Sft, heldS b k = some (k + totS l) ∧ Evt (fun n => call T C n 21 (l, k, ())) ((k + totS l, ()), (b, ())) by
    obtain ⟨b, h1, h2⟩ := h; exact ⟨b, h2, h1⟩
  refine ⟨markS l k, markS_held l k, ?_⟩
  refine Evt.next ?_ (fun n => r21 n l k)
  refine for_evt' 0 (l.length : Int) (fun i (b : List Sft) => (b, k + totS (l.take i.toNat), i, ())) (fun i b => b.length = l.length ∧ b.drop i.toNat = l.drop i.toNat ∧ b.take i.toNat = markS (l.take i.toNat) k) (b0 := l) (by simp [totS]) (by omega) ⟨rfl, rfl, by simp [markS]⟩ ?_ ?_
  · intro i b h2 h3 ⟨hb, hd, ht⟩
    have hi : i < (b.length : Int) := by omega
    obtain ⟨s, hs⟩ := at_of h2 h3
    have hbs : b[i.toNat]? = some s := by
      have : (b.drop i.toNat)[0]? = (l.drop i.toNat)[0]? := by rw [hd]
      rw [List.getElem?_drop, List.getElem?_drop] at this
      rw [show i.toNat + 0 = i.toNat by omega] at this
      rw [this, hs.get]
    have hset : ∀ v : Sft, (b.set i.toNat v)[i.toNat]? = some v := fun v => List.getElem?_set_self (by omega)
    have hsl : ∀ v : Sft, i < (((b.set i.toNat v).length : Nat) : Int) := fun v => by rw [List.length_set]; exact hi
    have htk := totS_take l (i + 1).toNat
    rw [hs.take, totS_append] at htk
    have ht1 : totS [s] = 3 + s.2.2.2.1.length := by rw [totS_cons]; simp [totS]
    have hp := totS_nonneg (l.take i.toNat)
    have hq := totS_nonneg (l.drop (i + 1).toNat)
    generalize hK : k + totS (l.take i.toNat) = K
    have w1 : wr .i64 (K + 1) = K + 1 := wrap_id (by omega) (by omega)
    have w2 : wr .i64 (K + 1 + 1) = K + 1 + 1 := wrap_id (by omega) (by omega)
    have w3 : wr .i64 (K + 1 + 1 + 1) = K + 1 + 1 + 1 := wrap_id (by omega) (by omega)
    simp only [w1, w2, w3, List.set_set]
    refine Round.yes (decide_eq_true hi) (Round.chk (chk_at h2 hi) (Round.at hbs (Round.chk (chk_at h2 (hsl _)) (Round.at (hset _) (Round.chk (chk_at h2 (hsl _)) (Round.at (hset _) (Round.chk (chk_at h2 (hsl _)) (Round.at (hset _) (Round.bind (e55 s.2.2.2.1 (K + 1 + 1 + 1) (by omega) (by omega)) (Round.at (hset _) (Round.again _ ⟨b.set i.toNat (markOne s K), ?_, ?_, ?_, ?_⟩)))))))))))
    · rw [hs.take, totS_append, ht1, wr_succ h2 h3 (by omega)]
      simp only [Prod.mk.injEq, and_true]
      refine ⟨rfl, ?_⟩
      show K + 1 + 1 + 1 + (s.2.2.2.1.length : Int) = _
      omega
    · simpa using hb
    · rw [drop_set_succ h2]
      have : (b.drop i.toNat).drop 1 = (l.drop i.toNat).drop 1 := by rw [hd]
      rw [List.drop_drop, List.drop_drop] at this
      rw [show (i + 1).toNat = i.toNat + 1 by omega]
      exact this
    · rw [take_set_succ h2 hi, ht, hs.take, markS_append, hK]
  · intro b ⟨hb, _, ht⟩
    have e : b = markS l k := by
      have h1 := take_all l
      rw [h1, ← hb, take_all] at ht
      exact ht
    rw [← e, take_all]
    exact Round.no (by simp [hb]) (Round.done (Evt.some _))
/- laws.markInt64S -/
theorem e22 (l : List Int) (k : Int) (h0 : 0 ≤ k) (h1 : k + l.length ≤ 4611686018427387904) : Evt (fun n => call T C n 22 (l, k, ())) ((k + l.length, ()), (mkL id l.length k, ())) := by
  refine Evt.next ?_ (fun n => r22 n l k)
  refine for_evt' 0 (l.length : Int) (fun i (b : List Int) => (b, k + i, i, ())) (fun i b => b.length = l.length ∧ b.take i.toNat = mkL id i.toNat k) (b0 := l) (by simp) (by omega) ⟨rfl, by simp [mkL]⟩ ?_ ?_
  · intro i b h2 h3 ⟨hb, ht⟩
    have hi : i < (b.length : Int) := by omega
    obtain ⟨u, hu⟩ := get_of_lt h2 hi
    refine Round.yes (decide_eq_true hi) (Round.chk (chk_at h2 hi) (Round.at hu (Round.again _ ⟨b.set i.toNat (id (k + i)), ?_, by simpa using hb, ?_⟩)))
    · rw [wrap_id (x := k + i + 1) (by omega) (by omega), wrap_id (x := i + 1) (by omega) (by omega)]
      simp only [Int.add_assoc, id_eq]
    · rw [take_set_succ h2 hi, ht, show (i + 1).toNat = i.toNat + 1 by omega, mkL_succ, show ((i.toNat : Nat) : Int) = i by omega]
  · intro b ⟨hb, ht⟩
    have e : b = mkL id l.length k := by rw [← take_all b, hb, ht]; simp
    rw [← e]
    exact Round.no (by simp [hb]) (Round.done (Evt.some _))
/- laws.heldInt64S -/
theorem e23 (m : Nat) (k : Int) (h0 : 0 ≤ k) (h1 : k + m ≤ 4611686018427387904) : Evt (fun n => call T C n 23 (mkL id m k, k, ())) ((k + m, ()), ()) := by
  refine Evt.next ?_ (fun n => r23 n _ k)
  refine for_evt' 0 (m : Int) (fun i (_ : Unit) => (mkL id m k, k + i, i, ())) (fun _ _ => True) (b0 := ()) (by simp) (by omega) trivial ?_ ?_
  · intro i _ h2 h3 _
    obtain ⟨v, hv⟩ := at_of (l := mkL id m k) h2 (by rw [mkL_len]; exact h3)
    have e := mkL_at id m k hv h2
    refine Round.yes (by rw [mkL_len]; exact decide_eq_true h3) (Round.at hv.idx (Round.no (by simp [e]) (Round.again _ ⟨(), ?_, trivial⟩)))
    rw [wrap_id (x := k + i + 1) (by omega) (by omega), wrap_id (x := i + 1) (by omega) (by omega)]
    simp only [Int.add_assoc]
  · intro _ _
    exact Round.no (by simp [mkL_len]) (Round.done (Evt.some _))
/- laws.FnExactSumOfLifts -/
theorem e5 (l : List Sft) (hd : DomA (C 5).params (l, ())) : Evt (fun n => call T C n 5 (l, ())) ((true, ()), ()) := by
  have h1 := shaftsDom1 (l := l) hd.1
  have h2 := shaftsDom2 (l := l) hd.1
  have hS : Small l := ⟨by omega, fun s hs => by have := h2 s hs; omega⟩
  refine Evt.next (Evt.bind (e13 l hS 1048576) (Evt.ite (fun _ => Evt.some _) (fun hsz => ?_))) (fun n => r5 n l)
  have hsz := szS_ok hS (by simpa using hsz)
  have hR := sumR_len l
  have to1 := e15 l h1 h2
  have sp := e18 l hS
  have im := e19 l hS
  obtain ⟨b0, hm0, _⟩ := e21 l 1 (by omega) (by omega)
  have hm := e22 (sumR l).1 1 (by omega) (by omega)
  have hh := e23 (sumR l).1.length 1 (by omega) (by omega)
  have eqg := e20 (sumR l).1 (by omega)
  refine Evt.bind to1 (Evt.bind sp (Evt.bind to1 (Evt.bind im (Evt.bind eqg (Evt.no (by simp) (Evt.no (by simp) ?_))))))
  refine Evt.bind to1 (Evt.bind (e17 l hS) (Evt.no (by simp) ?_))
  refine Evt.bind hm0 (Evt.no (by have := totS_nonneg l; simp; omega) (Evt.bind eqg (Evt.no (by simp) (Evt.no (by simp) ?_))))
  refine Evt.bind hm (Evt.bind hh (Evt.no (by simp; omega) (Evt.no (by simp) ?_)))
  refine Evt.bind to1 (Evt.bind im (Evt.bind eqg (Evt.no (by simp) (Evt.no (by simp) (Evt.bind hh (Evt.no (by simp; omega) (Evt.no (by simp) (Evt.some _))))))))

end Go.Cams.YtkcapecjamijaaaLSumOfLifts
