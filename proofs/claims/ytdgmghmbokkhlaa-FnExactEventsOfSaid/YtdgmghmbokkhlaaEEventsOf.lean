/- What the functions that the law reaches come to. -/
import Derived.Test.YtdgmghmbokkhlaaREventsOf
import Derived.Test.YtdgmghmbokkhlaaPu7
namespace Go.Cams.YtdgmghmbokkhlaaLEventsOf
open Go Go.Fw Go.Proofs Go.Proofs.Ytdgmghmbokkhlaa.LEventsOf
/- laws.szCam -/
theorem e101 (l : List Int) (a : Int) : Evt (fun n => call T C n 101 (l, a, ())) ((sz1 l a, ()), ()) := by
  refine Evt.next ?_ (fun n => r101 n l a)
  unfold sz1
  refine Evt.ite (fun h => ?_) (fun h => ?_)
  · rw [if_pos (of_decide_eq_true h)]; exact Evt.some _
  · rw [if_neg (by simpa using h)]; exact Evt.some _
/- laws.szShaft -/
theorem e49 (s : Sft) (a : Int) : Evt (fun n => call T C n 49 (s, a, ())) ((sz s a, ()), ()) := by
  refine Evt.next (Evt.bind (e101 _ a) ?_) (fun n => r49 n s a)
  unfold sz
  refine Evt.ite (fun h => ?_) (fun h => ?_)
  · rw [if_pos (of_decide_eq_true h)]; exact Evt.some _
  · rw [if_neg (by simpa using h)]; exact Evt.some _
/- laws.szShaftS -/
theorem e7 (l : List Sft) (hl : Small l) (a : Int) : Evt (fun n => call T C n 7 (l, a, ())) ((szS l a, ()), ()) := by
  have hl1 := hl.1
  unfold szS
  refine Evt.next ?_ (fun n => r7 n l a)
  refine Evt.ite (fun h => ?_) (fun h => ?_)
  · rw [if_pos (of_decide_eq_true h)]; exact Evt.some _
  · rw [if_neg (by simpa using h)]
    generalize wr .i64 (a - (l.length : Int)) = b
    refine loop_evt (fun (x : List Sft × Int × Int × Unit) => x.1 = l ∧ 0 ≤ x.2.2.1 ∧ x.2.2.1 ≤ (l.length : Int) ∧ szf l b = szf (l.drop x.2.2.1.toNat) x.2.1) (fun (x : List Sft × Int × Int × Unit) => ((l.length : Int) - x.2.2.1).toNat) (x := (l, b, 0, ())) ⟨rfl, Int.le_refl _, by simp, by simp⟩ ?_
    rintro ⟨x1, c, i, _⟩ ⟨h', h0, h1, h2⟩
    simp only at h' h0 h1 h2
    subst h'
    refine Round.ite (fun hlt => ?_) (fun hge => ?_)
    · have hlt : i < (x1.length : Int) := of_decide_eq_true hlt
      obtain ⟨v, hv, hv'⟩ := idx_at h0 hlt
      have hd := drop_cons hv'
      have hw : wr .i64 (i + 1) = i + 1 := wrap_id (by omega) (by omega)
      refine Round.at hv (Round.bind (e49 v c) (Round.ite (fun hb => ?_) (fun hb => ?_)))
      · have hb : sz v c < 0 := of_decide_eq_true hb
        have h3 : szf x1 b = -1 := by rw [h2, hd]; simp [szf, hb]
        rw [h3]
        exact Round.done (Evt.some _)
      · have hb : ¬ sz v c < 0 := by simpa using hb
        refine Round.again _ ⟨⟨rfl, ?_, ?_, ?_⟩, ?_⟩ <;> simp only [hw]
        · omega
        · omega
        · rw [h2, hd, show (i + 1).toNat = i.toNat + 1 by omega]
          simp only [szf]
          rw [if_neg hb]
        · omega
    · have hge : ¬ i < (x1.length : Int) := by simpa using hge
      have : x1.drop i.toNat = [] := List.drop_of_length_le (by omega)
      rw [h2, this]
      exact Round.done (Evt.some _)
/- laws.toCam -/
theorem e19 (l : List Int) (hl : (l.length : Int) * 2 ≤ 140737488351232) : Evt (fun n => call T C n 19 (l, ())) ((l, ()), ()) := by
  refine Evt.next (Evt.chk (by simp; omega) ?_) (fun n => r19 n l)
  refine for_evt 0 (l.length : Int) (fun i (b : List Int) => (l, b, i, ())) (fun i b => b.length = l.length ∧ b.take i.toNat = l.take i.toNat) (b0 := List.replicate (Int.toNat (l.length : Int)) 0) (by omega) ⟨by simp, by simp⟩ ?_ ?_
  · intro i b h2 h3 ⟨hb, ht⟩
    have hi : i < (b.length : Int) := by omega
    obtain ⟨v, hv⟩ := at_of h2 h3
    obtain ⟨u, hu⟩ := get_of_lt h2 hi
    refine Round.yes (decide_eq_true h3) (Round.at hv.idx (Round.chk (chk_at h2 hi) (Round.at hu (Round.again _ ⟨b.set i.toNat v, ?_, by simpa using hb, ?_⟩))))
    · rw [wr_succ h2 h3 (by omega)]
    · rw [take_set_succ h2 hi, ht, hv.take]
  · intro b ⟨hb, ht⟩
    have e : b = l := by rw [← take_all b, hb, ht]; simp
    rw [e]
    exact Round.no (by simp) (Round.done (Evt.some _))
/- laws.toShaft -/
theorem e52 (s : Sft) (hl : (s.2.2.2.1.length : Int) * 2 ≤ 140737488351232) : Evt (fun n => call T C n 52 (s, ())) ((s, ()), ()) := by
  obtain ⟨a, b, c, d, u⟩ := s
  exact Evt.next (Evt.bind (e19 d hl) (Evt.some _)) (fun n => r52 n _)
/- laws.toShaftS -/
theorem e9 (l : List Sft) (hl : (l.length : Int) * 32 ≤ 140737488351232) (hc : ∀ s ∈ l, (s.2.2.2.1.length : Int) * 2 ≤ 140737488351232) : Evt (fun n => call T C n 9 (l, ())) ((l, ()), ()) := by
  refine Evt.next (Evt.chk (by simp; omega) ?_) (fun n => r9 n l)
  refine loop_evt (fun (x : List Sft × List Sft × Int × Unit) => x.1 = l ∧ 0 ≤ x.2.2.1 ∧ x.2.2.1 ≤ (l.length : Int) ∧ x.2.1 = l.take x.2.2.1.toNat ++ List.replicate (l.length - x.2.2.1.toNat) (0, 0, 0, [], ())) (fun (x : List Sft × List Sft × Int × Unit) => ((l.length : Int) - x.2.2.1).toNat) (x := (l, List.replicate (Int.toNat (l.length : Int)) (0, 0, 0, [], ()), 0, ())) ⟨rfl, Int.le_refl _, by simp, by simp⟩ ?_
  rintro ⟨x1, m, i, _⟩ ⟨h', h0, h1, hm⟩
  simp only at h' h0 h1 hm
  subst h'
  have hml : m.length = x1.length := by rw [hm]; simp; omega
  refine Round.ite (fun hlt => ?_) (fun hge => ?_)
  · have hlt : i < (x1.length : Int) := of_decide_eq_true hlt
    obtain ⟨v, hv, hv'⟩ := idx_at h0 hlt
    have hw : wr .i64 (i + 1) = i + 1 := wrap_id (by omega) (by omega)
    obtain ⟨u, hu⟩ : ∃ u, m[i.toNat]? = some u := ⟨m[i.toNat]'(by omega), by simp⟩
    refine Round.at hv (Round.bind (e52 v (hc v (List.mem_of_getElem? hv'))) (Round.chk (by simp [hml]; omega) (Round.at hu (Round.again _ ⟨⟨rfl, ?_, ?_, ?_⟩, ?_⟩)))) <;> simp only [hw]
    · omega
    · omega
    · rw [hm, show (i + 1).toNat = i.toNat + 1 by omega]
      exact set_take hv'
    · omega
  · have hge : ¬ i < (x1.length : Int) := by simpa using hge
    have e : i.toNat = x1.length := by omega
    have : m = x1 := by rw [hm, e]; simp
    rw [this]
    exact Round.done (Evt.some _)
/- spec.l00In -/
theorem e83 (a b c : Int) : Evt (fun n => call T C n 83 (a, b, c, ())) ((inR a b c, ()), ()) := by
  refine Evt.next ?_ (fun n => r83 n a b c)
  refine Evt.ite (fun h => ?_) (fun h => ?_)
  · refine (Evt.some _).of_eq fun n => ?_
    have h : b ≤ a := of_decide_eq_true h
    simp [inR, h]
    rfl
  · refine (Evt.some _).of_eq fun n => ?_
    have h : ¬ b ≤ a := by simpa using h
    simp [inR, h]
    rfl
/- spec.l01Steps -/
theorem e126 (a : Int) : Evt (fun n => call T C n 126 (a, ())) ((inR a 8 360, ()), ()) := Evt.next (Evt.bind (e83 a 8 360) (Evt.some _)) (fun n => r126 n a)
/- spec.l01Lift -/
theorem e127 (a : Int) : Evt (fun n => call T C n 127 (a, ())) ((inR a 0 10000, ()), ()) := Evt.next (Evt.bind (e83 a 0 10000) (Evt.some _)) (fun n => r127 n a)
/- spec.l01Ok -/
theorem e73 (l : List Int) (hl : (l.length : Int) ≤ 140737488351232) : Evt (fun n => call T C n 73 (l, ())) ((okC l, ()), ()) := by
  refine Evt.next ?_ (fun n => r73 n l)
  refine Evt.bind (e126 _) ?_
  refine Evt.ite (fun h => ?_) (fun h => ?_)
  · refine (Evt.some _).of_eq fun n => ?_
    have h : inR (l.length : Int) 8 360 = false := by simpa using h
    simp [okC, h]
    rfl
  · have h : inR (l.length : Int) 8 360 = true := by simpa using h
    have he : okC l = l.all okV := by simp [okC, h]
    rw [he]
    refine loop_evt (fun (x : List Int × Int × Unit) => x.1 = l ∧ 0 ≤ x.2.1 ∧ x.2.1 ≤ (l.length : Int) ∧ l.all okV = (l.drop x.2.1.toNat).all okV) (fun (x : List Int × Int × Unit) => ((l.length : Int) - x.2.1).toNat) (x := (l, 0, ())) ⟨rfl, Int.le_refl _, by simp, by simp⟩ ?_
    rintro ⟨x1, i, _⟩ ⟨h', h0, h1, h2⟩
    simp only at h' h0 h1 h2
    subst h'
    refine Round.ite (fun hlt => ?_) (fun hge => ?_)
    · have hlt : i < (x1.length : Int) := of_decide_eq_true hlt
      obtain ⟨v, hv, hv'⟩ := idx_at h0 hlt
      have hd := drop_cons hv'
      refine Round.at hv (Round.bind (e127 _) (Round.ite (fun hb => ?_) (fun hb => ?_)))
      · have hb : okV v = false := by simpa [okV] using hb
        have h3 : x1.all okV = false := by rw [h2, hd]; simp [hb]
        rw [h3]
        exact Round.done (Evt.some _)
      · have hb : okV v = true := by simpa [okV] using hb
        have hw : wr .i64 (i + 1) = i + 1 := wrap_id (by omega) (by omega)
        refine Round.again _ ⟨⟨rfl, ?_, ?_, ?_⟩, ?_⟩ <;> simp only [hw]
        · omega
        · omega
        · rw [h2, hd, show (i + 1).toNat = i.toNat + 1 by omega]
          simp [hb]
        · omega
    · have hge : ¬ i < (x1.length : Int) := by simpa using hge
      have : x1.drop i.toNat = [] := List.drop_of_length_le (by omega)
      rw [h2, this]
      exact Round.done (Evt.some _)
/- spec.l04Ok -/
theorem e102 (l : List Sft) (hl : Small l) : Evt (fun n => call T C n 102 (l, ())) ((okA l, ()), ()) := by
  refine Evt.next ?_ (fun n => r102 n l)
  refine Evt.bind (e83 _ _ _) ?_
  refine Evt.ite (fun h => ?_) (fun h => ?_)
  · refine (Evt.some _).of_eq fun n => ?_
    have h : inR (l.length : Int) 1 6 = false := by simpa using h
    simp [okA, h]
    rfl
  · have h : inR (l.length : Int) 1 6 = true := by simpa using h
    have he : okA l = l.all okS := by simp [okA, h]
    rw [he]
    have hl1 := hl.1
    refine loop_evt (fun (x : List Sft × Int × Unit) => x.1 = l ∧ 0 ≤ x.2.1 ∧ x.2.1 ≤ (l.length : Int) ∧ l.all okS = (l.drop x.2.1.toNat).all okS) (fun (x : List Sft × Int × Unit) => ((l.length : Int) - x.2.1).toNat) (x := (l, 0, ())) ⟨rfl, Int.le_refl _, by simp, by simp⟩ ?_
    rintro ⟨x1, i, _⟩ ⟨h', h0, h1, h2⟩
    simp only at h' h0 h1 h2
    subst h'
    refine Round.ite (fun hlt => ?_) (fun hge => ?_)
    · have hlt : i < (x1.length : Int) := of_decide_eq_true hlt
      obtain ⟨v, hv, hv'⟩ := idx_at h0 hlt
      have hd := drop_cons hv'
      have bad : okS v = false → x1.all okS = false := fun hb => by rw [h2, hd]; simp [hb]
      refine Round.at hv (Round.bind (e83 _ _ _) (Round.ite (fun hb => ?_) (fun hb1 => ?_)))
      · have hb : inR (wr .i64 v.1) 1 60 = false := by simpa using hb
        rw [bad (by simp [okS, hb])]
        exact Round.done (Evt.some _)
      refine Round.bind (e83 _ _ _) (Round.ite (fun hb => ?_) (fun hb2 => ?_))
      · have hb : inR (wr .i64 v.2.1) 1 60 = false := by simpa using hb
        rw [bad (by simp [okS, hb])]
        exact Round.done (Evt.some _)
      refine Round.bind (e73 _ (hl.get hv')) (Round.ite (fun hb => ?_) (fun hb3 => ?_))
      · have hb : okC v.2.2.2.1 = false := by simpa using hb
        rw [bad (by simp [okS, hb])]
        exact Round.done (Evt.some _)
      refine Round.bind (e83 _ _ _) (Round.ite (fun hb => ?_) (fun hb4 => ?_))
      · have hb : inR (wr .i64 v.2.2.1) 0 (wr .i64 ((v.2.2.2.1.length : Int) - 1)) = false := by simpa using hb
        rw [bad (by simp [okS, hb])]
        exact Round.done (Evt.some _)
      have hb : okS v = true := by
        simp only [Bool.not_eq_true', Bool.not_eq_false, cond_false] at hb1 hb2 hb3 hb4
        simp [okS, hb1, hb2, hb3, hb4]
      have hw : wr .i64 (i + 1) = i + 1 := wrap_id (by omega) (by omega)
      refine Round.again _ ⟨⟨rfl, ?_, ?_, ?_⟩, ?_⟩ <;> simp only [hw]
      · omega
      · omega
      · rw [h2, hd, show (i + 1).toNat = i.toNat + 1 by omega]
        simp [hb]
      · omega
    · have hge : ¬ i < (x1.length : Int) := by simpa using hge
      have : x1.drop i.toNat = [] := List.drop_of_length_le (by omega)
      rw [h2, this]
      exact Round.done (Evt.some _)
/- spec.l04Index -/
theorem e103 (l : List Sft) (a : Int) : Evt (fun n => call T C n 103 (l, a, ())) ((inR a 0 (wr .i64 ((l.length : Int) - 1)), ()), ()) := Evt.next (Evt.bind (e83 _ _ _) (Evt.some _)) (fun n => r103 n l a)
/- spec.l04Gcd -/
theorem e139 : ∀ (b a : Nat), Evt (fun n => call T C n 139 ((a : Int), (b : Int), ())) ((((Nat.gcd a b : Nat) : Int), ()), ()) := by
  intro b
  induction b using Nat.strongRecOn with
  | ind b ih =>
    intro a
    refine Evt.next ?_ (fun n => r139 n a b)
    refine Evt.ite (fun h => ?_) (fun h => ?_)
    · have h : b = 0 := by simpa using h
      subst h
      rw [Nat.gcd_zero_right]
      exact Evt.some _
    · have h : b ≠ 0 := by simpa using h
      refine Evt.chk (by simpa using h) ?_
      rw [← Int.ofNat_tmod]
      have := ih (a % b) (Nat.mod_lt _ (by omega)) b
      rw [show Nat.gcd a b = Nat.gcd b (a % b) by rw [Nat.gcd_comm a b, Nat.gcd_rec b a, Nat.gcd_comm]]
      exact Evt.bind this (Evt.some _)
theorem e139' {a b : Int} (ha : 0 ≤ a) (hb : 0 ≤ b) : Evt (fun n => call T C n 139 (a, b, ())) ((gg a b, ()), ()) := by
  have := e139 b.toNat a.toNat
  rw [show ((a.toNat : Nat) : Int) = a by omega, show ((b.toNat : Nat) : Int) = b by omega] at this
  exact this
/- spec.l04Own -/
theorem e138 {s : Sft} (h : Good s) : Evt (fun n => call T C n 138 (s, ())) ((own s, ()), ()) := by
  have h1 := dl_eq h
  have hg := gg_pos (a := dl s) (b := wr .i64 s.1) (by omega)
  refine Evt.next (Evt.bind (e139' (a := dl s) (by omega) (by have := h.num; omega)) (Evt.chk ?_ (Evt.some _))) (fun n => r138 n s)
  exact bne_pos hg
/- spec.l04All -/
theorem e104 (l : List Sft) (hl : Small l) (hok : okA l = true) : Evt (fun n => call T C n 104 (l, ())) (allR l, ()) := by
  have hG := okA_good hok
  refine Evt.next (Evt.bind (e102 l hl) ?_) (fun n => r104 n l)
  refine Evt.no (by simp [hok]) ?_
  refine loop_evt (fun (x : List Sft × Int × Int × Unit) => x.1 = l ∧ 1 ≤ x.2.1 ∧ x.2.1 ≤ 20000 ∧ 0 ≤ x.2.2.1 ∧ x.2.2.1 ≤ (l.length : Int) ∧ per l 1 = per (l.drop x.2.2.1.toNat) x.2.1) (fun (x : List Sft × Int × Int × Unit) => ((l.length : Int) - x.2.2.1).toNat) (x := (l, 1, 0, ())) ⟨rfl, by simp, by simp, by simp, by simp, by simp⟩ ?_
  rintro ⟨x1, t, i, _⟩ ⟨h', t0, t1, h0, h1, h2⟩
  simp only at h' t0 t1 h0 h1 h2
  subst h'
  refine Round.ite (fun hlt => ?_) (fun hge => ?_)
  · have hlt : i < (x1.length : Int) := of_decide_eq_true hlt
    obtain ⟨v, hv, hv'⟩ := idx_at h0 hlt
    have hd := drop_cons hv'
    have hgv := hG.2 v (List.mem_of_getElem? hv')
    have ho := own_eq hgv
    have hg := gg_pos (a := t) (b := own v) (by omega)
    refine Round.at hv (Round.bind (e138 hgv) (Round.bind (e139' (a := t) (b := own v) (by omega) (by omega)) (Round.chk (bne_pos hg) ?_)))
    refine Round.ite (fun hb => ?_) (fun hb => ?_)
    · have hb : nxt t v > 20000 := of_decide_eq_true hb
      have h3 : per x1 1 = none := by rw [h2, hd]; simp [per, hb]
      unfold allR
      rw [h3]
      exact Round.done (Evt.some _)
    · have hb : ¬ nxt t v > 20000 := by simpa [nxt] using hb
      have hw : wr .i64 (i + 1) = i + 1 := wrap_id (by omega) (by omega)
      have hp := nxt_pos hgv t0 t1
      refine Round.again _ ⟨⟨rfl, hp, by show nxt t v ≤ 20000; omega, ?_, ?_, ?_⟩, ?_⟩ <;> simp only [hw]
      · omega
      · omega
      · rw [h2, hd, show (i + 1).toNat = i.toNat + 1 by omega]
        simp only [per]
        rw [if_neg hb]
        rfl
      · omega
  · have hge : ¬ i < (x1.length : Int) := by simpa using hge
    have : x1.drop i.toNat = [] := List.drop_of_length_le (by omega)
    have h3 : per x1 1 = some t := by rw [h2, this]; rfl
    unfold allR
    rw [h3]
    exact Round.done (Evt.some _)
theorem e104' (l : List Sft) (hl : Small l) : Evt (fun n => call T C n 104 (l, ())) (codeR l true, ()) := by
  cases hok : okA l with
  | true =>
    have h := e104 l hl hok
    unfold codeR
    rw [if_neg (by simp [hok]), if_neg (by simp)]
    exact h
  | false =>
    unfold codeR
    rw [if_pos hok]
    refine Evt.next (Evt.bind (e102 l hl) ?_) (fun n => r104 n l)
    exact Evt.yes (by simp [hok]) (Evt.some _)
/- spec.l04Asked -/
theorem e50 (l : List Sft) (hl : Small l) (i k a : Int) : Evt (fun n => call T C n 50 (l, i, k, a, ())) (codeR l (isAt l i && isAt l k && inR a 0 20000), ()) := by
  refine Evt.next (Evt.bind (e102 l hl) ?_) (fun n => r50 n l i k a)
  unfold codeR
  cases hok : okA l with
  | false => exact Evt.yes rfl (Evt.some _)
  | true =>
    refine Evt.no (by simp) (Evt.bind (e103 l i) ?_)
    show Evt (fun n => if (!isAt l i) = true then _ else _) _
    cases isAt l i with
    | false => exact Evt.yes rfl (Evt.some _)
    | true =>
      refine Evt.no (by simp) (Evt.bind (e103 l k) ?_)
      show Evt (fun n => if (bif false then true else (!isAt l k)) = true then _ else _) _
      cases isAt l k with
      | false => exact Evt.yes rfl (Evt.some _)
      | true =>
        refine Evt.no (by simp) (Evt.bind (e83 _ _ _) ?_)
        cases inR a 0 20000 with
        | false => exact Evt.yes rfl (Evt.some _)
        | true => exact Evt.no (by simp) (Evt.bind (e104 l hl hok) (Evt.some _))
theorem e50' (l : List Sft) (hl : Small l) (a : Int) : Evt (fun n => call T C n 50 (l, 0, 0, a, ())) (codeR l (inR a 0 20000), ()) := by
  have h := e50 l hl 0 0 a
  have e : codeR l (isAt l 0 && isAt l 0 && inR a 0 20000) = codeR l (inR a 0 20000) := by
    unfold codeR
    cases hok : okA l with
    | false => rfl
    | true =>
      have := (okA_good hok).1
      rw [(isAt_iff hok).2 (by omega)]
      rfl
  rw [e] at h
  exact h
/- spec.l04Step -/
theorem e105 {s : Sft} (h : Good s) (t : Int) : Evt (fun n => call T C n 105 (s, t, ())) ((stp s t, ()), ()) := Evt.next (Evt.chk (den_ne h) (Evt.chk (len_ne h) (Evt.some _))) (fun n => r105 n s t)
/- spec.l04Lift -/
theorem e51 {s : Sft} (h : Good s) {t : Int} (h0 : 0 ≤ t) (h1 : t ≤ 20000) : Evt (fun n => call T C n 51 (s, t, ())) ((lift s t, ()), ()) := by
  obtain ⟨⟨v, hv, he⟩, _⟩ := lift_eq h h0 h1
  rw [he]
  refine Evt.next (Evt.bind (e105 h t) ?_) (fun n => r51 n s t)
  exact Evt.at hv (Evt.some ((wr .i64 v, ()), ()))
/- spec.EventsOf -/
theorem e8 (l : List Sft) (hl : Small l) (lv : Int) : Evt (fun n => call T C n 8 (l, lv, ())) (evRes l lv, ()) := by
  refine Evt.next (Evt.bind (e50' l hl lv) ?_) (fun n => r8 n l lv)
  unfold evRes
  refine Evt.ite (fun h => ?_) (fun h => ?_)
  · have h : ¬ (codeR l (inR lv 0 20000)).2.1 = (0 : Int) := by simpa using h
    rw [if_pos h]; exact Evt.some _
  · have h : (codeR l (inR lv 0 20000)).2.1 = (0 : Int) := by simpa using h
    rw [if_neg (by simpa using h)]
    obtain ⟨hok, hp0, hp1⟩ := code_ok h
    have hG := okA_good hok
    have hl6 : l.length ≤ 6 := by have := hG.1; omega
    generalize (codeR l (inR lv 0 20000)).1 = p at hp0 hp1
    change Int at p
    have hp0 : (0 : Int) ≤ p := hp0
    have hp1 : p ≤ (20000 : Int) := hp1
    refine for_evt' 0 p (fun t (_ : Unit) => (l, lv, p, evA l lv p t.toNat, t, ())) (fun _ _ => True) (b0 := ()) rfl hp0 trivial ?_ ?_
    · intro t _ t0 t1 _
      have hq := prev_bd t0 t1
      have hA := evA_bd hl6 lv p t0 (show t ≤ 20000 by omega)
      refine Round.yes (decide_eq_true t1) ?_
      refine for_round' 0 (l.length : Int) (fun i (_ : Unit) => (l, lv, p, evA l lv p t.toNat ++ evR lv t (Int.tmod (t + p - 1) p) (l.take i.toNat) 0, t, i, ())) (fun _ _ => True) (b0 := ()) (by simp [evR]) (by omega) trivial ?_ ?_
      · intro i _ h2 h3 _
        obtain ⟨s, hs⟩ := at_of h2 h3
        have hR := evR_bd hl6 lv t (Int.tmod (t + p - 1) p) i.toNat
        have hi : ((l.take i.toNat).length : Int) = i := by rw [List.length_take]; omega
        simp only [wr_succ h2 h3 (by omega), wrap_id (x := t + p) (by omega) (by omega), wrap_id (x := t + p - 1) (by omega) (by omega)]
        refine Round.yes (decide_eq_true h3) (Round.at hs.idx (Round.bind (e51 (hG.2 s hs.mem) t0 (show t ≤ 20000 by omega)) (Round.ite (fun hb => ?_) (fun hb => ?_))))
        · have hb : lift s t ≥ lv := of_decide_eq_true hb
          refine Round.at hs.idx (Round.chk (bne_pos (show 0 < p by omega)) (Round.bind (e51 (hG.2 s hs.mem) hq.1 (show Int.tmod (t + p - 1) p ≤ 20000 by omega)) (Round.ite (fun hc => ?_) (fun hc => ?_))))
          · have hc : lift s (Int.tmod (t + p - 1) p) < lv := of_decide_eq_true hc
            refine Round.chk (by simp; omega) (Round.inr _ ⟨(), ?_, trivial⟩)
            have he : evOn s lv t (Int.tmod (t + p - 1) p) = true := by simp [evOn, hb, hc]
            rw [hs.take, evR_snoc, if_pos he, hi]
            simp
          · have hc : ¬ lift s (Int.tmod (t + p - 1) p) < lv := by simpa using hc
            refine Round.inr _ ⟨(), ?_, trivial⟩
            have he : ¬ evOn s lv t (Int.tmod (t + p - 1) p) = true := by simp [evOn]; intro; omega
            rw [hs.take, evR_snoc, if_neg he]
            simp
        · have hb : ¬ lift s t ≥ lv := by simpa using hb
          refine Round.inr _ ⟨(), ?_, trivial⟩
          have he : ¬ evOn s lv t (Int.tmod (t + p - 1) p) = true := by simp [evOn]; intro; omega
          rw [hs.take, evR_snoc, if_neg he]
          simp
      · intro _ _
        refine Round.no (by simp) (Round.inl _ ⟨(), ?_, trivial⟩)
        rw [take_all, evA_succ l lv p t0, wr_succ t0 t1 (by omega)]
    · intro _ _
      exact Round.no (by simp) (Round.done (Evt.some _))
/- impl.inRange -/
theorem e76 (a b c : Int) : Evt (fun n => call T C n 76 (a, b, c, ())) ((inR a b c, ()), ()) := by
  refine Evt.next ?_ (fun n => r76 n a b c)
  refine Evt.ite (fun h => ?_) (fun h => ?_)
  · refine (Evt.some _).of_eq fun n => ?_
    have h : b ≤ a := of_decide_eq_true h
    simp [inR, h]
    rfl
  · refine (Evt.some _).of_eq fun n => ?_
    have h : ¬ b ≤ a := by simpa using h
    simp [inR, h]
    rfl
/- impl.isRoom -/
theorem e54 (a : Int) : Evt (fun n => call T C n 54 (a, ())) ((inR a 0 20000, ()), ()) := Evt.next (Evt.bind (e76 a 0 20000) (Evt.some _)) (fun n => r54 n a)
/- (impl.Cam).steps -/
theorem e78 (a : List Int) : Evt (fun n => call T C n 78 (a, ())) (((a.length : Int), ()), ()) := Evt.next (Evt.some _) (fun n => r78 n a)
/- impl.isSteps -/
theorem e122 (a : Int) : Evt (fun n => call T C n 122 (a, ())) ((inR a 8 360, ()), ()) := Evt.next (Evt.bind (e76 a 8 360) (Evt.some _)) (fun n => r122 n a)
/- impl.isLift -/
theorem e125 (a : Int) : Evt (fun n => call T C n 125 (a, ())) ((inR a 0 10000, ()), ()) := Evt.next (Evt.bind (e76 a 0 10000) (Evt.some _)) (fun n => r125 n a)
/- impl.ValidCam$1 -/
theorem e124 (v : Int) : Evt (fun n => call T C n 124 (v, ())) ((!okV v, ()), ()) := Evt.next (Evt.bind (e125 _) (Evt.some _)) (fun n => r124 n v)
/- slices.IndexFunc[impl.Cam,int16]{impl.ValidCam$1} -/
theorem e157 (l : List Int) (hl : (l.length : Int) ≤ 140737488351232) : Evt (fun n => call T C n 157 (l, ((), ()), ())) ((fi (fun v => !okV v) l 0, ()), ()) := by
  refine Evt.next ?_ (fun n => r157 n l ((), ()))
  refine loop_evt (fun (x : List Int × (Unit × Unit) × Int × Int × Unit) => x.1 = l ∧ x.2.2.1 = (l.length : Int) ∧ 0 ≤ x.2.2.2.1 ∧ x.2.2.2.1 ≤ (l.length : Int) ∧ fi (fun v => !okV v) l 0 = fi (fun v => !okV v) (l.drop x.2.2.2.1.toNat) x.2.2.2.1) (fun (x : List Int × (Unit × Unit) × Int × Int × Unit) => ((l.length : Int) - x.2.2.2.1).toNat) (x := (l, ((), ()), (l.length : Int), 0, ())) ⟨rfl, rfl, Int.le_refl _, by simp, by simp⟩ ?_
  rintro ⟨x1, u, m, i, _⟩ ⟨h', hm, h0, h1, h2⟩
  simp only at h' hm h0 h1 h2
  subst h'; subst hm
  refine Round.ite (fun hlt => ?_) (fun hge => ?_)
  · have hlt : i < (x1.length : Int) := of_decide_eq_true hlt
    obtain ⟨v, hv, hv'⟩ := idx_at h0 hlt
    have hd := drop_cons hv'
    refine Round.at hv (Round.bind (e124 _) (Round.ite (fun hb => ?_) (fun hb => ?_)))
    · have hb : okV v = false := by simpa using hb
      have h3 : fi (fun v => !okV v) x1 0 = i := by rw [h2, hd]; simp [fi, hb]
      rw [h3]
      exact Round.done (Evt.some _)
    · have hb : okV v = true := by simpa using hb
      have hw : wr .i64 (i + 1) = i + 1 := wrap_id (by omega) (by omega)
      refine Round.again _ ⟨⟨rfl, rfl, ?_, ?_, ?_⟩, ?_⟩ <;> simp only [hw]
      · omega
      · omega
      · rw [h2, hd, show (i + 1).toNat = i.toNat + 1 by omega]
        simp [fi, hb]
      · omega
  · have hge : ¬ i < (x1.length : Int) := by simpa using hge
    have : x1.drop i.toNat = [] := List.drop_of_length_le (by omega)
    rw [h2, this]
    exact Round.done (Evt.some _)
/- slices.ContainsFunc[impl.Cam,int16]{impl.ValidCam$1} -/
theorem e123 (l : List Int) (hl : (l.length : Int) ≤ 140737488351232) : Evt (fun n => call T C n 123 (l, ((), ()), ())) ((l.any (fun v => !okV v), ()), ()) := by
  refine Evt.next (Evt.bind (e157 l hl) ((Evt.some _).of_eq fun n => ?_)) (fun n => r123 n l ((), ()))
  simp only [fi_any _ l 0 (Int.le_refl _)]
  rfl
/- impl.ValidCam -/
theorem e69 (l : List Int) (hl : (l.length : Int) ≤ 140737488351232) : Evt (fun n => call T C n 69 (l, ())) ((okC l, ()), ()) := by
  refine Evt.next (Evt.bind (e78 l) (Evt.bind (e122 _) ?_)) (fun n => r69 n l)
  refine Evt.ite (fun h => ?_) (fun h => ?_)
  · refine Evt.bind (e123 l hl) ((Evt.some _).of_eq fun n => ?_)
    have h : inR (l.length : Int) 8 360 = true := h
    have : okC l = !l.any (fun v => !okV v) := by simp [okC, h, List.any_eq_not_all_not]
    rw [this]
    rfl
  · refine (Evt.some _).of_eq fun n => ?_
    have h : inR (l.length : Int) 8 360 = false := by simpa using h
    simp [okC, h]
    rfl
/- impl.isPlace -/
theorem e142 (a b : Int) : Evt (fun n => call T C n 142 (a, b, ())) ((inR a 0 (wr .i64 (b - 1)), ()), ()) := Evt.next (Evt.bind (e76 _ _ _) (Evt.some _)) (fun n => r142 n a b)
/- impl.ValidShafts$1 -/
theorem e141 (s : Sft) (hl : (s.2.2.2.1.length : Int) ≤ 140737488351232) : Evt (fun n => call T C n 141 (s, ())) ((!okS s, ()), ()) := by
  refine Evt.next (Evt.bind (e76 _ _ _) ?_) (fun n => r141 n s)
  refine Evt.ite (fun h => ?_) (fun h => ?_)
  · have h : inR (wr .i64 s.1) 1 60 = false := by simpa using h
    have : okS s = false := by simp [okS, h]
    rw [this]; exact Evt.some _
  · have h1 : inR (wr .i64 s.1) 1 60 = true := by simpa using h
    refine Evt.bind (e76 _ _ _) (Evt.ite (fun h => ?_) (fun h => ?_))
    · have h : inR (wr .i64 s.2.1) 1 60 = false := by simpa using h
      have : okS s = false := by simp [okS, h]
      rw [this]; exact Evt.some _
    · have h2 : inR (wr .i64 s.2.1) 1 60 = true := by simpa using h
      refine Evt.bind (e69 _ hl) (Evt.ite (fun h => ?_) (fun h => ?_))
      · have h : okC s.2.2.2.1 = false := by simpa using h
        have : okS s = false := by simp [okS, h]
        rw [this]; exact Evt.some _
      · have h3 : okC s.2.2.2.1 = true := by simpa using h
        refine Evt.bind (e142 _ _) ((Evt.some _).of_eq fun n => ?_)
        have : okS s = inR (wr .i64 s.2.2.1) 0 (wr .i64 ((s.2.2.2.1.length : Int) - 1)) := by simp [okS, h1, h2, h3]
        rw [this]
        rfl
/- slices.IndexFunc[[]impl.Shaft,impl.Shaft]{impl.ValidShafts$1} -/
theorem e165 (l : List Sft) (hl : Small l) : Evt (fun n => call T C n 165 (l, ((), ()), ())) ((fi (fun v => !okS v) l 0, ()), ()) := by
  refine Evt.next ?_ (fun n => r165 n l ((), ()))
  refine loop_evt (fun (x : List Sft × (Unit × Unit) × Int × Int × Unit) => x.1 = l ∧ x.2.2.1 = (l.length : Int) ∧ 0 ≤ x.2.2.2.1 ∧ x.2.2.2.1 ≤ (l.length : Int) ∧ fi (fun v => !okS v) l 0 = fi (fun v => !okS v) (l.drop x.2.2.2.1.toNat) x.2.2.2.1) (fun (x : List Sft × (Unit × Unit) × Int × Int × Unit) => ((l.length : Int) - x.2.2.2.1).toNat) (x := (l, ((), ()), (l.length : Int), 0, ())) ⟨rfl, rfl, Int.le_refl _, by simp, by simp⟩ ?_
  rintro ⟨x1, u, m, i, _⟩ ⟨h', hm, h0, h1, h2⟩
  simp only at h' hm h0 h1 h2
  subst h'; subst hm
  have hl1 := hl.1
  refine Round.ite (fun hlt => ?_) (fun hge => ?_)
  · have hlt : i < (x1.length : Int) := of_decide_eq_true hlt
    obtain ⟨v, hv, hv'⟩ := idx_at h0 hlt
    have hd := drop_cons hv'
    refine Round.at hv (Round.bind (e141 _ (hl.get hv')) (Round.ite (fun hb => ?_) (fun hb => ?_)))
    · have hb : okS v = false := by simpa using hb
      have h3 : fi (fun v => !okS v) x1 0 = i := by rw [h2, hd]; simp [fi, hb]
      rw [h3]
      exact Round.done (Evt.some _)
    · have hb : okS v = true := by simpa using hb
      have hw : wr .i64 (i + 1) = i + 1 := wrap_id (by omega) (by omega)
      refine Round.again _ ⟨⟨rfl, rfl, ?_, ?_, ?_⟩, ?_⟩ <;> simp only [hw]
      · omega
      · omega
      · rw [h2, hd, show (i + 1).toNat = i.toNat + 1 by omega]
        simp [fi, hb]
      · omega
  · have hge : ¬ i < (x1.length : Int) := by simpa using hge
    have : x1.drop i.toNat = [] := List.drop_of_length_le (by omega)
    rw [h2, this]
    exact Round.done (Evt.some _)
/- slices.ContainsFunc[[]impl.Shaft,impl.Shaft]{impl.ValidShafts$1} -/
theorem e140 (l : List Sft) (hl : Small l) : Evt (fun n => call T C n 140 (l, ((), ()), ())) ((l.any (fun v => !okS v), ()), ()) := by
  refine Evt.next (Evt.bind (e165 l hl) ((Evt.some _).of_eq fun n => ?_)) (fun n => r140 n l ((), ()))
  simp only [fi_any _ l 0 (Int.le_refl _)]
  rfl
/- impl.ValidShafts -/
theorem e108 (l : List Sft) (hl : Small l) : Evt (fun n => call T C n 108 (l, ())) ((okA l, ()), ()) := by
  refine Evt.next (Evt.bind (e76 _ _ _) ?_) (fun n => r108 n l)
  refine Evt.ite (fun h => ?_) (fun h => ?_)
  · refine Evt.bind (e140 l hl) ((Evt.some _).of_eq fun n => ?_)
    have h : inR (l.length : Int) 1 6 = true := h
    have : okA l = !l.any (fun v => !okS v) := by simp [okA, h, List.any_eq_not_all_not]
    rw [this]
    rfl
  · refine (Evt.some _).of_eq fun n => ?_
    have h : inR (l.length : Int) 1 6 = false := by simpa using h
    simp [okA, h]
    rfl
/- impl.codeIf -/
theorem e107 (c : Bool) (v : Int) : Evt (fun n => call T C n 107 (c, v, ())) (((if c = true then v else 0), ()), ()) := by
  refine Evt.next ?_ (fun n => r107 n c v)
  cases c with
  | true => exact Evt.yes rfl (Evt.some _)
  | false => exact Evt.no (by simp) (Evt.some _)
/- impl.firstCode -/
theorem e106 (l : List Int) (hl : (l.length : Int) ≤ 140737488351232) : Evt (fun n => call T C n 106 (l, ())) ((fst0 l, ()), ()) := by
  refine Evt.next ?_ (fun n => r106 n l)
  refine loop_evt (fun (x : List Int × Int × Int × Unit) => x.1 = l ∧ x.2.1 = (l.length : Int) ∧ 0 ≤ x.2.2.1 ∧ x.2.2.1 ≤ (l.length : Int) ∧ fst0 l = fst0 (l.drop x.2.2.1.toNat)) (fun (x : List Int × Int × Int × Unit) => ((l.length : Int) - x.2.2.1).toNat) (x := (l, (l.length : Int), 0, ())) ⟨rfl, rfl, Int.le_refl _, by simp, by simp⟩ ?_
  rintro ⟨x1, m, i, _⟩ ⟨h', hm, h0, h1, h2⟩
  simp only at h' hm h0 h1 h2
  subst h'; subst hm
  refine Round.ite (fun hlt => ?_) (fun hge => ?_)
  · have hlt : i < (x1.length : Int) := of_decide_eq_true hlt
    obtain ⟨v, hv, hv'⟩ := idx_at h0 hlt
    have hd := drop_cons hv'
    refine Round.at hv (Round.ite (fun hb => ?_) (fun hb => ?_))
    · have hb : v ≠ 0 := by simpa using hb
      have h3 : fst0 x1 = v := by rw [h2, hd]; simp [fst0, hb]
      rw [h3]
      exact Round.done (Evt.some _)
    · have hb : v = 0 := by simpa using hb
      have hw : wr .i64 (i + 1) = i + 1 := wrap_id (by omega) (by omega)
      refine Round.again _ ⟨⟨rfl, rfl, ?_, ?_, ?_⟩, ?_⟩ <;> simp only [hw]
      · omega
      · omega
      · rw [h2, hd, show (i + 1).toNat = i.toNat + 1 by omega]
        simp [fst0, hb]
      · omega
  · have hge : ¬ i < (x1.length : Int) := by simpa using hge
    have : x1.drop i.toNat = [] := List.drop_of_length_le (by omega)
    rw [h2, this]
    exact Round.done (Evt.some _)
/- impl.common -/
theorem e144 (a b : Nat) : Evt (fun n => call T C n 144 ((a : Int), (b : Int), ())) ((((Nat.gcd a b : Nat) : Int), ()), ()) := by
  refine Evt.next ?_ (fun n => r144 n a b)
  refine loop_evt (fun (x : Int × Int × Unit) => ∃ p q : Nat, x = ((p : Int), (q : Int), ()) ∧ Nat.gcd p q = Nat.gcd a b) (fun (x : Int × Int × Unit) => x.2.1.toNat) (x := ((a : Int), (b : Int), ())) ⟨a, b, rfl, rfl⟩ ?_
  rintro x ⟨p, q, rfl, hg⟩
  refine Round.ite (fun h => ?_) (fun h => ?_)
  · have h : q ≠ 0 := by simpa using h
    refine Round.chk (by simpa using h) ?_
    refine Round.again _ ⟨⟨q, p % q, ?_, ?_⟩, ?_⟩
    · simp only [Int.ofNat_tmod]
    · rw [← hg, Nat.gcd_comm p q, Nat.gcd_rec q p, Nat.gcd_comm]
    · show (Int.tmod (p : Int) (q : Int)).toNat < ((q : Int)).toNat
      rw [← Int.ofNat_tmod]
      have := Nat.mod_lt p (show q > 0 by omega)
      omega
  · have h : q = 0 := by simpa using h
    subst h
    rw [← hg, Nat.gcd_zero_right]
    exact Round.done (Evt.some _)
theorem e144' {a b : Int} (ha : 0 ≤ a) (hb : 0 ≤ b) : Evt (fun n => call T C n 144 (a, b, ())) ((gg a b, ()), ()) := by
  have := e144 a.toNat b.toNat
  rw [show ((a.toNat : Nat) : Int) = a by omega, show ((b.toNat : Nat) : Int) = b by omega] at this
  exact this
/- (impl.Shaft).period -/
theorem e143 {s : Sft} (h : Good s) : Evt (fun n => call T C n 143 (s, ())) ((own s, ()), ()) := by
  have h1 := dl_eq h
  have hg := gg_pos (a := dl s) (b := wr .i64 s.1) (by omega)
  refine Evt.next (Evt.bind (e78 _) (Evt.bind (e144' (a := dl s) (by omega) (by have := h.num; omega)) (Evt.chk ?_ (Evt.some _)))) (fun n => r143 n s)
  exact bne_pos hg
/- impl.periodOf -/
theorem e109 (l : List Sft) (hok : okA l = true) : Evt (fun n => call T C n 109 (l, ())) (perR l, ()) := by
  have hG := okA_good hok
  refine Evt.next ?_ (fun n => r109 n l)
  refine loop_evt (fun (x : Int × List Sft × Int × Int × Unit) => x.2.1 = l ∧ x.2.2.1 = (l.length : Int) ∧ 1 ≤ x.1 ∧ x.1 ≤ 20000 ∧ 0 ≤ x.2.2.2.1 ∧ x.2.2.2.1 ≤ (l.length : Int) ∧ per l 1 = per (l.drop x.2.2.2.1.toNat) x.1) (fun (x : Int × List Sft × Int × Int × Unit) => ((l.length : Int) - x.2.2.2.1).toNat) (x := (1, l, (l.length : Int), 0, ())) ⟨rfl, rfl, by simp, by simp, by simp, by simp, by simp⟩ ?_
  rintro ⟨t, x1, m, i, _⟩ ⟨h', hm, t0, t1, h0, h1, h2⟩
  simp only at h' hm t0 t1 h0 h1 h2
  subst h'; subst hm
  refine Round.ite (fun hlt => ?_) (fun hge => ?_)
  · have hlt : i < (x1.length : Int) := of_decide_eq_true hlt
    obtain ⟨v, hv, hv'⟩ := idx_at h0 hlt
    have hd := drop_cons hv'
    have hgv := hG.2 v (List.mem_of_getElem? hv')
    have ho := own_eq hgv
    have hg := gg_pos (a := t) (b := own v) (by omega)
    refine Round.at hv (Round.bind (e143 hgv) (Round.bind (e144' (a := t) (b := own v) (by omega) (by omega)) (Round.chk (bne_pos hg) ?_)))
    refine Round.ite (fun hb => ?_) (fun hb => ?_)
    · have hb : nxt t v > 20000 := of_decide_eq_true hb
      have h3 : per x1 1 = none := by rw [h2, hd]; simp [per, hb]
      unfold perR
      rw [h3]
      exact Round.done (Evt.some _)
    · have hb : ¬ nxt t v > 20000 := by simpa [nxt] using hb
      have hw : wr .i64 (i + 1) = i + 1 := wrap_id (by omega) (by omega)
      have hp := nxt_pos hgv t0 t1
      refine Round.again _ ⟨⟨rfl, rfl, hp, by show nxt t v ≤ 20000; omega, ?_, ?_, ?_⟩, ?_⟩ <;> simp only [hw]
      · omega
      · omega
      · rw [h2, hd, show (i + 1).toNat = i.toNat + 1 by omega]
        simp only [per]
        rw [if_neg hb]
        rfl
      · omega
  · have hge : ¬ i < (x1.length : Int) := by simpa using hge
    have : x1.drop i.toNat = [] := List.drop_of_length_le (by omega)
    have h3 : per x1 1 = some t := by rw [h2, this]; rfl
    unfold perR
    rw [h3]
    exact Round.done (Evt.some _)
/- impl.shaftsCode -/
theorem e53 (l : List Sft) (hl : Small l) (room : Bool) : Evt (fun n => call T C n 53 (l, room, ())) (codeR l room, ()) := by
  refine Evt.next (Evt.bind (e108 l hl) (Evt.bind (e107 _ _) (Evt.bind (e107 _ _) (Evt.bind (e106 _ (by simp)) ?_)))) (fun n => r53 n l room)
  unfold codeR
  cases hok : okA l with
  | false =>
    refine Evt.yes (by simp [fst0]) ((Evt.some _).of_eq fun n => ?_)
    simp [fst0]
    rfl
  | true =>
    cases room with
    | false =>
      refine Evt.yes (by simp [fst0]) ((Evt.some _).of_eq fun n => ?_)
      simp [fst0]
      rfl
    | true =>
      refine Evt.no (by simp [fst0]) (Evt.bind (e109 l hok) (Evt.bind (e107 _ _) ((Evt.some _).of_eq fun n => ?_)))
      unfold perR allR
      cases per l 1 <;> rfl
/- (impl.Shaft).step -/
theorem e166 {s : Sft} (h : Good s) (t : Int) {p : Int} (h0 : 0 ≤ p) (h1 : p ≤ 360) : Evt (fun n => call T C n 166 (s, t, p, ())) ((stp (withP s p) t, ()), ()) := by
  refine Evt.next (Evt.chk (den_ne h) (Evt.bind (e78 _) (Evt.chk (len_ne h) ((Evt.some _).of_eq fun n => ?_)))) (fun n => r166 n s t p)
  unfold stp withP
  simp only [wrap_id (x := p) (by omega) (by omega)]
  rfl
/- (impl.Shaft).lift -/
theorem e145 {s : Sft} (h : Good s) {t : Int} (h0 : 0 ≤ t) (h1 : t ≤ 20000) {p : Int} (p0 : 0 ≤ p) (p1 : p ≤ 360) : Evt (fun n => call T C n 145 (s, t, p, ())) ((lift (withP s p) t, ()), ()) := by
  obtain ⟨⟨v, hv, he⟩, _⟩ := lift_eq (h.withP p0 p1) h0 h1
  rw [he]
  refine Evt.next (Evt.bind (e166 h t p0 p1) ?_) (fun n => r145 n s t p)
  exact Evt.at hv (Evt.some ((wr .i64 v, ()), ()))
/- (impl.Shaft).now -/
theorem e110 {s : Sft} (h : Good s) {t : Int} (h0 : 0 ≤ t) (h1 : t ≤ 20000) : Evt (fun n => call T C n 110 (s, t, ())) ((lift s t, ()), ()) := by
  have e := e145 h h0 h1 (p := wr .i64 s.2.2.1) h.ph.1 h.ph.2
  rw [lift_wr h t] at e
  exact Evt.next (Evt.bind e (Evt.some _)) (fun n => r110 n s t)
/- impl.liftsOn -/
theorem e55 (l : List Sft) (hG : (1 ≤ (l.length : Int) ∧ (l.length : Int) ≤ 6) ∧ ∀ s ∈ l, Good s) {t : Int} (t0 : 0 ≤ t) (t1 : t ≤ 20000) : Evt (fun n => call T C n 55 (l, t, ())) ((l.map (lift · t), ()), ()) := by
  refine Evt.next ?_ (fun n => r55 n l t)
  refine loop_evt (fun (x : Int × List Int × List Sft × Int × Int × Unit) => x.1 = t ∧ x.2.2.1 = l ∧ x.2.2.2.1 = (l.length : Int) ∧ 0 ≤ x.2.2.2.2.1 ∧ x.2.2.2.2.1 ≤ (l.length : Int) ∧ x.2.1 = (l.take x.2.2.2.2.1.toNat).map (lift · t)) (fun (x : Int × List Int × List Sft × Int × Int × Unit) => ((l.length : Int) - x.2.2.2.2.1).toNat) (x := (t, [], l, (l.length : Int), 0, ())) ⟨rfl, rfl, rfl, Int.le_refl _, by simp, by simp⟩ ?_
  rintro ⟨tt, m, x1, mm, i, _⟩ ⟨h', h'', hmm, h0, h1, hm⟩
  simp only at h' h'' hmm h0 h1 hm
  subst h'; subst h''; subst hmm
  have hG1 := hG.1
  refine Round.ite (fun hlt => ?_) (fun hge => ?_)
  · have hlt : i < (x1.length : Int) := of_decide_eq_true hlt
    obtain ⟨v, hv, hv'⟩ := idx_at h0 hlt
    have hw : wr .i64 (i + 1) = i + 1 := wrap_id (by omega) (by omega)
    have hml : m.length ≤ 6 := by rw [hm]; simp; omega
    refine Round.at hv (Round.bind (e110 (hG.2 v (List.mem_of_getElem? hv')) t0 t1) (Round.chk (by simp; omega) (Round.again _ ⟨⟨rfl, rfl, rfl, ?_, ?_, ?_⟩, ?_⟩))) <;> simp only [hw]
    · omega
    · omega
    · rw [hm, show (i + 1).toNat = i.toNat + 1 by omega, List.take_add_one, hv']
      simp
    · omega
  · have hge : ¬ i < (x1.length : Int) := by simpa using hge
    have : m = x1.map (lift · tt) := by rw [hm, List.take_of_length_le (by omega)]
    rw [← this]
    exact Round.done (Evt.some _)
/- impl.EventsOf -/
theorem e10 (l : List Sft) (hl : Small l) (lv : Int) : Evt (fun n => call T C n 10 (l, lv, ())) (evRes l lv, ()) := by
  refine Evt.next (Evt.bind (e54 lv) (Evt.bind (e53 l hl _) ?_)) (fun n => r10 n l lv)
  unfold evRes
  refine Evt.ite (fun h => ?_) (fun h => ?_)
  · have h : ¬ (codeR l (inR lv 0 20000)).2.1 = (0 : Int) := by simpa using h
    rw [if_pos h]; exact Evt.some _
  · have h : (codeR l (inR lv 0 20000)).2.1 = (0 : Int) := by simpa using h
    rw [if_neg (by simpa using h)]
    obtain ⟨hok, hp0, hp1⟩ := code_ok h
    have hpp := code_pos h
    have hG := okA_good hok
    have hl6 : l.length ≤ 6 := by have := hG.1; omega
    simp only
    generalize (codeR l (inR lv 0 20000)).1 = p at hp0 hp1 hpp
    change Int at p
    have hp0 : (1 : Int) ≤ p := hpp
    have hp1 : p ≤ (20000 : Int) := hp1
    simp only [wrap_id (x := p - 1) (by omega) (by omega)]
    refine Evt.bind (e55 l hG (show 0 ≤ p - 1 by omega) (show p - 1 ≤ 20000 by omega)) ?_
    refine for_evt' 0 p (fun t (_ : Unit) => (l, lv, evA l lv p t.toNat, l.map (lift · (Int.tmod (t + p - 1) p)), p, t, ())) (fun _ _ => True) (b0 := ()) (by rw [prev_zero (by omega)]; rfl) (by omega) trivial ?_ ?_
    · intro t _ t0 t1 _
      have hq := prev_bd t0 t1
      have hA := evA_bd hl6 lv p t0 (show t ≤ 20000 by omega)
      refine Round.yes (decide_eq_true t1) (Round.bind (e55 l hG t0 (show t ≤ 20000 by omega)) ?_)
      refine for_round' 0 (l.length : Int) (fun i (_ : Unit) => (l, lv, evA l lv p t.toNat ++ evR lv t (Int.tmod (t + p - 1) p) (l.take i.toNat) 0, l.map (lift · (Int.tmod (t + p - 1) p)), t, l.map (lift · t), p, t, l.map (lift · t), (l.length : Int), i, ())) (fun _ _ => True) (b0 := ()) (by simp [evR]) (by omega) trivial ?_ ?_
      · intro i _ h2 h3 _
        obtain ⟨s, hs⟩ := at_of h2 h3
        have hR := evR_bd hl6 lv t (Int.tmod (t + p - 1) p) i.toNat
        have hi : ((l.take i.toNat).length : Int) = i := by rw [List.length_take]; omega
        simp only [wr_succ h2 h3 (by omega)]
        refine Round.yes (decide_eq_true h3) (Round.at (hs.map (lift · t)).idx (Round.ite (fun hb => ?_) (fun hb => ?_)))
        · have hb : lift s t ≥ lv := of_decide_eq_true hb
          refine Round.at (hs.map (lift · (Int.tmod (t + p - 1) p))).idx (Round.ite (fun hc => ?_) (fun hc => ?_))
          · have hc : lift s (Int.tmod (t + p - 1) p) < lv := of_decide_eq_true hc
            refine Round.chk (by simp; omega) (Round.inr _ ⟨(), ?_, trivial⟩)
            have he : evOn s lv t (Int.tmod (t + p - 1) p) = true := by simp [evOn, hb, hc]
            rw [hs.take, evR_snoc, if_pos he, hi]
            simp
          · have hc : ¬ lift s (Int.tmod (t + p - 1) p) < lv := by simpa using hc
            refine Round.inr _ ⟨(), ?_, trivial⟩
            have he : ¬ evOn s lv t (Int.tmod (t + p - 1) p) = true := by simp [evOn]; intro; omega
            rw [hs.take, evR_snoc, if_neg he]
            simp
        · have hb : ¬ lift s t ≥ lv := by simpa using hb
          refine Round.inr _ ⟨(), ?_, trivial⟩
          have he : ¬ evOn s lv t (Int.tmod (t + p - 1) p) = true := by simp [evOn]; intro; omega
          rw [hs.take, evR_snoc, if_neg he]
          simp
      · intro _ _
        refine Round.no (by simp) (Round.inl _ ⟨(), ?_, trivial⟩)
        rw [take_all, evA_succ l lv p t0, wr_succ t0 t1 (by omega), prev_next t0 t1]
    · intro _ _
      exact Round.no (by simp) (Round.done (Evt.some _))
/- laws.eqEvent -/
theorem e56 (v : Evn) : Evt (fun n => call T C n 56 (v, v, ())) ((true, ()), ()) := Evt.next (Evt.no (by simp) (Evt.no (by simp) (Evt.some _))) (fun n => r56 n v v)
/- laws.eqEventS -/
theorem e11 (l : List Evn) (hl : (l.length : Int) ≤ 140737488351232) : Evt (fun n => call T C n 11 (l, l, ())) ((true, ()), ()) := by
  refine Evt.next (Evt.no (by simp) ?_) (fun n => r11 n l l)
  refine for_evt 0 (l.length : Int) (fun i (_ : Unit) => (l, l, i, ())) (fun _ _ => True) (b0 := ()) (by omega) trivial ?_ ?_
  · intro i _ h2 h3 _
    obtain ⟨v, hv⟩ := at_of h2 h3
    refine Round.yes (decide_eq_true h3) (Round.at hv.idx (Round.at hv.idx (Round.bind (e56 v) (Round.no (by simp) (Round.again _ ⟨(), ?_, trivial⟩)))))
    rw [wr_succ h2 h3 (by omega)]
  · intro _ _
    exact Round.no (by simp) (Round.done (Evt.some _))
/- laws.eqCam -/
theorem e23 (l : List Int) (hl : (l.length : Int) ≤ 140737488351232) : Evt (fun n => call T C n 23 (l, l, ())) ((true, ()), ()) := by
  refine Evt.next (Evt.no (by simp) ?_) (fun n => r23 n l l)
  refine for_evt 0 (l.length : Int) (fun i (_ : Unit) => (l, l, i, ())) (fun _ _ => True) (b0 := ()) (by omega) trivial ?_ ?_
  · intro i _ h2 h3 _
    obtain ⟨v, hv⟩ := at_of h2 h3
    refine Round.yes (decide_eq_true h3) (Round.at hv.idx (Round.at hv.idx (Round.no (by simp) (Round.again _ ⟨(), ?_, trivial⟩))))
    rw [wr_succ h2 h3 (by omega)]
  · intro _ _
    exact Round.no (by simp) (Round.done (Evt.some _))
/- laws.eqShaft -/
theorem e57 (s : Sft) (hl : (s.2.2.2.1.length : Int) ≤ 140737488351232) : Evt (fun n => call T C n 57 (s, s, ())) ((true, ()), ()) :=
  Evt.next (Evt.no (by simp) (Evt.no (by simp) (Evt.no (by simp) (Evt.bind (e23 _ hl) (Evt.no (by simp) (Evt.some _)))))) (fun n => r57 n s s)
/- laws.eqShaftS -/
theorem e12 (l : List Sft) (hl : Small l) : Evt (fun n => call T C n 12 (l, l, ())) ((true, ()), ()) := by
  have hl1 := hl.1
  refine Evt.next (Evt.no (by simp) ?_) (fun n => r12 n l l)
  refine loop_evt (fun (x : List Sft × List Sft × Int × Unit) => x.1 = l ∧ x.2.1 = l ∧ 0 ≤ x.2.2.1 ∧ x.2.2.1 ≤ (l.length : Int)) (fun (x : List Sft × List Sft × Int × Unit) => ((l.length : Int) - x.2.2.1).toNat) (x := (l, l, 0, ())) ⟨rfl, rfl, Int.le_refl _, by simp⟩ ?_
  rintro ⟨x1, x2, i, _⟩ ⟨h', h'', h0, h1⟩
  simp only at h' h'' h0 h1
  subst h'; subst h''
  refine Round.ite (fun hlt => ?_) (fun hge => ?_)
  · have hlt : i < (x2.length : Int) := of_decide_eq_true hlt
    obtain ⟨v, hv, hv'⟩ := idx_at h0 hlt
    have hw : wr .i64 (i + 1) = i + 1 := wrap_id (by omega) (by omega)
    refine Round.at hv (Round.at hv (Round.bind (e57 v (hl.get hv')) (Round.no (by simp) (Round.again _ ⟨⟨rfl, rfl, ?_, ?_⟩, ?_⟩)))) <;> simp only [hw] <;> omega
  · exact Round.done (Evt.some _)
/- laws.markCam -/
theorem e46 (l : List Int) (k : Int) (h0 : 0 ≤ k) (h1 : k + l.length ≤ 4611686018427387904) : Evt (fun n => call T C n 46 (l, k, ())) ((k + l.length, ()), (mkL (wr .i16) l.length k, ())) := by
  refine Evt.next ?_ (fun n => r46 n l k)
  refine for_evt' 0 (l.length : Int) (fun i (b : List Int) => (b, k + i, i, ())) (fun i b => b.length = l.length ∧ b.take i.toNat = mkL (wr .i16) i.toNat k) (b0 := l) (by simp) (by omega) ⟨rfl, by simp [mkL]⟩ ?_ ?_
  · intro i b h2 h3 ⟨hb, ht⟩
    have hi : i < (b.length : Int) := by omega
    obtain ⟨u, hu⟩ := get_of_lt h2 hi
    refine Round.yes (decide_eq_true hi) (Round.chk (chk_at h2 hi) (Round.at hu (Round.again _ ⟨b.set i.toNat (wr .i16 (k + i)), ?_, by simpa using hb, ?_⟩)))
    · rw [wrap_id (x := k + i + 1) (by omega) (by omega), wrap_id (x := i + 1) (by omega) (by omega)]
      simp only [Int.add_assoc, id_eq]
    · rw [take_set_succ h2 hi, ht, show (i + 1).toNat = i.toNat + 1 by omega, mkL_succ, show ((i.toNat : Nat) : Int) = i by omega]
  · intro b ⟨hb, ht⟩
    have e : b = mkL (wr .i16) l.length k := by rw [← take_all b, hb, ht]; simp
    rw [← e]
    exact Round.no (by simp [hb]) (Round.done (Evt.some _))
/- laws.markShaftS -/
theorem e13 (l : List Sft) (k : Int) (h0 : 0 ≤ k) (h1 : k + totS l ≤ 4611686018427387904) : ∃ b, Evt (fun n => call T C n 13 (l, k, ())) ((k + totS l, ()), (b, ())) ∧ heldS b k = some (k + totS l) := by
  have hlen : ∀ m : List Sft, (m.length : Int) ≤ totS m := by
    intro m
    induction m with
    | nil => simp [totS]
    | cons s r ih => rw [totS_cons]; simp only [List.length_cons]; omega
  have hll := hlen l
  suffices h : ∃ b : List Sft, heldS b k = some (k + totS l) ∧ Evt (fun n => call T C n 13 (l, k, ())) ((k + totS l, ()), (b, ())) by
    obtain ⟨b, h1, h2⟩ := h; exact ⟨b, h2, h1⟩
  refine ⟨markS l k, markS_held l k, ?_⟩
  refine Evt.next ?_ (fun n => r13 n l k)
  refine for_evt' 0 (l.length : Int) (fun i (b : List Sft) => (b, k + totS (l.take i.toNat), i, ())) (fun i b => b.length = l.length ∧ b.drop i.toNat = l.drop i.toNat ∧ b.take i.toNat = markS (l.take i.toNat) k) (b0 := l) (by simp [totS]) (by omega) ⟨rfl, rfl, by simp [markS]⟩ ?_ ?_
  · intro i b h2 h3 ⟨hb, hd, ht⟩
    have hi : i < (b.length : Int) := by omega
    obtain ⟨s, hs⟩ := at_of h2 h3
    have hbs : b[i.toNat]? = some s := by
      have : (b.drop i.toNat)[0]? = (l.drop i.toNat)[0]? := by rw [hd]
      rw [List.getElem?_drop, List.getElem?_drop] at this
      rw [show i.toNat + 0 = i.toNat by omega] at this
      rw [this, hs.get]
    have hset : ∀ v : Sft, (b.set i.toNat v)[i.toNat]? = some v := fun v => List.getElem?_set_self (by omega)
    have hsl : ∀ v : Sft, i < (((b.set i.toNat v).length : Nat) : Int) := fun v => by rw [List.length_set]; exact hi
    have htk := totS_take l (i + 1).toNat
    rw [hs.take, totS_append] at htk
    have ht1 : totS [s] = 3 + s.2.2.2.1.length := by rw [totS_cons]; simp [totS]
    have hp := totS_nonneg (l.take i.toNat)
    have hq := totS_nonneg (l.drop (i + 1).toNat)
    generalize hK : k + totS (l.take i.toNat) = K
    have w1 : wr .i64 (K + 1) = K + 1 := wrap_id (by omega) (by omega)
    have w2 : wr .i64 (K + 1 + 1) = K + 1 + 1 := wrap_id (by omega) (by omega)
    have w3 : wr .i64 (K + 1 + 1 + 1) = K + 1 + 1 + 1 := wrap_id (by omega) (by omega)
    simp only [w1, w2, w3, List.set_set]
    refine Round.yes (decide_eq_true hi) (Round.chk (chk_at h2 hi) (Round.at hbs (Round.chk (chk_at h2 (hsl _)) (Round.at (hset _) (Round.chk (chk_at h2 (hsl _)) (Round.at (hset _) (Round.chk (chk_at h2 (hsl _)) (Round.at (hset _) (Round.bind (e46 s.2.2.2.1 (K + 1 + 1 + 1) (by omega) (by omega)) (Round.at (hset _) (Round.again _ ⟨b.set i.toNat (markOne s K), ?_, ?_, ?_, ?_⟩)))))))))))
    · rw [hs.take, totS_append, ht1, wr_succ h2 h3 (by omega)]
      simp only [Prod.mk.injEq, and_true]
      refine ⟨rfl, ?_⟩
      show K + 1 + 1 + 1 + (s.2.2.2.1.length : Int) = _
      omega
    · simpa using hb
    · rw [drop_set_succ h2]
      have : (b.drop i.toNat).drop 1 = (l.drop i.toNat).drop 1 := by rw [hd]
      rw [List.drop_drop, List.drop_drop] at this
      rw [show (i + 1).toNat = i.toNat + 1 by omega]
      exact this
    · rw [take_set_succ h2 hi, ht, hs.take, markS_append, hK]
  · intro b ⟨hb, _, ht⟩
    have e : b = markS l k := by
      have h1 := take_all l
      rw [h1, ← hb, take_all] at ht
      exact ht
    rw [← e, take_all]
    exact Round.no (by simp [hb]) (Round.done (Evt.some _))
/- laws.markEventS -/
theorem e14 (l : List Evn) (k : Int) (h0 : 0 ≤ k) (h1 : k + 2 * l.length ≤ 4611686018427387904) : Evt (fun n => call T C n 14 (l, k, ())) ((k + 2 * l.length, ()), (mkE l.length k, ())) := by
  refine Evt.next ?_ (fun n => r14 n l k)
  refine for_evt' 0 (l.length : Int) (fun i (b : List Evn) => (b, k + 2 * i, i, ())) (fun i b => b.length = l.length ∧ b.take i.toNat = mkE i.toNat k) (b0 := l) (by simp) (by omega) ⟨rfl, by simp [mkE]⟩ ?_ ?_
  · intro i b h2 h3 ⟨hb, ht⟩
    have hi : i < (b.length : Int) := by omega
    obtain ⟨u, hu⟩ := get_of_lt h2 hi
    have hset : ∀ v : Evn, (b.set i.toNat v)[i.toNat]? = some v := fun v => List.getElem?_set_self (by omega)
    have hsl : ∀ v : Evn, i < (((b.set i.toNat v).length : Nat) : Int) := fun v => by rw [List.length_set]; exact hi
    simp only [wrap_id (x := k + 2 * i + 1) (by omega) (by omega), wrap_id (x := k + 2 * i + 1 + 1) (by omega) (by omega), wrap_id (x := i + 1) (by omega) (by omega), List.set_set]
    refine Round.yes (decide_eq_true hi) (Round.chk (chk_at h2 hi) (Round.at hu (Round.chk (chk_at h2 (hsl _)) (Round.at (hset _) (Round.again _ ⟨b.set i.toNat (k + 2 * i, k + 2 * i + 1, ()), ?_, by simpa using hb, ?_⟩)))))
    · rw [show k + 2 * (i + 1) = k + 2 * i + 1 + 1 by omega]
    · rw [take_set_succ h2 hi, ht, show (i + 1).toNat = i.toNat + 1 by omega, mkE_succ, show ((i.toNat : Nat) : Int) = i by omega]
  · intro b ⟨hb, ht⟩
    have e : b = mkE l.length k := by rw [← take_all b, hb, ht]; simp
    rw [← e]
    exact Round.no (by simp [hb]) (Round.done (Evt.some _))
/- laws.heldEventS -/
theorem e15 (m : Nat) (k : Int) (h0 : 0 ≤ k) (h1 : k + 2 * m ≤ 4611686018427387904) : Evt (fun n => call T C n 15 (mkE m k, k, ())) ((k + 2 * m, ()), ()) := by
  refine Evt.next ?_ (fun n => r15 n _ k)
  refine for_evt' 0 (m : Int) (fun i (_ : Unit) => (mkE m k, k + 2 * i, i, ())) (fun _ _ => True) (b0 := ()) (by simp) (by omega) trivial ?_ ?_
  · intro i _ h2 h3 _
    obtain ⟨v, hv⟩ := at_of (l := mkE m k) h2 (by rw [mkE_len]; exact h3)
    obtain ⟨e1, e2⟩ := mkE_at m k hv h2
    simp only [wrap_id (x := k + 2 * i + 1) (by omega) (by omega), wrap_id (x := k + 2 * i + 1 + 1) (by omega) (by omega), wrap_id (x := i + 1) (by omega) (by omega)]
    refine Round.yes (by rw [mkE_len]; exact decide_eq_true h3) (Round.at hv.idx (Round.no (by simp [e1]) (Round.at hv.idx (Round.no (by simp [e2]) (Round.again _ ⟨(), ?_, trivial⟩)))))
    rw [show k + 2 * (i + 1) = k + 2 * i + 1 + 1 by omega]
  · intro _ _
    exact Round.no (by simp [mkE_len]) (Round.done (Evt.some _))
/- laws.FnExactEventsOf -/
theorem e3 (l : List Sft) (lv : Int) (hd : DomA (C 3).params (l, lv, ())) : Evt (fun n => call T C n 3 (l, lv, ())) ((true, ()), ()) := by
  have h1 := shaftsDom1 (l := l) hd.1
  have h2 := shaftsDom2 (l := l) hd.1
  have hS : Small l := ⟨by omega, fun s hs => by have := h2 s hs; omega⟩
  refine Evt.next (Evt.bind (e7 l hS 1048576) (Evt.ite (fun _ => Evt.some _) (fun hsz => ?_))) (fun n => r3 n l lv)
  have hsz := szS_ok hS (by simpa using hsz)
  have hR := evRes_len l lv
  have to1 := e9 l h1 h2
  have sp := e8 l hS lv
  have im := e10 l hS lv
  obtain ⟨b0, hm0, _⟩ := e13 l 1 (by omega) (by omega)
  have hm := e14 (evRes l lv).1 1 (by omega) (by omega)
  have hh := e15 (evRes l lv).1.length 1 (by omega) (by omega)
  have eqg := e11 (evRes l lv).1 (by omega)
  refine Evt.bind to1 (Evt.bind sp (Evt.bind to1 (Evt.bind im (Evt.bind eqg (Evt.no (by simp) (Evt.no (by simp) ?_))))))
  refine Evt.bind to1 (Evt.bind (e12 l hS) (Evt.no (by simp) ?_))
  refine Evt.bind hm0 (Evt.no (by have := totS_nonneg l; simp; omega) (Evt.bind eqg (Evt.no (by simp) (Evt.no (by simp) ?_))))
  refine Evt.bind hm (Evt.bind hh (Evt.no (by simp; omega) (Evt.no (by simp) ?_)))
  refine Evt.bind to1 (Evt.bind im (Evt.bind eqg (Evt.no (by simp) (Evt.no (by simp) (Evt.bind hh (Evt.no (by simp; omega) (Evt.no (by simp) (Evt.some _))))))))

end Go.Cams.YtdgmghmbokkhlaaLEventsOf
