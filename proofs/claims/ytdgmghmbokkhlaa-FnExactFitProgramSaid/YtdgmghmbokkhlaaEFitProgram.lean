/- What the functions that the law reaches come to. -/
import Derived.Test.YtdgmghmbokkhlaaRFitProgram
import Derived.Test.YtdgmghmbokkhlaaPu12
namespace Go.Cams.YtdgmghmbokkhlaaLFitProgram
open Go Go.Fw Go.Proofs Go.Proofs.Ytdgmghmbokkhlaa.LFitProgram
/- laws.toCam -/
theorem e19 (l : List Int) (hl : (l.length : Int) * 2 ≤ 140737488351232) : Evt (fun n => call T C n 19 (l, ())) ((l, ()), ()) := by
  refine Evt.next (Evt.chk (by simp; omega) ?_) (fun n => r19 n l)
  refine for_evt 0 (l.length : Int) (fun i (b : List Int) => (l, b, i, ())) (fun i b => b.length = l.length ∧ b.take i.toNat = l.take i.toNat) (b0 := List.replicate (Int.toNat (l.length : Int)) 0) (by omega) ⟨by simp, by simp⟩ ?_ ?_
  · intro i b h2 h3 ⟨hb, ht⟩
    have hi : i < (b.length : Int) := by omega
    obtain ⟨v, hv⟩ := at_of h2 h3
    obtain ⟨u, hu⟩ := get_of_lt h2 hi
    refine Round.yes (decide_eq_true h3) (Round.at hv.idx (Round.chk (chk_at h2 hi) (Round.at hu (Round.again _ ⟨b.set i.toNat v, ?_, by simpa using hb, ?_⟩))))
    · rw [wr_succ h2 h3 (by omega)]
    · rw [take_set_succ h2 hi, ht, hv.take]
  · intro b ⟨hb, ht⟩
    have e : b = l := by rw [← take_all b, hb, ht]; simp
    rw [e]
    exact Round.no (by simp) (Round.done (Evt.some _))
/- spec.l00In -/
theorem e83 (a b c : Int) : Evt (fun n => call T C n 83 (a, b, c, ())) ((inR a b c, ()), ()) := by
  refine Evt.next ?_ (fun n => r83 n a b c)
  refine Evt.ite (fun h => ?_) (fun h => ?_)
  · refine (Evt.some _).of_eq fun n => ?_
    have h : b ≤ a := of_decide_eq_true h
    simp [inR, h]
    rfl
  · refine (Evt.some _).of_eq fun n => ?_
    have h : ¬ b ≤ a := by simpa using h
    simp [inR, h]
    rfl
/- spec.l01Steps -/
theorem e126 (a : Int) : Evt (fun n => call T C n 126 (a, ())) ((inR a 8 360, ()), ()) := Evt.next (Evt.bind (e83 a 8 360) (Evt.some _)) (fun n => r126 n a)
/- spec.l01Lift -/
theorem e127 (a : Int) : Evt (fun n => call T C n 127 (a, ())) ((inR a 0 10000, ()), ()) := Evt.next (Evt.bind (e83 a 0 10000) (Evt.some _)) (fun n => r127 n a)
/- spec.l01Ok -/
theorem e73 (l : List Int) (hl : (l.length : Int) ≤ 140737488351232) : Evt (fun n => call T C n 73 (l, ())) ((okC l, ()), ()) := by
  refine Evt.next ?_ (fun n => r73 n l)
  refine Evt.bind (e126 _) ?_
  refine Evt.ite (fun h => ?_) (fun h => ?_)
  · refine (Evt.some _).of_eq fun n => ?_
    have h : inR (l.length : Int) 8 360 = false := by simpa using h
    simp [okC, h]
    rfl
  · have h : inR (l.length : Int) 8 360 = true := by simpa using h
    have he : okC l = l.all okV := by simp [okC, h]
    rw [he]
    refine loop_evt (fun (x : List Int × Int × Unit) => x.1 = l ∧ 0 ≤ x.2.1 ∧ x.2.1 ≤ (l.length : Int) ∧ l.all okV = (l.drop x.2.1.toNat).all okV) (fun (x : List Int × Int × Unit) => ((l.length : Int) - x.2.1).toNat) (x := (l, 0, ())) ⟨rfl, Int.le_refl _, by simp, by simp⟩ ?_
    rintro ⟨x1, i, _⟩ ⟨h', h0, h1, h2⟩
    simp only at h' h0 h1 h2
    subst h'
    refine Round.ite (fun hlt => ?_) (fun hge => ?_)
    · have hlt : i < (x1.length : Int) := of_decide_eq_true hlt
      obtain ⟨v, hv, hv'⟩ := idx_at h0 hlt
      have hd := drop_cons hv'
      refine Round.at hv (Round.bind (e127 _) (Round.ite (fun hb => ?_) (fun hb => ?_)))
      · have hb : okV v = false := by simpa [okV] using hb
        have h3 : x1.all okV = false := by rw [h2, hd]; simp [hb]
        rw [h3]
        exact Round.done (Evt.some _)
      · have hb : okV v = true := by simpa [okV] using hb
        have hw : wr .i64 (i + 1) = i + 1 := wrap_id (by omega) (by omega)
        refine Round.again _ ⟨⟨rfl, ?_, ?_, ?_⟩, ?_⟩ <;> simp only [hw]
        · omega
        · omega
        · rw [h2, hd, show (i + 1).toNat = i.toNat + 1 by omega]
          simp [hb]
        · omega
    · have hge : ¬ i < (x1.length : Int) := by simpa using hge
      have : x1.drop i.toNat = [] := List.drop_of_length_le (by omega)
      rw [h2, this]
      exact Round.done (Evt.some _)
/- spec.l01At -/
theorem e84 {l : List Int} (hr : Rng l) (h0 : 0 < (l.length : Int)) (h1 : (l.length : Int) ≤ 1000000) {x : Int} (hx : -4000000 ≤ x) (hx' : x ≤ 4000000) : ∃ v, l[(x % l.length).toNat]? = some v ∧ v ∈ l ∧ Evt (fun n => call T C n 84 (l, x, ())) ((v, ()), ()) := by
  have hp := Int.emod_nonneg x (show (l.length : Int) ≠ 0 by omega)
  obtain ⟨v, hv⟩ := at_of (l := l) hp (Int.emod_lt_of_pos x h0)
  refine ⟨v, hv.get, hv.mem, ?_⟩
  refine Evt.next (Evt.chk (bne_pos h0) (Evt.chk (bne_pos h0) ?_)) (fun n => r84 n l x)
  rw [turn_at h0 h1 hx hx']
  refine Evt.at hv.idx ((Evt.some _).of_eq fun n => ?_)
  rw [hr.id hv.mem]
  rfl
theorem e84' {l : List Int} (hr : Rng l) (h0 : 0 < (l.length : Int)) (h1 : (l.length : Int) ≤ 1000000) {x : Int} (hx : -4000000 ≤ x) (hx' : x ≤ 4000000) : Evt (fun n => call T C n 84 (l, x, ())) ((cAt l x, ()), ()) := by
  obtain ⟨v, hv, hm, he⟩ := e84 hr h0 h1 hx hx'
  have : cAt l x = v := by unfold cAt g; rw [List.getD_eq_getElem?_getD, hv]; rfl
  rw [this]; exact he
/- spec.l01Changes -/
theorem e74 {c : List Int} (hr : Rng c) (h0 : 0 < c.length) (h1 : c.length ≤ 1000) : Evt (fun n => call T C n 74 (c, ())) ((chgL c, ()), ()) := by
  refine Evt.next ?_ (fun n => r74 n c)
  refine for_evt' 0 (c.length : Int) (fun i (_ : Unit) => (c, (List.range i.toNat).map (fun i => cAt c ((i : Nat) + 1) - cAt c (i : Nat)), i, ())) (fun _ _ => True) (b0 := ()) rfl (by omega) trivial ?_ ?_
  · intro i _ h2 h3 _
    have b1 := hr.el _ (cAt_mem h0 (i + 1))
    have b2 := hr.el _ (cAt_mem h0 i)
    simp only [wr_succ h2 h3 (by omega)]
    refine Round.yes (decide_eq_true h3) (Round.bind (e84' hr (by omega) (by omega) (by omega) (by omega)) (Round.bind (e84' hr (by omega) (by omega) (by omega) (by omega)) (Round.chk (decide_eq_true (by simp; omega)) (Round.again _ ⟨(), ?_, trivial⟩))))
    show (c, _ ++ [wr .i64 (cAt c (i + 1) - cAt c i)], i + 1, ()) = _
    rw [wrap_id (x := cAt c (i + 1) - cAt c i) (by omega) (by omega), show (i + 1).toNat = i.toNat + 1 by omega, List.range_succ, List.map_append]
    simp [show ((i.toNat : Nat) : Int) = i by omega]
  · intro _ _
    exact Round.no (by simp) (Round.done (Evt.some ((chgL c, ()), ())))
/- spec.l01Kind -/
theorem e159 (x : Int) : Evt (fun n => call T C n 159 (x, ())) ((kdOf x, ()), ()) := by
  refine Evt.next ?_ (fun n => r159 n x)
  unfold kdOf
  refine Evt.ite (fun h => ?_) (fun h => ?_)
  · rw [if_pos (of_decide_eq_true h)]; exact Evt.some _
  have h : ¬ x > 0 := by simpa using h
  rw [if_neg h]
  refine Evt.ite (fun h => ?_) (fun h => ?_)
  · rw [if_pos (of_decide_eq_true h)]; exact Evt.some _
  · rw [if_neg (by simpa using h)]; exact Evt.some _
/- spec.l01Runs -/
theorem e132 {c : List Int} (hr : Rng c) (h0 : 0 < c.length) (h1 : c.length ≤ 1000) : Evt (fun n => call T C n 132 (c, ())) ((runsP c, ()), ()) := by
  have hcl := chgL_len c
  have hN : ∀ x : Int, 0 ≤ x → Int.tmod x (c.length : Int) = x % c.length := fun x hx => Int.tmod_eq_emod_of_nonneg hx
  have hA : ∀ x : Int, 0 ≤ x → idx (chgL c) (Int.tmod x (c.length : Int)) = some (cAt c (x + 1) - cAt c x) := fun x hx => by rw [hN x hx]; exact (chgL_at h0 x).idx
  refine Evt.next (Evt.bind (e74 hr h0 h1) ?_) (fun n => r132 n c)
  have main : ∀ s0 : Int, 0 ≤ s0 → s0 ≤ 1000 → rs c s0 c.length = specRuns c → Evt (fun n => loopK (fun (x24 : (List Int) × Int × (List (Int × (Int × (Int × Unit)))) × Int × Int × Unit) again25 => 
    (if (decide (x24.2.2.2.2.1 > (0 : Int))) = true then 
  loopK (fun (x27 : (List Int) × Int × (List (Int × (Int × (Int × Unit)))) × Int × Int × Int × Unit) again28 => 
    (if (decide (x27.2.2.2.2.2.1 < x27.2.2.2.2.1)) = true then chk (x27.2.1 != 0) ((idx x27.1 (Int.tmod (wr .i64 (x27.2.2.2.1 + x27.2.2.2.2.2.1)) x27.2.1)).bind fun v30 => (
   call T C n 159 (v30, ())).bind fun r31 => chk (x27.2.1 != 0) ((idx x27.1 (Int.tmod x27.2.2.2.1 x27.2.1)).bind fun v32 => (
   call T C n 159 (v32, ())).bind fun r33 => 
    (if (bif true then (r31.1.1 == r33.1.1) else false) = true then again28 (x27.1, x27.2.1, x27.2.2.1, x27.2.2.2.1, x27.2.2.2.2.1, (wr .i64 (x27.2.2.2.2.2.1 + (1 : Int))), ()) else chk (x27.2.1 != 0) ((idx x27.1 (Int.tmod x27.2.2.2.1 x27.2.1)).bind fun v34 => (
   call T C n 159 (v34, ())).bind fun r35 => chk (x27.2.1 != 0) (chk (decide ((x27.2.2.1.length + ([(r35.1.1, ((wr .i16 (Int.tmod x27.2.2.2.1 x27.2.1)), ((wr .i16 x27.2.2.2.2.2.1), ())))] : (List (Int × (Int × (Int × Unit))))).length) * 6 ≤ 140737488355328)) (again25 (x27.1, x27.2.1, (x27.2.2.1 ++ ([(r35.1.1, ((wr .i16 (Int.tmod x27.2.2.2.1 x27.2.1)), ((wr .i16 x27.2.2.2.2.2.1), ())))] : (List (Int × (Int × (Int × Unit)))))), (wr .i64 (x27.2.2.2.1 + x27.2.2.2.2.2.1)), (wr .i64 (x27.2.2.2.2.1 - x27.2.2.2.2.2.1)), ()))))))) else chk (x27.2.1 != 0) ((idx x27.1 (Int.tmod x27.2.2.2.1 x27.2.1)).bind fun v36 => (
   call T C n 159 (v36, ())).bind fun r37 => chk (x27.2.1 != 0) (chk (decide ((x27.2.2.1.length + ([(r37.1.1, ((wr .i16 (Int.tmod x27.2.2.2.1 x27.2.1)), ((wr .i16 x27.2.2.2.2.2.1), ())))] : (List (Int × (Int × (Int × Unit))))).length) * 6 ≤ 140737488355328)) (again25 (x27.1, x27.2.1, (x27.2.2.1 ++ ([(r37.1.1, ((wr .i16 (Int.tmod x27.2.2.2.1 x27.2.1)), ((wr .i16 x27.2.2.2.2.2.1), ())))] : (List (Int × (Int × (Int × Unit)))))), (wr .i64 (x27.2.2.2.1 + x27.2.2.2.2.2.1)), (wr .i64 (x27.2.2.2.2.1 - x27.2.2.2.2.2.1)), ())))))) n (x24.1, x24.2.1, x24.2.2.1, x24.2.2.2.1, x24.2.2.2.2.1, (1 : Int), ()) else 
    (if ((x24.2.2.1.length : Int) == (1 : Int)) = true then chk (decide (0 ≤ (0 : Int) ∧ (0 : Int) < (x24.2.2.1.length : Int))) ((x24.2.2.1[(Int.toNat (0 : Int))]?).bind fun v38 => some (((x24.2.2.1.set (Int.toNat (0 : Int)) (v38.1, ((0 : Int), v38.2.2))), ()), (()))) else some ((x24.2.2.1, ()), (()))))) n (chgL c, (c.length : Int), ([] : List Ct), s0, (c.length : Int), ())) ((runsP c, ()), ()) := by
    intro s0 s00 s01 hs0
    refine loop_evt (fun x => ∃ (done : List Ct) (left : Nat), left ≤ c.length ∧ x = (chgL c, (c.length : Int), done, s0 + (c.length : Int) - left, (left : Int), ()) ∧ done ++ rs c (s0 + (c.length : Int) - left) left = specRuns c ∧ done.length ≤ c.length - left) (fun x => x.2.2.2.2.1.toNat) ⟨[], c.length, Nat.le_refl _, by simp, by simpa using hs0, by simp⟩ ?_
    rintro x ⟨done, left, hl, rfl, hd, hdl⟩
    by_cases hz : left = 0
    · subst hz
      rw [rs_zero, List.append_nil] at hd
      rw [← spec_runs h0, ← hd]
      refine Round.no (by simp) (Round.ite (fun h => ?_) (fun h => ?_))
      · have h : done.length = 1 := by
          have h : (done.length : Int) = 1 := by simpa using h
          omega
        obtain ⟨v, rfl⟩ : ∃ v, done = [v] := List.length_eq_one_iff.1 h
        exact Round.chk rfl (Round.at (v := v) rfl (Round.done (Evt.some _)))
      · have h : done.length ≠ 1 := by
          have h : ¬ (done.length : Int) = 1 := by simpa using h
          omega
        have : fixOne done = done := by
          match done, h with
          | [], _ => rfl
          | [_], h => exact absurd rfl h
          | _ :: _ :: _, _ => rfl
        rw [this]
        exact Round.done (Evt.some _)
    obtain ⟨r1, r2, r3, r4⟩ := rl_spec (kd c) (s0 + (c.length : Int) - left) (left := left) (by omega)
    obtain ⟨s, hs⟩ : ∃ s : Int, s = s0 + (c.length : Int) - left := ⟨_, rfl⟩
    rw [← hs] at r1 r2 r3 r4 hd ⊢
    obtain ⟨m, hm⟩ : ∃ m : Nat, m = rl (kd c) s left := ⟨_, rfl⟩
    rw [← hm] at r1 r2 r3 r4
    have hrs : rs c s left = (kd c s, s % c.length, (m : Int), ()) :: rs c (s + (m : Nat)) (left - m) := by rw [rs_pos c s (by omega), ← hm]
    rw [hrs] at hd
    have hmd := Int.emod_nonneg s (show (c.length : Int) ≠ 0 by omega)
    have hme := Int.emod_lt_of_pos s (show 0 < (c.length : Int) by omega)
    have hse : Int.tmod s (c.length : Int) = s % c.length := hN s (by omega)
    refine Round.yes (decide_eq_true (show (left : Int) > 0 by omega)) ?_
    refine loop_round (fun y => ∃ j : Nat, 1 ≤ j ∧ j ≤ m ∧ y = (chgL c, (c.length : Int), done, s, (left : Int), (j : Int), ())) (fun y => (m - y.2.2.2.2.2.1).toNat) ⟨1, by omega, by omega, rfl⟩ ?_
    rintro y ⟨j, hj1, hj, rfl⟩
    have e16 : wr .i16 (s % (c.length : Int)) = s % c.length := wrap16 (by omega) (by omega)
    have ej : wr .i16 (j : Int) = j := wrap16 (by omega) (by omega)
    have esj : wr .i64 (s + (j : Int)) = s + j := wrap_id (by omega) (by omega)
    have elj : wr .i64 ((left : Int) - (j : Int)) = (left : Int) - j := wrap_id (by omega) (by omega)
    have ej1 : wr .i64 ((j : Int) + 1) = ((j + 1 : Nat) : Int) := by rw [wrap_id (by omega) (by omega)]; omega
    have bn : ((c.length : Int) != 0) = true := bne_pos (by omega)
    have stop : j = m → ∀ e : Int, e = s + (j : Int) → ∀ z : (List Int × Int × List Ct × Int × Int × Unit) ⊕ (List Int × Int × List Ct × Int × Int × Int × Unit), z = Sum.inl (chgL c, (c.length : Int), done ++ [(kdOf (cAt c (s + 1) - cAt c s), wr .i16 (Int.tmod s (c.length : Int)), wr .i16 (j : Int), ())], e, wr .i64 ((left : Int) - (j : Int)), ()) → (match z with
        | .inl s_1 => (∃ (done' : List Ct) (left' : Nat), left' ≤ c.length ∧ s_1 = (chgL c, (c.length : Int), done', s0 + (c.length : Int) - left', (left' : Int), ()) ∧ done' ++ rs c (s0 + (c.length : Int) - left') left' = specRuns c ∧ done'.length ≤ c.length - left') ∧ s_1.2.2.2.2.1.toNat < (((chgL c, (c.length : Int), done, s, (left : Int), ()) : List Int × Int × List Ct × Int × Int × Unit)).2.2.2.2.1.toNat
        | .inr t => (∃ j' : Nat, 1 ≤ j' ∧ j' ≤ m ∧ t = (chgL c, (c.length : Int), done, s, (left : Int), (j' : Int), ())) ∧ (m - t.2.2.2.2.2.1).toNat < ((m : Int) - (j : Int)).toNat) := by
      intro hjm e he z hz
      subst hz
      subst hjm
      refine ⟨⟨done ++ [(kd c s, s % c.length, (j : Int), ())], left - j, by omega, ?_, ?_, ?_⟩, ?_⟩
      · show (chgL c, (c.length : Int), done ++ [(kd c s, wr .i16 (Int.tmod s (c.length : Int)), wr .i16 (j : Int), ())], e, wr .i64 ((left : Int) - (j : Int)), ()) = _
        rw [hse, e16, ej, he, elj, show s + (j : Int) = s0 + (c.length : Int) - ((left - j : Nat) : Int) by omega, show (left : Int) - (j : Int) = ((left - j : Nat) : Int) by omega]
      · rw [show s0 + (c.length : Int) - ((left - j : Nat) : Int) = s + (j : Nat) by omega, List.append_assoc]; exact hd
      · rw [List.length_append, List.length_singleton]; omega
      · show (wr .i64 ((left : Int) - (j : Int))).toNat < (left : Int).toNat
        rw [elj]; omega
    show Round (fun n ag => if decide ((j : Int) < (left : Int)) = true then _ else _) _ _
    refine Round.ite (fun hc => ?_) (fun hc => ?_)
    · have hc : (j : Int) < (left : Int) := of_decide_eq_true hc
      refine Round.chk bn ?_
      show Round (fun n ag => (idx (chgL c) (Int.tmod (wr .i64 (s + (j : Int))) (c.length : Int))).bind _) _ _
      rw [esj]
      refine Round.at (hA _ (by omega)) (Round.bind (e159 _) (Round.chk bn (Round.at (hA s (by omega)) (Round.bind (e159 _) (Round.ite (fun hq => ?_) (fun hq => ?_))))))
      · have hq : kd c (s + j) = kd c s := by
          have : kdOf (cAt c (s + j + 1) - cAt c (s + j)) = kdOf (cAt c (s + 1) - cAt c s) := by simpa using hq
          exact this
        have hjm : j < m := by
          by_cases e : j = m
          · subst e; exact absurd hq (r4 (by omega))
          · omega
        show Round (fun n ag => ag (Sum.inr (chgL c, (c.length : Int), done, s, (left : Int), wr .i64 ((j : Int) + 1), ()))) _ _
        rw [ej1]
        exact Round.inr _ ⟨⟨j + 1, by omega, by omega, rfl⟩, by show ((m : Int) - ((j + 1 : Nat) : Int)).toNat < ((m : Int) - (j : Int)).toNat; omega⟩
      · have hq : kd c (s + j) ≠ kd c s := by
          have : ¬ kdOf (cAt c (s + j + 1) - cAt c (s + j)) = kdOf (cAt c (s + 1) - cAt c s) := by simpa using hq
          exact this
        have hjm : j = m := by
          by_cases e : j < m
          · exact absurd (r3 j e) hq
          · omega
        exact Round.chk bn (Round.at (hA s (by omega)) (Round.bind (e159 _) (Round.chk bn (Round.chk (decide_eq_true (by simp; omega)) (Round.again _ (stop hjm _ rfl _ rfl))))))
    · have hc : ¬ (j : Int) < (left : Int) := by simpa using hc
      have hjm : j = m := by omega
      exact Round.chk bn (Round.at (hA s (by omega)) (Round.bind (e159 _) (Round.chk bn (Round.chk (decide_eq_true (by simp; omega)) (Round.again _ (stop hjm _ esj _ rfl))))))
  obtain ⟨B, hB⟩ : ∃ B, B = bkF (kd c) (c.length - 1) 0 := ⟨_, rfl⟩
  obtain ⟨_, b2, b3, b4⟩ := bkF_spec (kd c) (c.length - 1) 0 (fun i hi => by omega)
  rw [← hB] at b2 b3 b4
  have hfin : ∀ b : Nat, b = B → rs c (if b = 0 then 0 else (c.length : Int) - b) c.length = specRuns c := fun b hb => by unfold specRuns; rw [← hB, hb]
  have hsB : ∀ b : Nat, b < c.length → 0 ≤ (if b = 0 then 0 else (c.length : Int) - b) ∧ (if b = 0 then 0 else (c.length : Int) - b) ≤ 1000 := fun b hb => by split <;> omega
  refine loop_evt (fun x => ∃ b : Nat, b ≤ B ∧ x = (chgL c, (c.length : Int), (if b = 0 then 0 else (c.length : Int) - b), (b : Int), ())) (fun x => ((B : Int) - x.2.2.2.1).toNat) ⟨0, by omega, by simp [hcl]⟩ ?_
  rintro x ⟨b, hb, rfl⟩
  have w1 : wr .i64 ((c.length : Int) - 1) = (c.length : Int) - 1 := wrap_id (by omega) (by omega)
  have w2 : wr .i64 ((c.length : Int) - 1 - (b : Int)) = (c.length : Int) - 1 - b := wrap_id (by omega) (by omega)
  have w3 : wr .i64 ((b : Int) + 1) = (b : Int) + 1 := wrap_id (by omega) (by omega)
  have bn : ((c.length : Int) != 0) = true := bne_pos (by omega)
  show Round (fun n ag => if decide ((b : Int) < wr .i64 ((c.length : Int) - 1)) = true then _ else _) _ _
  refine Round.ite (fun hc => ?_) (fun hc => ?_)
  · have hc : (b : Int) < (c.length : Int) - 1 := by
      have := of_decide_eq_true hc
      rw [w1] at this; exact this
    refine Round.chk bn ?_
    show Round (fun n ag => (idx (chgL c) (Int.tmod (wr .i64 (wr .i64 ((c.length : Int) - 1) - (b : Int))) (c.length : Int))).bind _) _ _
    rw [w1, w2]
    have hk1 : kdOf (cAt c ((c.length : Int) - 1 - b + 1) - cAt c ((c.length : Int) - 1 - b)) = kd c (-(b : Int) - 1) := by
      show kd c ((c.length : Int) - 1 - b) = _
      rw [show (c.length : Int) - 1 - (b : Int) = -(b : Int) - 1 + c.length by omega, kd_add]
    have h00 : idx (chgL c) 0 = some (cAt c (0 + 1) - cAt c 0) := by have := hA 0 (Int.le_refl _); simpa using this
    refine Round.at (hA _ (by omega)) (Round.bind (e159 _) (Round.at h00 (Round.bind (e159 _) (Round.ite (fun hq => ?_) (fun hq => ?_)))))
    · have hq : kd c (-(b : Int) - 1) = kd c 0 := by
        have : kdOf (cAt c ((c.length : Int) - 1 - b + 1) - cAt c ((c.length : Int) - 1 - b)) = kdOf (cAt c (0 + 1) - cAt c 0) := by simpa using hq
        rw [hk1] at this; exact this
      have hbb : b < B := by
        by_cases e2 : b = B
        · subst e2; exact absurd hq (b4 (by omega))
        · omega
      refine Round.again _ ⟨⟨b + 1, by omega, ?_⟩, ?_⟩
      · rw [w3, if_neg (show ¬ b + 1 = 0 by omega), show (c.length : Int) - 1 - (b : Int) = (c.length : Int) - ((b + 1 : Nat) : Int) by omega]
        rfl
      · show ((B : Int) - wr .i64 ((b : Int) + 1)).toNat < ((B : Int) - (b : Int)).toNat
        rw [w3]; omega
    · have hq : kd c (-(b : Int) - 1) ≠ kd c 0 := by
        have : ¬ kdOf (cAt c ((c.length : Int) - 1 - b + 1) - cAt c ((c.length : Int) - 1 - b)) = kdOf (cAt c (0 + 1) - cAt c 0) := by simpa using hq
        rw [hk1] at this; exact this
      have hbb : b = B := by
        by_cases e2 : b < B
        · exact absurd (b3 b e2) hq
        · omega
      exact Round.done (main _ (hsB b (by omega)).1 (hsB b (by omega)).2 (hfin b hbb))
  · have hc : ¬ (b : Int) < (c.length : Int) - 1 := by
      have : ¬ (b : Int) < wr .i64 ((c.length : Int) - 1) := by simpa using hc
      rw [w1] at this; exact this
    exact Round.done (main _ (hsB b (by omega)).1 (hsB b (by omega)).2 (hfin b (by omega)))
/- spec.l02Runs -/
theorem e94 {c : List Int} (hr : Rng c) (h0 : 0 < c.length) (h1 : c.length ≤ 1000) : Evt (fun n => call T C n 94 (c, ())) ((strP c, ()), ()) := by
  obtain ⟨v, r, e, q1, q2, q3, q4, q5⟩ := runsP_cons h0
  refine Evt.next (Evt.bind (e132 hr h0 h1) ?_) (fun n => r94 n c)
  have es : strP c = if v.2.1 > 0 then (v.1, 0, v.2.1 + v.2.2.1 - c.length, ()) :: r ++ [(v.1, v.2.1, (c.length : Int) - v.2.1, ())] else v :: r := by unfold strP; rw [e]
  rw [es, e]
  refine Evt.chk (decide_eq_true (by simp)) (Evt.at (x := v) rfl ?_)
  have w1 : wr .i16 (c.length : Int) = c.length := wrap16 (by omega) (by omega)
  have w2 : wr .i16 (v.2.1 + v.2.2.1) = v.2.1 + v.2.2.1 := wrap16 (by omega) (by omega)
  have w3 : wr .i16 (v.2.1 + v.2.2.1 - (c.length : Int)) = v.2.1 + v.2.2.1 - c.length := wrap16 (by omega) (by omega)
  have w4 : wr .i16 ((c.length : Int) - v.2.1) = (c.length : Int) - v.2.1 := wrap16 (by omega) (by omega)
  rw [w1, w2, w3, w4]
  refine Evt.ite (fun h => ?_) (fun h => ?_)
  · have h : v.2.1 = 0 := by simpa using h
    rw [if_neg (by omega)]; exact Evt.some _
  have h : ¬ v.2.1 = 0 := by simpa using h
  have q3 := q3 (by omega)
  rw [if_pos (show v.2.1 > 0 by omega)]
  refine Evt.no (by simp; omega) (Evt.chk (decide_eq_true (by simp; omega)) (Evt.chk (decide_eq_true (by simp; omega)) (Evt.chk (decide_eq_true (by simp; omega)) ((Evt.some _).of_eq fun n => ?_))))
  simp
  rfl
/- spec.l02Shape -/
theorem e160 {w k n : Int} (w0 : 0 ≤ w) (w1 : w ≤ 3) (k0 : 0 ≤ k) (k1 : k ≤ n) (n1 : n ≤ 360) : Evt (fun m => call T C m 160 (w, k, n, ())) ((shN w k n, shD w n, ()), ()) := by
  refine Evt.next ?_ (fun m => r160 m w k n)
  have W : ∀ x : Int, -9000000000000000000 ≤ x → x ≤ 9000000000000000000 → wr .i64 x = x := fun x a b => wrap_id (by omega) (by omega)
  have q2 := mulB (show 0 ≤ n by omega) n1 (show 0 ≤ n by omega) n1
  have q3 := mulB q2.1 q2.2 (show 0 ≤ n by omega) n1
  have q4 := mulB q3.1 q3.2 (show 0 ≤ n by omega) n1
  have q5 := mulB q4.1 q4.2 (show 0 ≤ n by omega) n1
  have kk := mulB (show 0 ≤ 2 * k by omega) (show 2 * k ≤ 720 by omega) k0 (show k ≤ 360 by omega)
  have dd := mulB (show 0 ≤ 2 * (n - k) by omega) (show 2 * (n - k) ≤ 720 by omega) (show 0 ≤ n - k by omega) (show n - k ≤ 360 by omega)
  have k3 := mulB (show 0 ≤ 3 * k by omega) (show 3 * k ≤ 1080 by omega) k0 (show k ≤ 360 by omega)
  have k3n := mulB k3.1 k3.2 (show 0 ≤ n by omega) n1
  have kkk := mulB kk.1 kk.2 k0 (show k ≤ 360 by omega)
  have c2 := mulB k0 (show k ≤ 360 by omega) k0 (show k ≤ 360 by omega)
  have c3 := mulB c2.1 c2.2 k0 (show k ≤ 360 by omega)
  have e1 := mulB (show 0 ≤ 10 * n by omega) (show 10 * n ≤ 3600 by omega) (show 0 ≤ n by omega) n1
  have e2 := mulB (show 0 ≤ 15 * k by omega) (show 15 * k ≤ 5400 by omega) (show 0 ≤ n by omega) n1
  have e3 := mulB (show 0 ≤ 6 * k by omega) (show 6 * k ≤ 2160 by omega) k0 (show k ≤ 360 by omega)
  have a1 : k * k * k * (-1944000) ≤ k * k * k * (10 * n * n - 15 * k * n + 6 * k * k) := Int.mul_le_mul_of_nonneg_left (by omega) c3.1
  have a2 : k * k * k * (10 * n * n - 15 * k * n + 6 * k * k) ≤ k * k * k * 2073600 := Int.mul_le_mul_of_nonneg_left (by omega) c3.1
  have one : Evt (fun _ => if decide (wr .i64 (2 * k) ≤ n) = true then some ((wr .i64 (wr .i64 (2 * k) * k), wr .i64 (n * n), ()), ()) else some ((wr .i64 (wr .i64 (n * n) - wr .i64 (wr .i64 (2 * wr .i64 (n - k)) * wr .i64 (n - k))), wr .i64 (n * n), ()), ())) ((shN 1 k n, shD 1 n, ()), ()) := by
    rw [W (2 * k) (by omega) (by omega), W (2 * k * k) (by omega) (by omega), W (n * n) (by omega) (by omega), W (n - k) (by omega) (by omega), W (2 * (n - k)) (by omega) (by omega), W (2 * (n - k) * (n - k)) (by omega) (by omega), W (n * n - 2 * (n - k) * (n - k)) (by omega) (by omega)]
    refine Evt.ite (fun h => ?_) (fun h => ?_)
    · have : shN 1 k n = 2 * k * k := by unfold shN; rw [if_pos rfl, if_pos (of_decide_eq_true h)]
      rw [this]; exact Evt.some _
    · have : shN 1 k n = n * n - 2 * (n - k) * (n - k) := by unfold shN; rw [if_pos rfl, if_neg (by simpa using h)]
      rw [this]; exact Evt.some _
  have two : Evt (fun _ => some ((wr .i64 (wr .i64 (wr .i64 (wr .i64 (3 * k) * k) * n) - wr .i64 (wr .i64 (wr .i64 (2 * k) * k) * k)), wr .i64 (wr .i64 (n * n) * n), ()), ())) ((shN 2 k n, shD 2 n, ()), ()) := by
    rw [W (3 * k) (by omega) (by omega), W (3 * k * k) (by omega) (by omega), W (3 * k * k * n) (by omega) (by omega), W (2 * k) (by omega) (by omega), W (2 * k * k) (by omega) (by omega), W (2 * k * k * k) (by omega) (by omega), W (3 * k * k * n - 2 * k * k * k) (by omega) (by omega), W (n * n) (by omega) (by omega), W (n * n * n) (by omega) (by omega)]
    exact Evt.some _
  have three : Evt (fun _ => some ((wr .i64 (wr .i64 (wr .i64 (k * k) * k) * wr .i64 (wr .i64 (wr .i64 (wr .i64 (10 * n) * n) - wr .i64 (wr .i64 (15 * k) * n)) + wr .i64 (wr .i64 (6 * k) * k))), wr .i64 (wr .i64 (wr .i64 (wr .i64 (n * n) * n) * n) * n), ()), ())) ((shN 3 k n, shD 3 n, ()), ()) := by
    rw [W (k * k) (by omega) (by omega), W (k * k * k) (by omega) (by omega), W (10 * n) (by omega) (by omega), W (10 * n * n) (by omega) (by omega), W (15 * k) (by omega) (by omega), W (15 * k * n) (by omega) (by omega), W (10 * n * n - 15 * k * n) (by omega) (by omega), W (6 * k) (by omega) (by omega), W (6 * k * k) (by omega) (by omega), W (10 * n * n - 15 * k * n + 6 * k * k) (by omega) (by omega), W (k * k * k * (10 * n * n - 15 * k * n + 6 * k * k)) (by omega) (by omega), W (n * n) (by omega) (by omega), W (n * n * n) (by omega) (by omega), W (n * n * n * n) (by omega) (by omega), W (n * n * n * n * n) (by omega) (by omega)]
    exact Evt.some _
  rcases (show w = 0 ∨ w = 1 ∨ w = 2 ∨ w = 3 by omega) with rfl | rfl | rfl | rfl
  · exact Evt.no (by decide) (Evt.no (by decide) (Evt.no (by decide) (Evt.some _)))
  · exact Evt.yes rfl one
  · exact Evt.no (by decide) (Evt.yes rfl two)
  · exact Evt.no (by decide) (Evt.no (by decide) (Evt.yes rfl three))
/- spec.l01Near -/
theorem e161 {x n : Int} (hn : 0 < n) (hn' : n ≤ 10000000000000) (h1 : -2000000000000000000 ≤ x) (h2 : x ≤ 2000000000000000000) : Evt (fun m => call T C m 161 (x, n, ())) ((nr x n, ()), ()) := by
  have hbd := ediv_bd (a := 2 * x + n) (b := 2 * n) (M := 4500000000000000000) (by omega) (by omega) (by omega) (by omega)
  have he := floorDiv_eq (a := 2 * x + n) (b := 2 * n) (by omega)
  refine Evt.next ?_ (fun m => r161 m x n)
  rw [wrap_id (x := 2 * n) (by omega) (by omega), wrap_id (x := 2 * x) (by omega) (by omega), wrap_id (x := 2 * x + n) (by omega) (by omega)]
  refine Evt.chk (bne_pos (by omega)) (Evt.chk (bne_pos (by omega)) (Evt.ite (fun h => ?_) (fun h => ?_)))
  · have h : Int.tmod (2 * x + n) (2 * n) < 0 := of_decide_eq_true h
    rw [if_pos h] at he
    refine (Evt.some _).of_eq fun m => ?_
    rw [wrap_id (x := Int.tdiv (2 * x + n) (2 * n)) (by omega) (by omega), wrap_id (by omega) (by omega), he]
    rfl
  · have h : ¬ Int.tmod (2 * x + n) (2 * n) < 0 := by simpa using h
    rw [if_neg h] at he
    refine (Evt.some _).of_eq fun m => ?_
    rw [wrap_id (x := Int.tdiv (2 * x + n) (2 * n)) (by omega) (by omega), he]
    rfl
/- spec.l02Lift -/
theorem e133 {f t w k n : Int} (f0 : 0 ≤ f) (f1 : f ≤ 10000) (t0 : 0 ≤ t) (t1 : t ≤ 10000) (w0 : 0 ≤ w) (w1 : w ≤ 3) (k0 : 0 ≤ k) (k1 : k ≤ n) (n0 : 1 ≤ n) (n1 : n ≤ 360) : Evt (fun m => call T C m 133 (f, t, w, k, n, ())) ((liftP f t w k n, ()), ()) := by
  have hd := shD_bd (w := w) n0 n1
  have hb := lift_bd (w := w) f0 f1 t0 t1 k0 k1 n0 n1
  refine Evt.next (Evt.bind (e160 w0 w1 k0 k1 n1) ?_) (fun m => r133 m f t w k n)
  show Evt (fun m => (call T C m 161 (wr .i64 (wr .i64 (f * shD w n) + wr .i64 (wr .i64 (t - f) * shN w k n)), shD w n, ())).bind _) _
  rw [wrap_id (x := f * shD w n) (by omega) (by omega), wrap_id (x := t - f) (by omega) (by omega), wrap_id (x := (t - f) * shN w k n) (by omega) (by omega), wrap_id (x := f * shD w n + (t - f) * shN w k n) (by omega) (by omega)]
  exact Evt.bind (e161 (by omega) (by omega) (by omega) (by omega)) (Evt.some _)
/- spec.l02Fit -/
theorem e95 {c : List Int} (hr : Rng c) (h0 : 0 < c.length) (h1 : c.length ≤ 360) (hC : ∀ v ∈ c, 0 ≤ v ∧ v ≤ 10000) {s l : Int} (s0 : 0 ≤ s) (s1 : s ≤ 1000) (l0 : 1 ≤ l) (l1 : l ≤ 360) : Evt (fun n => call T C n 95 (c, s, l, ())) ((fitL c s l, ()), ()) := by
  have hf := hC _ (cAt_mem h0 s)
  have ht := hC _ (cAt_mem h0 (s + l))
  refine Evt.next (Evt.bind (e84' hr (by omega) (by omega) (by omega) (by omega)) ?_) (fun n => r95 n c s l)
  rw [wrap_id (x := s + l) (by omega) (by omega)]
  refine Evt.bind (e84' hr (by omega) (by omega) (by omega) (by omega)) ?_
  refine for_evt' 0 4 (fun w (_ : Unit) => (c, s, l, cAt c s, cAt c (s + l), w, ())) (fun w _ => ∀ u : Int, 0 ≤ u → u < w → fitW c s l u = false) (b0 := ()) rfl (by omega) (fun u a b => by omega) ?_ ?_
  · intro w _ w0 w1 hw
    refine Round.yes (decide_eq_true (show w ≤ 3 by omega)) ?_
    refine for_round' 1 l (fun k (ok : Bool) => (c, s, l, cAt c s, cAt c (s + l), w, ok, k, ())) (fun k ok => ok = fitTo c s l w (k - 1).toNat) (b0 := true) rfl (by omega) rfl ?_ ?_
    · intro k ok k0 k1 hk
      have hsk : wr .i64 (s + k) = s + k := wrap_id (by omega) (by omega)
      have hk1 : wr .i64 (k + 1) = k + 1 := wrap_id (by omega) (by omega)
      have hnx : fitTo c s l w (k + 1 - 1).toNat = (ok && (cAt c (s + k) == liftP (cAt c s) (cAt c (s + l)) w k l)) := by
        rw [show (k + 1 - 1).toNat = (k - 1).toNat + 1 by omega, hk]
        unfold fitTo
        rw [allTo_succ, show (((k - 1).toNat : Nat) : Int) + 1 = k by omega]
      refine Round.yes (decide_eq_true k1) (Round.ite (fun ho => ?_) (fun ho => ?_))
      · have ho : ok = true := ho
        rw [ho, Bool.true_and] at hnx
        show Round (fun n ag => (call T C n 84 (c, wr .i64 (s + k), ())).bind _) _ _
        rw [hsk]
        refine Round.bind (e84' hr (by omega) (by omega) (by omega) (by omega)) (Round.bind (e133 (f := cAt c s) (t := cAt c (s + l)) (w := w) (k := k) (n := l) hf.1 hf.2 ht.1 ht.2 w0 (by omega) (by omega) (by omega) (by omega) (by omega)) (Round.inr _ ⟨cAt c (s + k) == liftP (cAt c s) (cAt c (s + l)) w k l, ?_, hnx.symm⟩))
        show (c, s, l, cAt c s, cAt c (s + l), w, (cAt c (s + k) == liftP (cAt c s) (cAt c (s + l)) w k l), wr .i64 (k + 1), ()) = _
        rw [hk1]
      · have ho : ok = false := by simpa using ho
        rw [ho, Bool.false_and] at hnx
        refine Round.inr _ ⟨false, ?_, hnx.symm⟩
        show (c, s, l, cAt c s, cAt c (s + l), w, false, wr .i64 (k + 1), ()) = _
        rw [hk1]
    · intro ok hk
      have hk : ok = fitW c s l w := hk
      refine Round.no (by simp) (Round.ite (fun ho => ?_) (fun ho => ?_))
      · have ho : ok = true := ho
        rw [hk] at ho
        have : fitL c s l = w := by
          unfold fitL
          rcases (show w = 0 ∨ w = 1 ∨ w = 2 ∨ w = 3 by omega) with rfl | rfl | rfl | rfl
          · rw [if_pos ho]
          · rw [hw 0 (by omega) (by omega), if_neg (by simp), if_pos ho]
          · rw [hw 0 (by omega) (by omega), hw 1 (by omega) (by omega), if_neg (by simp), if_neg (by simp), if_pos ho]
          · rw [hw 0 (by omega) (by omega), hw 1 (by omega) (by omega), hw 2 (by omega) (by omega), if_neg (by simp), if_neg (by simp), if_neg (by simp), if_pos ho]
        rw [this]
        exact Round.done (Evt.some _)
      · have ho : ok = false := by simpa using ho
        rw [hk] at ho
        refine Round.inl _ ⟨(), ?_, fun u a b => ?_⟩
        · show (c, s, l, cAt c s, cAt c (s + l), wr .i64 (w + 1), ()) = _
          rw [wrap_id (x := w + 1) (by omega) (by omega)]
        · by_cases e : u = w
          · rw [e]; exact ho
          · exact hw u a (by omega)
  · intro _ hw
    have : fitL c s l = -1 := by
      unfold fitL
      rw [hw 0 (by omega) (by omega), hw 1 (by omega) (by omega), hw 2 (by omega) (by omega), hw 3 (by omega) (by omega)]
      rfl
    rw [this]
    exact Round.no (by simp) (Round.done (Evt.some _))
/- spec.FitProgram -/
theorem e43 (c : List Int) (hr : Rng c) : Evt (fun n => call T C n 43 (c, ())) (fpR c, ()) := by
  have hlen := hr.len'
  refine Evt.next (Evt.bind (e73 c (by omega)) ?_) (fun n => r43 n c)
  unfold fpR
  cases hok : okC c with
  | false => exact Evt.yes rfl (Evt.some _)
  | true =>
    have hl := okC_len hok
    have hC := okC_el hok hr
    have h0 : 0 < c.length := by omega
    obtain ⟨hs1, hs2⟩ := strP_el h0
    rw [if_neg (by simp)]
    refine Evt.no (by simp) (Evt.bind (e94 hr h0 (by omega)) (Evt.ite (fun h => ?_) (fun h => ?_)))
    · rw [if_pos (of_decide_eq_true h)]; exact Evt.some _
    have h : ¬ ((strP c).length : Int) > 24 := by simpa using h
    rw [if_neg h]
    refine Evt.at (g_idx (l := c) (i := 0) (Int.le_refl _) (by omega)).idx ?_
    refine for_evt' 0 ((strP c).length : Int) (fun i (_ : Unit) => (c, ((0, [], ()) : Prg), strP c, (g c 0, ((strP c).take i.toNat).map (motP c), ()), i, ())) (fun i _ => ∀ v ∈ (strP c).take i.toNat, ¬ fitL c v.2.1 v.2.2.1 < 0) (b0 := ()) rfl (by omega) (fun v hv => by simp at hv) ?_ ?_
    · intro i _ h2 h3 hp
      obtain ⟨v, hv⟩ := at_of h2 h3
      obtain ⟨_, b1, b2⟩ := hs2 v hv.mem
      have hfl := fitL_bd c v.2.1 v.2.2.1
      have hca := hC _ (cAt_mem h0 (v.2.1 + v.2.2.1))
      have e1 : wr .i64 v.2.1 = v.2.1 := wrap_id (by omega) (by omega)
      have e2 : wr .i64 v.2.2.1 = v.2.2.1 := wrap_id (by omega) (by omega)
      have e3 : wr .i64 (v.2.1 + v.2.2.1) = v.2.1 + v.2.2.1 := wrap_id (by omega) (by omega)
      have e4 : wr .i16 (cAt c (v.2.1 + v.2.2.1)) = cAt c (v.2.1 + v.2.2.1) := wrap16 (by omega) (by omega)
      have hlen2 : ((((strP c).take i.toNat).map (motP c)).length : Int) ≤ 24 := by rw [List.length_map, List.length_take]; omega
      refine Round.yes (decide_eq_true h3) (Round.at hv.idx (Round.at hv.idx ?_))
      rw [e1, e2, e3]
      refine Round.bind (e95 hr h0 (by omega) hC b1.1 (by omega) b2.1 (by omega)) (Round.ite (fun hn => ?_) (fun hn => ?_))
      · have hn : fitL c v.2.1 v.2.2.1 < 0 := of_decide_eq_true hn
        rw [all_false hv.mem (by simpa using hn), if_neg (by simp)]
        exact Round.done (Evt.some _)
      · have hn : ¬ fitL c v.2.1 v.2.2.1 < 0 := by simpa using hn
        refine Round.at hv.idx (Round.bind (e84' hr (by omega) (by omega) (by omega) (by omega)) (Round.chk (decide_eq_true (by simp only [List.length_cons, List.length_nil]; omega)) (Round.again _ ⟨(), ?_, fun u hu => ?_⟩)))
        · show (c, ((0, [], ()) : Prg), strP c, (g c 0, ((strP c).take i.toNat).map (motP c) ++ [(wr .i8 (fitL c v.2.1 v.2.2.1), v.2.2.1, wr .i16 (cAt c (v.2.1 + v.2.2.1)), ())], ()), wr .i64 (i + 1), ()) = _
          rw [wr_succ h2 h3 (by omega), wrap8 (by omega) (by omega), e4, hv.take]
          simp [motP]
        · rw [hv.take] at hu
          rcases List.mem_append.1 hu with hu | hu
          · exact hp u hu
          · have : u = v := by simpa using hu
            rw [this]; exact hn
    · intro _ hp
      rw [take_all] at hp
      simp only [take_all]
      have : (strP c).all (fun v => !decide (fitL c v.2.1 v.2.2.1 < 0)) = true := List.all_eq_true.2 fun v hv => by simpa using hp v hv
      rw [if_pos this]
      exact Round.no (by simp) (Round.done (Evt.some _))
/- (impl.Cam).steps -/
theorem e78 (a : List Int) : Evt (fun n => call T C n 78 (a, ())) (((a.length : Int), ()), ()) := Evt.next (Evt.some _) (fun n => r78 n a)
/- impl.inRange -/
theorem e76 (a b c : Int) : Evt (fun n => call T C n 76 (a, b, c, ())) ((inR a b c, ()), ()) := by
  refine Evt.next ?_ (fun n => r76 n a b c)
  refine Evt.ite (fun h => ?_) (fun h => ?_)
  · refine (Evt.some _).of_eq fun n => ?_
    have h : b ≤ a := of_decide_eq_true h
    simp [inR, h]
    rfl
  · refine (Evt.some _).of_eq fun n => ?_
    have h : ¬ b ≤ a := by simpa using h
    simp [inR, h]
    rfl
/- impl.isSteps -/
theorem e122 (a : Int) : Evt (fun n => call T C n 122 (a, ())) ((inR a 8 360, ()), ()) := Evt.next (Evt.bind (e76 a 8 360) (Evt.some _)) (fun n => r122 n a)
/- impl.isLift -/
theorem e125 (a : Int) : Evt (fun n => call T C n 125 (a, ())) ((inR a 0 10000, ()), ()) := Evt.next (Evt.bind (e76 a 0 10000) (Evt.some _)) (fun n => r125 n a)
/- impl.ValidCam$1 -/
theorem e124 (v : Int) : Evt (fun n => call T C n 124 (v, ())) ((!okV v, ()), ()) := Evt.next (Evt.bind (e125 _) (Evt.some _)) (fun n => r124 n v)
/- slices.IndexFunc[impl.Cam,int16]{impl.ValidCam$1} -/
theorem e157 (l : List Int) (hl : (l.length : Int) ≤ 140737488351232) : Evt (fun n => call T C n 157 (l, ((), ()), ())) ((fi (fun v => !okV v) l 0, ()), ()) := by
  refine Evt.next ?_ (fun n => r157 n l ((), ()))
  refine loop_evt (fun (x : List Int × (Unit × Unit) × Int × Int × Unit) => x.1 = l ∧ x.2.2.1 = (l.length : Int) ∧ 0 ≤ x.2.2.2.1 ∧ x.2.2.2.1 ≤ (l.length : Int) ∧ fi (fun v => !okV v) l 0 = fi (fun v => !okV v) (l.drop x.2.2.2.1.toNat) x.2.2.2.1) (fun (x : List Int × (Unit × Unit) × Int × Int × Unit) => ((l.length : Int) - x.2.2.2.1).toNat) (x := (l, ((), ()), (l.length : Int), 0, ())) ⟨rfl, rfl, Int.le_refl _, by simp, by simp⟩ ?_
  rintro ⟨x1, u, m, i, _⟩ ⟨h', hm, h0, h1, h2⟩
  simp only at h' hm h0 h1 h2
  subst h'; subst hm
  refine Round.ite (fun hlt => ?_) (fun hge => ?_)
  · have hlt : i < (x1.length : Int) := of_decide_eq_true hlt
    obtain ⟨v, hv, hv'⟩ := idx_at h0 hlt
    have hd := drop_cons hv'
    refine Round.at hv (Round.bind (e124 _) (Round.ite (fun hb => ?_) (fun hb => ?_)))
    · have hb : okV v = false := by simpa using hb
      have h3 : fi (fun v => !okV v) x1 0 = i := by rw [h2, hd]; simp [fi, hb]
      rw [h3]
      exact Round.done (Evt.some _)
    · have hb : okV v = true := by simpa using hb
      have hw : wr .i64 (i + 1) = i + 1 := wrap_id (by omega) (by omega)
      refine Round.again _ ⟨⟨rfl, rfl, ?_, ?_, ?_⟩, ?_⟩ <;> simp only [hw]
      · omega
      · omega
      · rw [h2, hd, show (i + 1).toNat = i.toNat + 1 by omega]
        simp [fi, hb]
      · omega
  · have hge : ¬ i < (x1.length : Int) := by simpa using hge
    have : x1.drop i.toNat = [] := List.drop_of_length_le (by omega)
    rw [h2, this]
    exact Round.done (Evt.some _)
/- slices.ContainsFunc[impl.Cam,int16]{impl.ValidCam$1} -/
theorem e123 (l : List Int) (hl : (l.length : Int) ≤ 140737488351232) : Evt (fun n => call T C n 123 (l, ((), ()), ())) ((l.any (fun v => !okV v), ()), ()) := by
  refine Evt.next (Evt.bind (e157 l hl) ((Evt.some _).of_eq fun n => ?_)) (fun n => r123 n l ((), ()))
  simp only [fi_any _ l 0 (Int.le_refl _)]
  rfl
/- impl.ValidCam -/
theorem e69 (l : List Int) (hl : (l.length : Int) ≤ 140737488351232) : Evt (fun n => call T C n 69 (l, ())) ((okC l, ()), ()) := by
  refine Evt.next (Evt.bind (e78 l) (Evt.bind (e122 _) ?_)) (fun n => r69 n l)
  refine Evt.ite (fun h => ?_) (fun h => ?_)
  · refine Evt.bind (e123 l hl) ((Evt.some _).of_eq fun n => ?_)
    have h : inR (l.length : Int) 8 360 = true := h
    have : okC l = !l.any (fun v => !okV v) := by simp [okC, h, List.any_eq_not_all_not]
    rw [this]
    rfl
  · refine (Evt.some _).of_eq fun n => ?_
    have h : inR (l.length : Int) 8 360 = false := by simpa using h
    simp [okC, h]
    rfl
/- impl.floorDiv -/
theorem e158 {a b : Int} (hb : 0 < b) (h1 : -4500000000000000000 ≤ a) (h2 : a ≤ 4500000000000000000) : Evt (fun n => call T C n 158 (a, b, ())) ((a / b, ()), ()) := by
  have hbd := ediv_bd hb h1 h2 (by omega)
  have he := floorDiv_eq (a := a) hb
  refine Evt.next (Evt.chk (bne_pos hb) (Evt.chk (bne_pos hb) (Evt.ite (fun h => ?_) (fun h => ?_)))) (fun n => r158 n a b)
  · have h : Int.tmod a b < 0 := of_decide_eq_true h
    rw [if_pos h] at he
    refine (Evt.some _).of_eq fun n => ?_
    rw [wrap_id (x := Int.tdiv a b) (by omega) (by omega), wrap_id (by omega) (by omega), he]
    rfl
  · have h : ¬ Int.tmod a b < 0 := by simpa using h
    rw [if_neg h] at he
    refine (Evt.some _).of_eq fun n => ?_
    rw [wrap_id (x := Int.tdiv a b) (by omega) (by omega), he]
    rfl
/- impl.mod -/
theorem e128 {a b : Int} (hb : 0 < b) (hb' : b ≤ 1000000000000) (h1 : -1000000000000 ≤ a) (h2 : a ≤ 1000000000000) : Evt (fun n => call T C n 128 (a, b, ())) ((a % b, ()), ()) := by
  have hd := Int.emod_def a b
  have h3 := Int.emod_nonneg a (show b ≠ 0 by omega)
  have h4 := Int.emod_lt_of_pos a hb
  refine Evt.next (Evt.bind (e158 hb (by omega) (by omega)) ((Evt.some _).of_eq fun n => ?_)) (fun n => r128 n a b)
  simp only
  rw [wrap_id (x := b * (a / b)) (by omega) (by omega), ← hd, wrap_id (by omega) (by omega)]
  rfl
/- (impl.Cam).at -/
theorem e80 {l : List Int} (hr : Rng l) (h0 : 0 < (l.length : Int)) (h1 : (l.length : Int) ≤ 1000000) {x : Int} (hx : -4000000 ≤ x) (hx' : x ≤ 4000000) : Evt (fun n => call T C n 80 (l, x, ())) ((cAt l x, ()), ()) := by
  have hp := Int.emod_nonneg x (show (l.length : Int) ≠ 0 by omega)
  have hq := Int.emod_lt_of_pos x h0
  have hv := g_idx (l := l) hp hq
  refine Evt.next (Evt.bind (e78 l) (Evt.bind (e128 (a := x) h0 (by omega) (by omega) (by omega)) (Evt.at hv.idx ((Evt.some _).of_eq fun n => ?_)))) (fun n => r80 n l x)
  rw [hr.id hv.mem]
  rfl
/- (impl.Cam).change -/
theorem e72 {c : List Int} (hr : Rng c) (h0 : 0 < c.length) (h1 : c.length ≤ 1000) {x : Int} (x0 : -1000000 ≤ x) (x1 : x ≤ 1000000) : Evt (fun n => call T C n 72 (c, x, ())) ((cAt c (x + 1) - cAt c x, ()), ()) := by
  have b1 := hr.el _ (cAt_mem h0 (x + 1))
  have b2 := hr.el _ (cAt_mem h0 x)
  refine Evt.next ?_ (fun n => r72 n c x)
  rw [wrap_id (x := x + 1) (by omega) (by omega)]
  refine Evt.bind (e80 hr (by omega) (by omega) (by omega) (by omega)) (Evt.bind (e80 hr (by omega) (by omega) (by omega) (by omega)) ((Evt.some _).of_eq fun n => ?_))
  show some ((wr .i64 (cAt c (x + 1) - cAt c x), ()), ()) = _
  rw [wrap_id (x := cAt c (x + 1) - cAt c x) (by omega) (by omega)]
  rfl
/- impl.kindOf -/
theorem e163 (x : Int) : Evt (fun n => call T C n 163 (x, ())) ((kdOf x, ()), ()) := by
  refine Evt.next ?_ (fun n => r163 n x)
  unfold kdOf
  refine Evt.ite (fun h => ?_) (fun h => ?_)
  · rw [if_pos (of_decide_eq_true h)]; exact Evt.some _
  have h : ¬ x > 0 := by simpa using h
  rw [if_neg h]
  refine Evt.ite (fun h => ?_) (fun h => ?_)
  · rw [if_pos (of_decide_eq_true h)]; exact Evt.some _
  · rw [if_neg (by simpa using h)]; exact Evt.some _
/- (impl.Cam).runs$1 -/
theorem e162 {c : List Int} (hr : Rng c) (h0 : 0 < c.length) (h1 : c.length ≤ 1000) {x : Int} (x0 : -1000000 ≤ x) (x1 : x ≤ 1000000) : Evt (fun n => call T C n 162 (x, c, ())) ((kd c x, ()), (c, ())) := Evt.next (Evt.bind (e72 hr h0 h1 x0 x1) (Evt.bind (e163 _) (Evt.some ((kd c x, ()), (c, ()))))) (fun n => r162 n x c)
/- (impl.Cam).runs -/
theorem e134 {c : List Int} (hr : Rng c) (h0 : 0 < c.length) (h1 : c.length ≤ 1000) : Evt (fun n => call T C n 134 (c, ())) ((runsP c, ()), ()) := by
  obtain ⟨k1, k2, k3⟩ := bk_spec c
  have hwn : wr .i64 (0 - (c.length : Int)) = -(c.length : Int) := by rw [wrap_id (by omega) (by omega)]; omega
  have hK := fun (x : Int) (x0 : -1000000 ≤ x) (x1 : x ≤ 1000000) => e162 (x := x) hr h0 h1 x0 x1
  refine Evt.next (Evt.bind (e78 c) ?_) (fun n => r134 n c)
  have main : bk c ≠ c.length → ∀ f : Nat → (Int × (Unit × (List Int × Unit)) × Int × List Ct × Int × Unit) → ((Int × (Unit × (List Int × Unit)) × Int × List Ct × Int × Unit) → Option ((List Ct × Unit) × Unit)) → Option ((List Ct × Unit) × Unit), f = (fun n x again => if decide (x.2.2.2.2.1 < wr .i64 (x.2.2.1 + x.1)) = true then loopK (fun (x27 : Int × (Unit × ((List Int) × Unit)) × Int × (List (Int × (Int × (Int × Unit)))) × Int × Int × Unit) again28 => 
    (if (decide (x27.2.2.2.2.2.1 < (wr .i64 (x27.2.2.1 + x27.1)))) = true then (
   call T C n 162 (x27.2.2.2.2.2.1, x27.2.1.2.1, ())).bind fun r31 => (
   call T C n 162 (x27.2.2.2.2.1, r31.2.1, ())).bind fun r32 => 
    (if (bif true then (r31.1.1 == r32.1.1) else false) = true then again28 (x27.1, ((), (r32.2.1, ())), x27.2.2.1, x27.2.2.2.1, x27.2.2.2.2.1, (wr .i64 (x27.2.2.2.2.2.1 + (1 : Int))), ()) else (
   call T C n 162 (x27.2.2.2.2.1, r32.2.1, ())).bind fun r33 => (
   call T C n 128 (x27.2.2.2.2.1, x27.1, ())).bind fun r34 => chk (decide ((x27.2.2.2.1.length + ([(r33.1.1, ((wr .i16 r34.1.1), ((wr .i16 (wr .i64 (x27.2.2.2.2.2.1 - x27.2.2.2.2.1))), ())))] : (List (Int × (Int × (Int × Unit))))).length) * 6 ≤ 140737488355328)) (again (x27.1, ((), (r33.2.1, ())), x27.2.2.1, (x27.2.2.2.1 ++ ([(r33.1.1, ((wr .i16 r34.1.1), ((wr .i16 (wr .i64 (x27.2.2.2.2.2.1 - x27.2.2.2.2.1))), ())))] : (List (Int × (Int × (Int × Unit)))))), x27.2.2.2.2.2.1, ()))) else (
   call T C n 162 (x27.2.2.2.2.1, x27.2.1.2.1, ())).bind fun r35 => (
   call T C n 128 (x27.2.2.2.2.1, x27.1, ())).bind fun r36 => chk (decide ((x27.2.2.2.1.length + ([(r35.1.1, ((wr .i16 r36.1.1), ((wr .i16 (wr .i64 (x27.2.2.2.2.2.1 - x27.2.2.2.2.1))), ())))] : (List (Int × (Int × (Int × Unit))))).length) * 6 ≤ 140737488355328)) (again (x27.1, ((), (r35.2.1, ())), x27.2.2.1, (x27.2.2.2.1 ++ ([(r35.1.1, ((wr .i16 r36.1.1), ((wr .i16 (wr .i64 (x27.2.2.2.2.2.1 - x27.2.2.2.2.1))), ())))] : (List (Int × (Int × (Int × Unit)))))), x27.2.2.2.2.2.1, ())))) n (x.1, ((), (x.2.1.2.1, ())), x.2.2.1, x.2.2.2.1, x.2.2.2.2.1, x.2.2.2.2.1, ()) else some ((x.2.2.2.1, ()), ())) →
      Evt (fun n => loopK (f n) n ((c.length : Int), ((), (c, ())), -(bk c : Int), [], -(bk c : Int), ())) ((runsP c, ()), ()) := by
    intro hne f hf
    subst hf
    have hrp : runsP c = rs c (-(bk c : Int)) c.length := by unfold runsP; rw [if_neg hne]
    rw [hrp]
    refine loop_evt (fun x => ∃ (done : List Ct) (left : Nat), left ≤ c.length ∧ x = ((c.length : Int), ((), (c, ())), -(bk c : Int), done, -(bk c : Int) + (c.length : Int) - left, ()) ∧ done ++ rs c (-(bk c : Int) + (c.length : Int) - left) left = rs c (-(bk c : Int)) c.length ∧ done.length ≤ c.length - left) (fun x => (-(bk c : Int) + (c.length : Int) - x.2.2.2.2.1).toNat) ⟨[], c.length, Nat.le_refl _, by simp, by simp, by simp⟩ ?_
    rintro x ⟨done, left, hl, rfl, hd, hdl⟩
    have hw1 : wr .i64 (-(bk c : Int) + (c.length : Int)) = -(bk c : Int) + (c.length : Int) := wrap_id (by omega) (by omega)
    by_cases hz : left = 0
    · subst hz
      rw [rs_zero, List.append_nil] at hd
      rw [← hd]
      exact Round.no (by simp [hw1]) (Round.done (Evt.some _))
    obtain ⟨r1, r2, r3, r4⟩ := rl_spec (kd c) (-(bk c : Int) + (c.length : Int) - left) (left := left) (by omega)
    obtain ⟨s, hs⟩ : ∃ s : Int, s = -(bk c : Int) + (c.length : Int) - left := ⟨_, rfl⟩
    rw [← hs] at r1 r2 r3 r4 hd ⊢
    obtain ⟨m, hm⟩ : ∃ m : Nat, m = rl (kd c) s left := ⟨_, rfl⟩
    rw [← hm] at r1 r2 r3 r4
    have hrs : rs c s left = (kd c s, s % c.length, (m : Int), ()) :: rs c (s + (m : Nat)) (left - m) := by rw [rs_pos c s (by omega), ← hm]
    rw [hrs] at hd
    have hmd := Int.emod_nonneg s (show (c.length : Int) ≠ 0 by omega)
    have hme := Int.emod_lt_of_pos s (show 0 < (c.length : Int) by omega)
    have hnext : ∀ d, d = done ++ [(kd c s, s % c.length, (m : Int), ())] → ∃ (done' : List Ct) (left' : Nat), left' ≤ c.length ∧ (((c.length : Int), ((), (c, ())), -(bk c : Int), d, s + m, ()) : Int × (Unit × (List Int × Unit)) × Int × List Ct × Int × Unit) = ((c.length : Int), ((), (c, ())), -(bk c : Int), done', -(bk c : Int) + (c.length : Int) - left', ()) ∧ done' ++ rs c (-(bk c : Int) + (c.length : Int) - left') left' = rs c (-(bk c : Int)) c.length ∧ done'.length ≤ c.length - left' := fun d hd' => ⟨d, left - m, by omega, by rw [hs, show -(bk c : Int) + (c.length : Int) - left + m = -(bk c : Int) + (c.length : Int) - ((left - m : Nat) : Int) by omega], by rw [hd', show -(bk c : Int) + (c.length : Int) - ((left - m : Nat) : Int) = s + (m : Nat) by omega, List.append_assoc]; exact hd, by rw [hd', List.length_append, List.length_singleton]; omega⟩
    refine Round.yes (decide_eq_true (show s < wr .i64 (-(bk c : Int) + (c.length : Int)) by rw [hw1]; omega)) ?_
    refine loop_round (fun y => ∃ j : Nat, j ≤ m ∧ y = ((c.length : Int), ((), (c, ())), -(bk c : Int), done, s, s + (j : Int), ())) (fun y => (s + m - y.2.2.2.2.2.1).toNat) ⟨0, by omega, by simp⟩ ?_
    rintro y ⟨j, hj, rfl⟩
    have e16 : wr .i16 (s % (c.length : Int)) = s % c.length := wrap16 (by omega) (by omega)
    have em : wr .i16 (wr .i64 (s + (m : Int) - s)) = (m : Int) := by rw [show s + (m : Int) - s = m by omega, wrap_id (by omega) (by omega), wrap16 (by omega) (by omega)]
    show Round (fun n ag => if decide (s + (j : Int) < wr .i64 (-(bk c : Int) + (c.length : Int))) = true then _ else _) _ _
    rw [hw1]
    have stop : j = m → ∀ z : (Int × (Unit × (List Int × Unit)) × Int × List Ct × Int × Unit) ⊕ (Int × (Unit × (List Int × Unit)) × Int × List Ct × Int × Int × Unit), z = Sum.inl ((c.length : Int), ((), (c, ())), -(bk c : Int), done ++ [(kd c s, wr .i16 (s % (c.length : Int)), wr .i16 (wr .i64 (s + (j : Int) - s)), ())], s + (j : Int), ()) → (match z with
        | .inl s_1 => (∃ (done' : List Ct) (left' : Nat), left' ≤ c.length ∧ s_1 = ((c.length : Int), ((), (c, ())), -(bk c : Int), done', -(bk c : Int) + (c.length : Int) - left', ()) ∧ done' ++ rs c (-(bk c : Int) + (c.length : Int) - left') left' = rs c (-(bk c : Int)) c.length ∧ done'.length ≤ c.length - left') ∧ (-(bk c : Int) + (c.length : Int) - s_1.2.2.2.2.1).toNat < (-(bk c : Int) + (c.length : Int) - ((((c.length : Int), ((), (c, ())), -(bk c : Int), done, s, ()) : Int × (Unit × (List Int × Unit)) × Int × List Ct × Int × Unit)).2.2.2.2.1).toNat
        | .inr t => (∃ j' : Nat, j' ≤ m ∧ t = ((c.length : Int), ((), (c, ())), -(bk c : Int), done, s, s + (j' : Int), ())) ∧ (s + m - t.2.2.2.2.2.1).toNat < (s + m - (s + (j : Int))).toNat) := by
      intro hjm z hz
      subst hz
      subst hjm
      refine ⟨?_, ?_⟩
      · rw [e16, em]; exact hnext _ rfl
      · show (-(bk c : Int) + (c.length : Int) - (s + (j : Int))).toNat < (-(bk c : Int) + (c.length : Int) - s).toNat
        omega
    refine Round.ite (fun hc => ?_) (fun hc => ?_)
    · have hc : s + (j : Int) < -(bk c : Int) + (c.length : Int) := of_decide_eq_true hc
      refine Round.bind (hK (s + (j : Int)) (by omega) (by omega)) (Round.bind (hK s (by omega) (by omega)) (Round.ite (fun hq => ?_) (fun hq => ?_)))
      · have hq : kd c (s + j) = kd c s := by simpa using hq
        have hjm : j < m := by
          by_cases e : j = m
          · subst e; exact absurd hq (r4 (by omega))
          · omega
        rw [wrap_id (x := s + (j : Int) + 1) (by omega) (by omega)]
        exact Round.inr _ ⟨⟨j + 1, by omega, by rw [show s + (j : Int) + 1 = s + ((j + 1 : Nat) : Int) by omega]⟩, by show (s + m - (s + (j : Int) + 1)).toNat < (s + m - (s + (j : Int))).toNat; omega⟩
      · have hq : kd c (s + j) ≠ kd c s := by simpa using hq
        have hjm : j = m := by
          by_cases e : j < m
          · exact absurd (r3 j e) hq
          · omega
        exact Round.bind (hK s (by omega) (by omega)) (Round.bind (e128 (a := s) (b := (c.length : Int)) (by omega) (by omega) (by omega) (by omega)) (Round.chk (decide_eq_true (by simp; omega)) (Round.again _ (stop hjm _ rfl))))
    · have hc : ¬ s + (j : Int) < -(bk c : Int) + (c.length : Int) := by simpa using hc
      have hjm : j = m := by omega
      exact Round.bind (hK s (by omega) (by omega)) (Round.bind (e128 (a := s) (b := (c.length : Int)) (by omega) (by omega) (by omega) (by omega)) (Round.chk (decide_eq_true (by simp; omega)) (Round.again _ (stop hjm _ rfl))))
  refine loop_evt (fun x => ∃ b : Nat, b ≤ bk c ∧ x = ((c.length : Int), ((), (c, ())), -(b : Int), ())) (fun x => ((bk c : Int) + x.2.2.1).toNat) ⟨0, by omega, by simp⟩ ?_
  rintro x ⟨b, hb, rfl⟩
  show Round (fun n ag => if decide (-(b : Int) > wr .i64 (0 - (c.length : Int))) = true then _ else _) _ _
  have hlt : ∀ hx : b < c.length, decide (-(b : Int) > wr .i64 (0 - (c.length : Int))) = true := fun hx => decide_eq_true (by rw [hwn]; omega)
  have hb1 : b < c.length → wr .i64 (-(b : Int) - 1) = -(b : Int) - 1 := fun hx => wrap_id (by omega) (by omega)
  by_cases e : b = c.length
  · have hbc : bk c = c.length := by omega
    have hrp : runsP c = [(kd c 0, 0, (c.length : Int), ())] := by unfold runsP; rw [if_pos hbc]
    rw [hrp]
    refine Round.no (by rw [hwn]; simp; omega) (Round.yes (by rw [hwn]; simp; omega) (Round.done (Evt.bind (hK 0 (by omega) (by omega)) ((Evt.some _).of_eq fun n => ?_))))
    rw [wrap16 (x := (c.length : Int)) (by omega) (by omega)]
    rfl
  · refine Round.yes (hlt (by omega)) ?_
    show Round (fun n ag => (call T C n 162 (wr .i64 (-(b : Int) - 1), c, ())).bind _) _ _
    rw [hb1 (by omega)]
    refine Round.bind (hK _ (by omega) (by omega)) (Round.bind (hK 0 (by omega) (by omega)) (Round.ite (fun hq => ?_) (fun hq => ?_)))
    · have hq : kd c (-(b : Int) - 1) = kd c 0 := by simpa using hq
      have hbb : b < bk c := by
        by_cases e2 : b = bk c
        · subst e2; exact absurd hq (k3 (by omega))
        · omega
      exact Round.again _ ⟨⟨b + 1, by omega, by rw [show -(b : Int) - 1 = -((b + 1 : Nat) : Int) by omega]⟩, by show ((bk c : Int) + (-(b : Int) - 1)).toNat < ((bk c : Int) + -(b : Int)).toNat; omega⟩
    · have hq : kd c (-(b : Int) - 1) ≠ kd c 0 := by simpa using hq
      have hbb : b = bk c := by
        by_cases e2 : b < bk c
        · exact absurd (k2 b e2) hq
        · omega
      subst hbb
      refine Round.no (by rw [hwn]; simp; omega) (Round.done ?_)
      exact main e _ rfl
/- (impl.Cam).stretches -/
theorem e96 {c : List Int} (hr : Rng c) (h0 : 0 < c.length) (h1 : c.length ≤ 1000) : Evt (fun n => call T C n 96 (c, ())) ((strP c, ()), ()) := by
  obtain ⟨v, r, e, q1, q2, q3, q4, q5⟩ := runsP_cons h0
  refine Evt.next (Evt.bind (e134 hr h0 h1) ?_) (fun n => r96 n c)
  have es : strP c = if v.2.1 > 0 then (v.1, 0, v.2.1 + v.2.2.1 - c.length, ()) :: r ++ [(v.1, v.2.1, (c.length : Int) - v.2.1, ())] else v :: r := by unfold strP; rw [e]
  rw [es, e]
  refine Evt.chk (decide_eq_true (by simp)) (Evt.at (x := v) rfl ?_)
  have w1 : wr .i16 (c.length : Int) = c.length := wrap16 (by omega) (by omega)
  have w2 : wr .i16 (v.2.1 + v.2.2.1) = v.2.1 + v.2.2.1 := wrap16 (by omega) (by omega)
  have w3 : wr .i16 (v.2.1 + v.2.2.1 - (c.length : Int)) = v.2.1 + v.2.2.1 - c.length := wrap16 (by omega) (by omega)
  have w4 : wr .i16 ((c.length : Int) - v.2.1) = (c.length : Int) - v.2.1 := wrap16 (by omega) (by omega)
  rw [w1, w2, w3, w4]
  refine Evt.ite (fun h => ?_) (fun h => ?_)
  · have h : v.2.1 > 0 := of_decide_eq_true h
    rw [if_pos h]
    exact Evt.chk (decide_eq_true (by simp)) (Evt.at (x := v) rfl (Evt.chk (decide_eq_true (by simp; omega)) (Evt.some _)))
  · rw [if_neg (by simpa using h)]; exact Evt.some _
/- impl.isLaw -/
theorem e135 (w : Int) : Evt (fun n => call T C n 135 (w, ())) ((inR w 0 3, ()), ()) := Evt.next (Evt.bind (e76 _ _ _) (Evt.some _)) (fun n => r135 n w)
/- impl.shape -/
theorem e172 {w k n : Int} (w0 : 0 ≤ w) (w1 : w ≤ 3) (k0 : 0 ≤ k) (k1 : k ≤ n) (n1 : n ≤ 360) : Evt (fun m => call T C m 172 (w, k, n, ())) ((shN w k n, shD w n, ()), ()) := by
  refine Evt.next ?_ (fun m => r172 m w k n)
  have W : ∀ x : Int, -9000000000000000000 ≤ x → x ≤ 9000000000000000000 → wr .i64 x = x := fun x a b => wrap_id (by omega) (by omega)
  have q2 := mulB (show 0 ≤ n by omega) n1 (show 0 ≤ n by omega) n1
  have q3 := mulB q2.1 q2.2 (show 0 ≤ n by omega) n1
  have q4 := mulB q3.1 q3.2 (show 0 ≤ n by omega) n1
  have q5 := mulB q4.1 q4.2 (show 0 ≤ n by omega) n1
  have kk := mulB (show 0 ≤ 2 * k by omega) (show 2 * k ≤ 720 by omega) k0 (show k ≤ 360 by omega)
  have dd := mulB (show 0 ≤ 2 * (n - k) by omega) (show 2 * (n - k) ≤ 720 by omega) (show 0 ≤ n - k by omega) (show n - k ≤ 360 by omega)
  have k3 := mulB (show 0 ≤ 3 * k by omega) (show 3 * k ≤ 1080 by omega) k0 (show k ≤ 360 by omega)
  have k3n := mulB k3.1 k3.2 (show 0 ≤ n by omega) n1
  have kkk := mulB kk.1 kk.2 k0 (show k ≤ 360 by omega)
  have c2 := mulB k0 (show k ≤ 360 by omega) k0 (show k ≤ 360 by omega)
  have c3 := mulB c2.1 c2.2 k0 (show k ≤ 360 by omega)
  have e1 := mulB (show 0 ≤ 10 * n by omega) (show 10 * n ≤ 3600 by omega) (show 0 ≤ n by omega) n1
  have e2 := mulB (show 0 ≤ 15 * k by omega) (show 15 * k ≤ 5400 by omega) (show 0 ≤ n by omega) n1
  have e3 := mulB (show 0 ≤ 6 * k by omega) (show 6 * k ≤ 2160 by omega) k0 (show k ≤ 360 by omega)
  have a1 : k * k * k * (-1944000) ≤ k * k * k * (10 * n * n - 15 * k * n + 6 * k * k) := Int.mul_le_mul_of_nonneg_left (by omega) c3.1
  have a2 : k * k * k * (10 * n * n - 15 * k * n + 6 * k * k) ≤ k * k * k * 2073600 := Int.mul_le_mul_of_nonneg_left (by omega) c3.1
  have one : Evt (fun _ => if decide (wr .i64 (2 * k) ≤ n) = true then some ((wr .i64 (wr .i64 (2 * k) * k), wr .i64 (n * n), ()), ()) else some ((wr .i64 (wr .i64 (n * n) - wr .i64 (wr .i64 (2 * wr .i64 (n - k)) * wr .i64 (n - k))), wr .i64 (n * n), ()), ())) ((shN 1 k n, shD 1 n, ()), ()) := by
    rw [W (2 * k) (by omega) (by omega), W (2 * k * k) (by omega) (by omega), W (n * n) (by omega) (by omega), W (n - k) (by omega) (by omega), W (2 * (n - k)) (by omega) (by omega), W (2 * (n - k) * (n - k)) (by omega) (by omega), W (n * n - 2 * (n - k) * (n - k)) (by omega) (by omega)]
    refine Evt.ite (fun h => ?_) (fun h => ?_)
    · have : shN 1 k n = 2 * k * k := by unfold shN; rw [if_pos rfl, if_pos (of_decide_eq_true h)]
      rw [this]; exact Evt.some _
    · have : shN 1 k n = n * n - 2 * (n - k) * (n - k) := by unfold shN; rw [if_pos rfl, if_neg (by simpa using h)]
      rw [this]; exact Evt.some _
  have two : Evt (fun _ => some ((wr .i64 (wr .i64 (wr .i64 (wr .i64 (3 * k) * k) * n) - wr .i64 (wr .i64 (wr .i64 (2 * k) * k) * k)), wr .i64 (wr .i64 (n * n) * n), ()), ())) ((shN 2 k n, shD 2 n, ()), ()) := by
    rw [W (3 * k) (by omega) (by omega), W (3 * k * k) (by omega) (by omega), W (3 * k * k * n) (by omega) (by omega), W (2 * k) (by omega) (by omega), W (2 * k * k) (by omega) (by omega), W (2 * k * k * k) (by omega) (by omega), W (3 * k * k * n - 2 * k * k * k) (by omega) (by omega), W (n * n) (by omega) (by omega), W (n * n * n) (by omega) (by omega)]
    exact Evt.some _
  have three : Evt (fun _ => some ((wr .i64 (wr .i64 (wr .i64 (k * k) * k) * wr .i64 (wr .i64 (wr .i64 (wr .i64 (10 * n) * n) - wr .i64 (wr .i64 (15 * k) * n)) + wr .i64 (wr .i64 (6 * k) * k))), wr .i64 (wr .i64 (wr .i64 (wr .i64 (n * n) * n) * n) * n), ()), ())) ((shN 3 k n, shD 3 n, ()), ()) := by
    rw [W (k * k) (by omega) (by omega), W (k * k * k) (by omega) (by omega), W (10 * n) (by omega) (by omega), W (10 * n * n) (by omega) (by omega), W (15 * k) (by omega) (by omega), W (15 * k * n) (by omega) (by omega), W (10 * n * n - 15 * k * n) (by omega) (by omega), W (6 * k) (by omega) (by omega), W (6 * k * k) (by omega) (by omega), W (10 * n * n - 15 * k * n + 6 * k * k) (by omega) (by omega), W (k * k * k * (10 * n * n - 15 * k * n + 6 * k * k)) (by omega) (by omega), W (n * n) (by omega) (by omega), W (n * n * n) (by omega) (by omega), W (n * n * n * n) (by omega) (by omega), W (n * n * n * n * n) (by omega) (by omega)]
    exact Evt.some _
  rcases (show w = 0 ∨ w = 1 ∨ w = 2 ∨ w = 3 by omega) with rfl | rfl | rfl | rfl
  · exact Evt.yes rfl (Evt.some _)
  · exact Evt.no (by decide) (Evt.yes rfl one)
  · exact Evt.no (by decide) (Evt.no (by decide) (Evt.yes rfl two))
  · exact Evt.no (by decide) (Evt.no (by decide) (Evt.no (by decide) three))
/- impl.nearest -/
theorem e173 {x n : Int} (hn : 0 < n) (hn' : n ≤ 10000000000000) (h1 : -2000000000000000000 ≤ x) (h2 : x ≤ 2000000000000000000) : Evt (fun m => call T C m 173 (x, n, ())) ((nr x n, ()), ()) := by
  refine Evt.next ?_ (fun m => r173 m x n)
  rw [wrap_id (x := 2 * n) (by omega) (by omega), wrap_id (x := 2 * x) (by omega) (by omega), wrap_id (x := 2 * x + n) (by omega) (by omega)]
  exact Evt.bind (e158 (by omega) (by omega) (by omega)) (Evt.some _)
/- impl.liftIn -/
theorem e164 {f t w k n : Int} (f0 : 0 ≤ f) (f1 : f ≤ 10000) (t0 : 0 ≤ t) (t1 : t ≤ 10000) (w0 : 0 ≤ w) (w1 : w ≤ 3) (k0 : 0 ≤ k) (k1 : k ≤ n) (n0 : 1 ≤ n) (n1 : n ≤ 360) : Evt (fun m => call T C m 164 (f, t, w, k, n, ())) ((liftP f t w k n, ()), ()) := by
  have hd := shD_bd (w := w) n0 n1
  have hb := lift_bd (w := w) f0 f1 t0 t1 k0 k1 n0 n1
  refine Evt.next (Evt.bind (e172 w0 w1 k0 k1 n1) ?_) (fun m => r164 m f t w k n)
  show Evt (fun m => (call T C m 173 (wr .i64 (wr .i64 (f * shD w n) + wr .i64 (wr .i64 (t - f) * shN w k n)), shD w n, ())).bind _) _
  rw [wrap_id (x := f * shD w n) (by omega) (by omega), wrap_id (x := t - f) (by omega) (by omega), wrap_id (x := (t - f) * shN w k n) (by omega) (by omega), wrap_id (x := f * shD w n + (t - f) * shN w k n) (by omega) (by omega)]
  exact Evt.bind (e173 (by omega) (by omega) (by omega) (by omega)) (Evt.some _)
/- (impl.Cam).fits -/
theorem e136 {c : List Int} (hr : Rng c) (h0 : 0 < c.length) (h1 : c.length ≤ 360) (hC : ∀ v ∈ c, 0 ≤ v ∧ v ≤ 10000) {s l w : Int} (w0 : 0 ≤ w) (w1 : w ≤ 3) (s0 : 0 ≤ s) (s1 : s ≤ 1000) (l0 : 1 ≤ l) (l1 : l ≤ 360) : Evt (fun n => call T C n 136 (c, w, s, l, ())) ((fitW c s l w, ()), ()) := by
  have hf := hC _ (cAt_mem h0 s)
  have ht := hC _ (cAt_mem h0 (s + l))
  refine Evt.next (Evt.bind (e80 hr (by omega) (by omega) (by omega) (by omega)) ?_) (fun n => r136 n c w s l)
  rw [wrap_id (x := s + l) (by omega) (by omega)]
  refine Evt.bind (e80 hr (by omega) (by omega) (by omega) (by omega)) ?_
  refine for_evt' 1 l (fun k (_ : Unit) => (c, w, s, l, cAt c s, cAt c (s + l), k, ())) (fun k _ => fitTo c s l w (k - 1).toNat = true) (b0 := ()) rfl (by omega) rfl ?_ ?_
  · intro k _ k0 k1 hk
    have hsk : wr .i64 (s + k) = s + k := wrap_id (by omega) (by omega)
    refine Round.yes (decide_eq_true k1) (Round.bind (e164 (f := cAt c s) (t := cAt c (s + l)) (w := w) (k := k) (n := l) hf.1 hf.2 ht.1 ht.2 w0 w1 (by omega) (by omega) (by omega) (by omega)) ?_)
    show Round (fun n ag => (call T C n 80 (c, wr .i64 (s + k), ())).bind _) _ _
    rw [hsk]
    refine Round.bind (e80 hr (by omega) (by omega) (by omega) (by omega)) (Round.ite (fun hn => ?_) (fun hn => ?_))
    · have hn : liftP (cAt c s) (cAt c (s + l)) w k l ≠ cAt c (s + k) := by simpa using hn
      have : fitW c s l w = false := by
        unfold fitW fitTo
        refine allTo_false (i := (k - 1).toNat) (by omega) ?_
        rw [show (((k - 1).toNat : Nat) : Int) + 1 = k by omega]
        simpa using fun e => hn e.symm
      rw [this]
      exact Round.done (Evt.some _)
    · have hn : liftP (cAt c s) (cAt c (s + l)) w k l = cAt c (s + k) := by simpa using hn
      refine Round.again _ ⟨(), ?_, ?_⟩
      · show (c, w, s, l, cAt c s, cAt c (s + l), wr .i64 (k + 1), ()) = _
        rw [wrap_id (x := k + 1) (by omega) (by omega)]
      · rw [show (k + 1 - 1).toNat = (k - 1).toNat + 1 by omega]
        unfold fitTo at hk ⊢
        rw [allTo_succ, hk, show (((k - 1).toNat : Nat) : Int) + 1 = k by omega, hn]
        simp
  · intro _ hk
    have hk : fitW c s l w = true := hk
    rw [hk]
    exact Round.no (by simp) (Round.done (Evt.some _))
/- (impl.Cam).fitMotion -/
theorem e97 {c : List Int} (hr : Rng c) (h0 : 0 < c.length) (h1 : c.length ≤ 360) (hC : ∀ v ∈ c, 0 ≤ v ∧ v ≤ 10000) {s l : Int} (s0 : 0 ≤ s) (s1 : s ≤ 1000) (l0 : 1 ≤ l) (l1 : l ≤ 360) : Evt (fun n => call T C n 97 (c, s, l, ())) ((fitL c s l, ()), ()) := by
  refine Evt.next ?_ (fun n => r97 n c s l)
  refine for_evt' 0 4 (fun w (_ : Unit) => (c, s, l, w, ())) (fun w _ => ∀ u : Int, 0 ≤ u → u < w → fitW c s l u = false) (b0 := ()) rfl (by omega) (fun u a b => by omega) ?_ ?_
  · intro w _ w0 w1 hw
    refine Round.bind (e135 w) (Round.yes (inR_iff.2 ⟨w0, by omega⟩) (Round.bind (e136 hr h0 h1 hC w0 (show w ≤ 3 by omega) s0 s1 l0 l1) (Round.ite (fun ho => ?_) (fun ho => ?_))))
    · have ho : fitW c s l w = true := ho
      have : fitL c s l = w := by
        unfold fitL
        rcases (show w = 0 ∨ w = 1 ∨ w = 2 ∨ w = 3 by omega) with rfl | rfl | rfl | rfl
        · rw [if_pos ho]
        · rw [hw 0 (by omega) (by omega), if_neg (by simp), if_pos ho]
        · rw [hw 0 (by omega) (by omega), hw 1 (by omega) (by omega), if_neg (by simp), if_neg (by simp), if_pos ho]
        · rw [hw 0 (by omega) (by omega), hw 1 (by omega) (by omega), hw 2 (by omega) (by omega), if_neg (by simp), if_neg (by simp), if_neg (by simp), if_pos ho]
      rw [this]
      exact Round.done (Evt.some _)
    · have ho : fitW c s l w = false := by simpa using ho
      refine Round.again _ ⟨(), ?_, fun u a b => ?_⟩
      · show (c, s, l, wr .i64 (w + 1), ()) = _
        rw [wrap_id (x := w + 1) (by omega) (by omega)]
      · by_cases e : u = w
        · rw [e]; exact ho
        · exact hw u a (by omega)
  · intro _ hw
    have : fitL c s l = -1 := by
      unfold fitL
      rw [hw 0 (by omega) (by omega), hw 1 (by omega) (by omega), hw 2 (by omega) (by omega), hw 3 (by omega) (by omega)]
      rfl
    rw [this]
    exact Round.bind (e135 4) (Round.no (by decide) (Round.done (Evt.some _)))
/- impl.FitProgram -/
theorem e44 (c : List Int) (hr : Rng c) : Evt (fun n => call T C n 44 (c, ())) (fpR c, ()) := by
  have hlen := hr.len'
  refine Evt.next (Evt.bind (e69 c (by omega)) ?_) (fun n => r44 n c)
  unfold fpR
  cases hok : okC c with
  | false => exact Evt.yes rfl (Evt.some _)
  | true =>
    have hl := okC_len hok
    have hC := okC_el hok hr
    have h0 : 0 < c.length := by omega
    obtain ⟨hs1, hs2⟩ := strP_el h0
    rw [if_neg (by simp)]
    refine Evt.no (by simp) (Evt.bind (e96 hr h0 (by omega)) (Evt.ite (fun h => ?_) (fun h => ?_)))
    · rw [if_pos (of_decide_eq_true h)]; exact Evt.some _
    have h : ¬ ((strP c).length : Int) > 24 := by simpa using h
    rw [if_neg h]
    refine Evt.at (g_idx (l := c) (i := 0) (Int.le_refl _) (by omega)).idx ?_
    refine for_evt' 0 ((strP c).length : Int) (fun i (_ : Unit) => (c, ((0, [], ()) : Prg), (g c 0, ((strP c).take i.toNat).map (motP c), ()), strP c, ((strP c).length : Int), i, ())) (fun i _ => ∀ v ∈ (strP c).take i.toNat, ¬ fitL c v.2.1 v.2.2.1 < 0) (b0 := ()) rfl (by omega) (fun v hv => by simp at hv) ?_ ?_
    · intro i _ h2 h3 hp
      obtain ⟨v, hv⟩ := at_of h2 h3
      obtain ⟨_, b1, b2⟩ := hs2 v hv.mem
      have hfl := fitL_bd c v.2.1 v.2.2.1
      have hca := hC _ (cAt_mem h0 (v.2.1 + v.2.2.1))
      have e1 : wr .i64 v.2.1 = v.2.1 := wrap_id (by omega) (by omega)
      have e2 : wr .i64 v.2.2.1 = v.2.2.1 := wrap_id (by omega) (by omega)
      have e3 : wr .i64 (v.2.1 + v.2.2.1) = v.2.1 + v.2.2.1 := wrap_id (by omega) (by omega)
      have e4 : wr .i16 (cAt c (v.2.1 + v.2.2.1)) = cAt c (v.2.1 + v.2.2.1) := wrap16 (by omega) (by omega)
      have hlen2 : ((((strP c).take i.toNat).map (motP c)).length : Int) ≤ 24 := by rw [List.length_map, List.length_take]; omega
      refine Round.yes (decide_eq_true h3) (Round.at hv.idx ?_)
      rw [e1, e2, e3]
      refine Round.bind (e97 hr h0 (by omega) hC b1.1 (by omega) b2.1 (by omega)) (Round.ite (fun hn => ?_) (fun hn => ?_))
      · have hn : fitL c v.2.1 v.2.2.1 < 0 := of_decide_eq_true hn
        rw [all_false hv.mem (by simpa using hn), if_neg (by simp)]
        exact Round.done (Evt.some _)
      · have hn : ¬ fitL c v.2.1 v.2.2.1 < 0 := by simpa using hn
        refine Round.bind (e80 hr (by omega) (by omega) (by omega) (by omega)) (Round.chk (decide_eq_true (by simp only [List.length_cons, List.length_nil]; omega)) (Round.again _ ⟨(), ?_, fun u hu => ?_⟩))
        · show (c, ((0, [], ()) : Prg), (g c 0, ((strP c).take i.toNat).map (motP c) ++ [(wr .i8 (fitL c v.2.1 v.2.2.1), v.2.2.1, wr .i16 (cAt c (v.2.1 + v.2.2.1)), ())], ()), strP c, ((strP c).length : Int), wr .i64 (i + 1), ()) = _
          rw [wr_succ h2 h3 (by omega), wrap8 (by omega) (by omega), e4, hv.take]
          simp [motP]
        · rw [hv.take] at hu
          rcases List.mem_append.1 hu with hu | hu
          · exact hp u hu
          · have : u = v := by simpa using hu
            rw [this]; exact hn
    · intro _ hp
      rw [take_all] at hp
      simp only [take_all]
      have : (strP c).all (fun v => !decide (fitL c v.2.1 v.2.2.1 < 0)) = true := List.all_eq_true.2 fun v hv => by simpa using hp v hv
      rw [if_pos this]
      exact Round.no (by simp) (Round.done (Evt.some _))
/- laws.eqMotion -/
theorem e137 (v : Ct) : Evt (fun n => call T C n 137 (v, v, ())) ((true, ()), ()) := Evt.next (Evt.no (by simp) (Evt.no (by simp) (Evt.no (by simp) (Evt.some _)))) (fun n => r137 n v v)
/- laws.eqMotionS -/
theorem e98 (l : List Ct) (hl : (l.length : Int) ≤ 140737488351232) : Evt (fun n => call T C n 98 (l, l, ())) ((true, ()), ()) := by
  refine Evt.next (Evt.no (by simp) ?_) (fun n => r98 n l l)
  refine for_evt 0 (l.length : Int) (fun i (_ : Unit) => (l, l, i, ())) (fun _ _ => True) (b0 := ()) (by omega) trivial ?_ ?_
  · intro i _ h2 h3 _
    obtain ⟨v, hv⟩ := at_of h2 h3
    refine Round.yes (decide_eq_true h3) (Round.at hv.idx (Round.at hv.idx (Round.bind (e137 v) (Round.no (by simp) (Round.again _ ⟨(), ?_, trivial⟩)))))
    rw [wr_succ h2 h3 (by omega)]
  · intro _ _
    exact Round.no (by simp) (Round.done (Evt.some _))
/- laws.eqProgram -/
theorem e45 (p : Prg) (hl : (p.2.1.length : Int) ≤ 140737488351232) : Evt (fun n => call T C n 45 (p, p, ())) ((true, ()), ()) := Evt.next (Evt.no (by simp) (Evt.bind (e98 p.2.1 hl) (Evt.no (by simp) (Evt.some _)))) (fun n => r45 n p p)
/- laws.eqCam -/
theorem e23 (l : List Int) (hl : (l.length : Int) ≤ 140737488351232) : Evt (fun n => call T C n 23 (l, l, ())) ((true, ()), ()) := by
  refine Evt.next (Evt.no (by simp) ?_) (fun n => r23 n l l)
  refine for_evt 0 (l.length : Int) (fun i (_ : Unit) => (l, l, i, ())) (fun _ _ => True) (b0 := ()) (by omega) trivial ?_ ?_
  · intro i _ h2 h3 _
    obtain ⟨v, hv⟩ := at_of h2 h3
    refine Round.yes (decide_eq_true h3) (Round.at hv.idx (Round.at hv.idx (Round.no (by simp) (Round.again _ ⟨(), ?_, trivial⟩))))
    rw [wr_succ h2 h3 (by omega)]
  · intro _ _
    exact Round.no (by simp) (Round.done (Evt.some _))
/- laws.markCam -/
theorem e46 (l : List Int) (k : Int) (h0 : 0 ≤ k) (h1 : k + l.length ≤ 4611686018427387904) : Evt (fun n => call T C n 46 (l, k, ())) ((k + l.length, ()), (mkL (wr .i16) l.length k, ())) := by
  refine Evt.next ?_ (fun n => r46 n l k)
  refine for_evt' 0 (l.length : Int) (fun i (b : List Int) => (b, k + i, i, ())) (fun i b => b.length = l.length ∧ b.take i.toNat = mkL (wr .i16) i.toNat k) (b0 := l) (by simp) (by omega) ⟨rfl, by simp [mkL]⟩ ?_ ?_
  · intro i b h2 h3 ⟨hb, ht⟩
    have hi : i < (b.length : Int) := by omega
    obtain ⟨u, hu⟩ := get_of_lt h2 hi
    refine Round.yes (decide_eq_true hi) (Round.chk (chk_at h2 hi) (Round.at hu (Round.again _ ⟨b.set i.toNat (wr .i16 (k + i)), ?_, by simpa using hb, ?_⟩)))
    · rw [wrap_id (x := k + i + 1) (by omega) (by omega), wrap_id (x := i + 1) (by omega) (by omega)]
      simp only [Int.add_assoc, id_eq]
    · rw [take_set_succ h2 hi, ht, show (i + 1).toNat = i.toNat + 1 by omega, mkL_succ, show ((i.toNat : Nat) : Int) = i by omega]
  · intro b ⟨hb, ht⟩
    have e : b = mkL (wr .i16) l.length k := by rw [← take_all b, hb, ht]; simp
    rw [← e]
    exact Round.no (by simp [hb]) (Round.done (Evt.some _))
/- laws.markMotionS -/
theorem e99 (l : List Ct) (k : Int) (h0 : 0 ≤ k) (h1 : k + 3 * l.length ≤ 4611686018427387904) : Evt (fun n => call T C n 99 (l, k, ())) ((k + 3 * l.length, ()), (mkC (wr .i8) (wr .i16) (wr .i16) l.length k, ())) := by
  refine Evt.next ?_ (fun n => r99 n l k)
  refine for_evt' 0 (l.length : Int) (fun i (b : List Ct) => (b, k + 3 * i, i, ())) (fun i b => b.length = l.length ∧ b.take i.toNat = mkC (wr .i8) (wr .i16) (wr .i16) i.toNat k) (b0 := l) (by simp) (by omega) ⟨rfl, by simp [mkC]⟩ ?_ ?_
  · intro i b h2 h3 ⟨hb, ht⟩
    have hi : i < (b.length : Int) := by omega
    obtain ⟨u, hu⟩ := get_of_lt h2 hi
    have hset : ∀ v : Ct, (b.set i.toNat v)[i.toNat]? = some v := fun v => List.getElem?_set_self (by omega)
    have hsl : ∀ v : Ct, i < (((b.set i.toNat v).length : Nat) : Int) := fun v => by rw [List.length_set]; exact hi
    simp only [wrap_id (x := k + 3 * i + 1) (by omega) (by omega), wrap_id (x := k + 3 * i + 1 + 1) (by omega) (by omega), wrap_id (x := k + 3 * i + 1 + 1 + 1) (by omega) (by omega), wrap_id (x := i + 1) (by omega) (by omega), List.set_set]
    refine Round.yes (decide_eq_true hi) (Round.chk (chk_at h2 hi) (Round.at hu (Round.chk (chk_at h2 (hsl _)) (Round.at (hset _) (Round.chk (chk_at h2 (hsl _)) (Round.at (hset _) (Round.again _ ⟨b.set i.toNat (wr .i8 (k + 3 * i), wr .i16 (k + 3 * i + 1), wr .i16 (k + 3 * i + 1 + 1), ()), ?_, by simpa using hb, ?_⟩)))))))
    · rw [show k + 3 * (i + 1) = k + 3 * i + 1 + 1 + 1 by omega]
    · rw [take_set_succ h2 hi, ht, show (i + 1).toNat = i.toNat + 1 by omega, mkC_succ, show ((i.toNat : Nat) : Int) = i by omega]
  · intro b ⟨hb, ht⟩
    have e : b = mkC (wr .i8) (wr .i16) (wr .i16) l.length k := by rw [← take_all b, hb, ht]; simp
    rw [← e]
    exact Round.no (by simp [hb]) (Round.done (Evt.some _))
/- laws.markProgram -/
theorem e47 (p : Prg) (k : Int) (h0 : 0 ≤ k) (h1 : k + 3 * p.2.1.length ≤ 4611686018427387904) : Evt (fun n => call T C n 47 (p, k, ())) ((k + 3 * p.2.1.length, ()), ((p.1, mkC (wr .i8) (wr .i16) (wr .i16) p.2.1.length k, ()), ())) := Evt.next (Evt.bind (e99 p.2.1 k h0 h1) (Evt.some _)) (fun n => r47 n p k)
/- laws.heldMotionS -/
theorem e100 (m : Nat) (k : Int) (h0 : 0 ≤ k) (h1 : k + 3 * m ≤ 4611686018427387904) : Evt (fun n => call T C n 100 (mkC (wr .i8) (wr .i16) (wr .i16) m k, k, ())) ((k + 3 * m, ()), ()) := by
  refine Evt.next ?_ (fun n => r100 n _ k)
  refine for_evt' 0 (m : Int) (fun i (_ : Unit) => (mkC (wr .i8) (wr .i16) (wr .i16) m k, k + 3 * i, i, ())) (fun _ _ => True) (b0 := ()) (by simp) (by omega) trivial ?_ ?_
  · intro i _ h2 h3 _
    obtain ⟨v, hv⟩ := at_of (l := mkC (wr .i8) (wr .i16) (wr .i16) m k) h2 (by rw [mkC_len]; exact h3)
    obtain ⟨e1, e2, e3⟩ := mkC_at (wr .i8) (wr .i16) (wr .i16) m k hv h2
    simp only [wrap_id (x := k + 3 * i + 1) (by omega) (by omega), wrap_id (x := k + 3 * i + 1 + 1) (by omega) (by omega), wrap_id (x := k + 3 * i + 1 + 1 + 1) (by omega) (by omega), wrap_id (x := i + 1) (by omega) (by omega)]
    refine Round.yes (by rw [mkC_len]; exact decide_eq_true h3) (Round.at hv.idx (Round.no (by simp [e1]) (Round.at hv.idx (Round.no (by simp [e2]) (Round.at hv.idx (Round.no (by simp [e3]) (Round.again _ ⟨(), ?_, trivial⟩)))))))
    rw [show k + 3 * (i + 1) = k + 3 * i + 1 + 1 + 1 by omega]
  · intro _ _
    exact Round.no (by simp [mkC_len]) (Round.done (Evt.some _))
/- laws.heldProgram -/
theorem e48 (x : Int) (m : Nat) (k : Int) (h0 : 0 ≤ k) (h1 : k + 3 * m ≤ 4611686018427387904) : Evt (fun n => call T C n 48 ((x, mkC (wr .i8) (wr .i16) (wr .i16) m k, ()), k, ())) ((k + 3 * m, ()), ()) := Evt.next (Evt.bind (e100 m k h0 h1) (Evt.no (by simp; omega) (Evt.some _))) (fun n => r48 n _ k)
/- laws.FnExactFitProgram -/
theorem e6 (c : List Int) (hd : DomA (C 6).params (c, ())) : Evt (fun n => call T C n 6 (c, ())) ((true, ()), ()) := by
  have hr : Rng c := rng_of hd.1
  have hl := hr.len'
  refine Evt.next (Evt.ite (fun _ => Evt.some _) (fun hsz => ?_)) (fun n => r6 n c)
  have hsz : ¬ (c.length : Int) > 1048576 := by simpa using hsz
  have hR := fpR_len c
  have to1 := e19 c (by omega)
  have sp := e43 c hr
  have im := e44 c hr
  have hm0 := e46 c 1 (by omega) (by omega)
  have hm := e47 (fpR c).1 1 (by omega) (by omega)
  have hh := e48 (fpR c).1.1 (fpR c).1.2.1.length 1 (by omega) (by omega)
  have eqg := e45 (fpR c).1 (by omega)
  refine Evt.bind to1 (Evt.bind sp (Evt.bind to1 (Evt.bind im (Evt.bind eqg (Evt.no (by simp) (Evt.no (by simp) ?_))))))
  refine Evt.bind to1 (Evt.bind (e23 c (by omega)) (Evt.no (by simp) ?_))
  refine Evt.bind hm0 (Evt.no (by simp; omega) (Evt.bind eqg (Evt.no (by simp) (Evt.no (by simp) ?_))))
  refine Evt.bind hm (Evt.bind hh (Evt.no (by simp; omega) (Evt.no (by simp) ?_)))
  refine Evt.bind to1 (Evt.bind im (Evt.bind eqg (Evt.no (by simp) (Evt.no (by simp) (Evt.bind hh (Evt.no (by simp; omega) (Evt.no (by simp) (Evt.some _))))))))

end Go.Cams.YtdgmghmbokkhlaaLFitProgram
