/- What the functions that the law reaches come to. -/
import Derived.Test.YtimojogjlbajeaaDoorRSs
import Derived.Test.YtimojogjlbajeaaDoorPuAll
namespace Go.Cams.YtimojogjlbajeaaDoorLSs
open Go Go.Fw Go.Proofs Go.Proofs.YtimojogjlbajeaaDoor.LSs
/- laws.szCam -/
theorem e28 (l : List Int) (a : Int) : Evt (fun n => call T C n 28 (l, a, ())) ((sz1 l a, ()), ()) := by
  refine Evt.next ?_ (fun n => r28 n l a)
  unfold sz1
  refine Evt.ite (fun h => ?_) (fun h => ?_)
  · rw [if_pos (of_decide_eq_true h)]; exact Evt.some _
  · rw [if_neg (by simpa using h)]; exact Evt.some _
/- laws.szShaft -/
theorem e17 (s : Sft) (a : Int) : Evt (fun n => call T C n 17 (s, a, ())) ((sz s a, ()), ()) := by
  refine Evt.next (Evt.bind (e28 _ a) ?_) (fun n => r17 n s a)
  unfold sz
  refine Evt.ite (fun h => ?_) (fun h => ?_)
  · rw [if_pos (of_decide_eq_true h)]; exact Evt.some _
  · rw [if_neg (by simpa using h)]; exact Evt.some _
/- laws.szShaftS -/
theorem e8 (l : List Sft) (hl : Small l) (a : Int) : Evt (fun n => call T C n 8 (l, a, ())) ((szS l a, ()), ()) := by
  have hl1 := hl.1
  unfold szS
  refine Evt.next ?_ (fun n => r8 n l a)
  refine Evt.ite (fun h => ?_) (fun h => ?_)
  · rw [if_pos (of_decide_eq_true h)]; exact Evt.some _
  · rw [if_neg (by simpa using h)]
    generalize wr .i64 (a - (l.length : Int)) = b
    refine loop_evt (fun (x : List Sft × Int × Int × Unit) => x.1 = l ∧ 0 ≤ x.2.2.1 ∧ x.2.2.1 ≤ (l.length : Int) ∧ szf l b = szf (l.drop x.2.2.1.toNat) x.2.1) (fun (x : List Sft × Int × Int × Unit) => ((l.length : Int) - x.2.2.1).toNat) (x := (l, b, 0, ())) ⟨rfl, Int.le_refl _, by simp, by simp⟩ ?_
    rintro ⟨x1, c, i, _⟩ ⟨h', h0, h1, h2⟩
    simp only at h' h0 h1 h2
    subst h'
    refine Round.ite (fun hlt => ?_) (fun hge => ?_)
    · have hlt : i < (x1.length : Int) := of_decide_eq_true hlt
      obtain ⟨v, hv, hv'⟩ := idx_at h0 hlt
      have hd := drop_cons hv'
      have hw : wr .i64 (i + 1) = i + 1 := wrap_id (by omega) (by omega)
      refine Round.at hv (Round.bind (e17 v c) (Round.ite (fun hb => ?_) (fun hb => ?_)))
      · have hb : sz v c < 0 := of_decide_eq_true hb
        have h3 : szf x1 b = -1 := by rw [h2, hd]; simp [szf, hb]
        rw [h3]
        exact Round.done (Evt.some _)
      · have hb : ¬ sz v c < 0 := by simpa using hb
        refine Round.again _ ⟨⟨rfl, ?_, ?_, ?_⟩, ?_⟩ <;> simp only [hw]
        · omega
        · omega
        · rw [h2, hd, show (i + 1).toNat = i.toNat + 1 by omega]
          simp only [szf]
          rw [if_neg hb]
        · omega
    · have hge : ¬ i < (x1.length : Int) := by simpa using hge
      have : x1.drop i.toNat = [] := List.drop_of_length_le (by omega)
      rw [h2, this]
      exact Round.done (Evt.some _)
/- laws.toCam -/
theorem e33 (l : List Int) (hl : (l.length : Int) * 2 ≤ 140737488351232) : Evt (fun n => call T C n 33 (l, ())) ((l, ()), ()) := by
  refine Evt.next (Evt.chk (by simp; omega) ?_) (fun n => r33 n l)
  refine for_evt 0 (l.length : Int) (fun i (b : List Int) => (l, b, i, ())) (fun i b => b.length = l.length ∧ b.take i.toNat = l.take i.toNat) (b0 := List.replicate (Int.toNat (l.length : Int)) 0) (by omega) ⟨by simp, by simp⟩ ?_ ?_
  · intro i b h2 h3 ⟨hb, ht⟩
    have hi : i < (b.length : Int) := by omega
    obtain ⟨v, hv⟩ := at_of h2 h3
    obtain ⟨u, hu⟩ := get_of_lt h2 hi
    refine Round.yes (decide_eq_true h3) (Round.at hv.idx (Round.chk (chk_at h2 hi) (Round.at hu (Round.again _ ⟨b.set i.toNat v, ?_, by simpa using hb, ?_⟩))))
    · rw [wr_succ h2 h3 (by omega)]
    · rw [take_set_succ h2 hi, ht, hv.take]
  · intro b ⟨hb, ht⟩
    have e : b = l := by rw [← take_all b, hb, ht]; simp
    rw [e]
    exact Round.no (by simp) (Round.done (Evt.some _))
/- laws.toShaft -/
theorem e20 (s : Sft) (hl : (s.2.2.2.1.length : Int) * 2 ≤ 140737488351232) : Evt (fun n => call T C n 20 (s, ())) ((s, ()), ()) := by
  obtain ⟨a, b, c, d, u⟩ := s
  exact Evt.next (Evt.bind (e33 d hl) (Evt.some _)) (fun n => r20 n _)
/- laws.toShaftS -/
theorem e10 (l : List Sft) (hl : (l.length : Int) * 32 ≤ 140737488351232) (hc : ∀ s ∈ l, (s.2.2.2.1.length : Int) * 2 ≤ 140737488351232) : Evt (fun n => call T C n 10 (l, ())) ((l, ()), ()) := by
  refine Evt.next (Evt.chk (by simp; omega) ?_) (fun n => r10 n l)
  refine loop_evt (fun (x : List Sft × List Sft × Int × Unit) => x.1 = l ∧ 0 ≤ x.2.2.1 ∧ x.2.2.1 ≤ (l.length : Int) ∧ x.2.1 = l.take x.2.2.1.toNat ++ List.replicate (l.length - x.2.2.1.toNat) (0, 0, 0, [], ())) (fun (x : List Sft × List Sft × Int × Unit) => ((l.length : Int) - x.2.2.1).toNat) (x := (l, List.replicate (Int.toNat (l.length : Int)) (0, 0, 0, [], ()), 0, ())) ⟨rfl, Int.le_refl _, by simp, by simp⟩ ?_
  rintro ⟨x1, m, i, _⟩ ⟨h', h0, h1, hm⟩
  simp only at h' h0 h1 hm
  subst h'
  have hml : m.length = x1.length := by rw [hm]; simp; omega
  refine Round.ite (fun hlt => ?_) (fun hge => ?_)
  · have hlt : i < (x1.length : Int) := of_decide_eq_true hlt
    obtain ⟨v, hv, hv'⟩ := idx_at h0 hlt
    have hw : wr .i64 (i + 1) = i + 1 := wrap_id (by omega) (by omega)
    obtain ⟨u, hu⟩ : ∃ u, m[i.toNat]? = some u := ⟨m[i.toNat]'(by omega), by simp⟩
    refine Round.at hv (Round.bind (e20 v (hc v (List.mem_of_getElem? hv'))) (Round.chk (by simp [hml]; omega) (Round.at hu (Round.again _ ⟨⟨rfl, ?_, ?_, ?_⟩, ?_⟩)))) <;> simp only [hw]
    · omega
    · omega
    · rw [hm, show (i + 1).toNat = i.toNat + 1 by omega]
      exact set_take hv'
    · omega
  · have hge : ¬ i < (x1.length : Int) := by simpa using hge
    have e : i.toNat = x1.length := by omega
    have : m = x1 := by rw [hm, e]; simp
    rw [this]
    exact Round.done (Evt.some _)
/- spec.l00In -/
theorem e29 (a b c : Int) : Evt (fun n => call T C n 29 (a, b, c, ())) ((inR a b c, ()), ()) := by
  refine Evt.next ?_ (fun n => r29 n a b c)
  refine Evt.ite (fun h => ?_) (fun h => ?_)
  · refine (Evt.some _).of_eq fun n => ?_
    have h : b ≤ a := of_decide_eq_true h
    simp [inR, h]
    rfl
  · refine (Evt.some _).of_eq fun n => ?_
    have h : ¬ b ≤ a := by simpa using h
    simp [inR, h]
    rfl
/- spec.l01Steps -/
theorem e48 (a : Int) : Evt (fun n => call T C n 48 (a, ())) ((inR a 8 360, ()), ()) := Evt.next (Evt.bind (e29 a 8 360) (Evt.some _)) (fun n => r48 n a)
/- spec.l01Lift -/
theorem e49 (a : Int) : Evt (fun n => call T C n 49 (a, ())) ((inR a 0 10000, ()), ()) := Evt.next (Evt.bind (e29 a 0 10000) (Evt.some _)) (fun n => r49 n a)
/- spec.l01Ok -/
theorem e30 (l : List Int) (hl : (l.length : Int) ≤ 140737488351232) : Evt (fun n => call T C n 30 (l, ())) ((okC l, ()), ()) := by
  refine Evt.next ?_ (fun n => r30 n l)
  refine Evt.bind (e48 _) ?_
  refine Evt.ite (fun h => ?_) (fun h => ?_)
  · refine (Evt.some _).of_eq fun n => ?_
    have h : inR (l.length : Int) 8 360 = false := by simpa using h
    simp [okC, h]
    rfl
  · have h : inR (l.length : Int) 8 360 = true := by simpa using h
    have he : okC l = l.all okV := by simp [okC, h]
    rw [he]
    refine loop_evt (fun (x : List Int × Int × Unit) => x.1 = l ∧ 0 ≤ x.2.1 ∧ x.2.1 ≤ (l.length : Int) ∧ l.all okV = (l.drop x.2.1.toNat).all okV) (fun (x : List Int × Int × Unit) => ((l.length : Int) - x.2.1).toNat) (x := (l, 0, ())) ⟨rfl, Int.le_refl _, by simp, by simp⟩ ?_
    rintro ⟨x1, i, _⟩ ⟨h', h0, h1, h2⟩
    simp only at h' h0 h1 h2
    subst h'
    refine Round.ite (fun hlt => ?_) (fun hge => ?_)
    · have hlt : i < (x1.length : Int) := of_decide_eq_true hlt
      obtain ⟨v, hv, hv'⟩ := idx_at h0 hlt
      have hd := drop_cons hv'
      refine Round.at hv (Round.bind (e49 _) (Round.ite (fun hb => ?_) (fun hb => ?_)))
      · have hb : okV v = false := by simpa [okV] using hb
        have h3 : x1.all okV = false := by rw [h2, hd]; simp [hb]
        rw [h3]
        exact Round.done (Evt.some _)
      · have hb : okV v = true := by simpa [okV] using hb
        have hw : wr .i64 (i + 1) = i + 1 := wrap_id (by omega) (by omega)
        refine Round.again _ ⟨⟨rfl, ?_, ?_, ?_⟩, ?_⟩ <;> simp only [hw]
        · omega
        · omega
        · rw [h2, hd, show (i + 1).toNat = i.toNat + 1 by omega]
          simp [hb]
        · omega
    · have hge : ¬ i < (x1.length : Int) := by simpa using hge
      have : x1.drop i.toNat = [] := List.drop_of_length_le (by omega)
      rw [h2, this]
      exact Round.done (Evt.some _)
/- spec.l04Ok -/
theorem e18 (l : List Sft) (hl : Small l) : Evt (fun n => call T C n 18 (l, ())) ((okA l, ()), ()) := by
  refine Evt.next ?_ (fun n => r18 n l)
  refine Evt.bind (e29 _ _ _) ?_
  refine Evt.ite (fun h => ?_) (fun h => ?_)
  · refine (Evt.some _).of_eq fun n => ?_
    have h : inR (l.length : Int) 1 6 = false := by simpa using h
    simp [okA, h]
    rfl
  · have h : inR (l.length : Int) 1 6 = true := by simpa using h
    have he : okA l = l.all okS := by simp [okA, h]
    rw [he]
    have hl1 := hl.1
    refine loop_evt (fun (x : List Sft × Int × Unit) => x.1 = l ∧ 0 ≤ x.2.1 ∧ x.2.1 ≤ (l.length : Int) ∧ l.all okS = (l.drop x.2.1.toNat).all okS) (fun (x : List Sft × Int × Unit) => ((l.length : Int) - x.2.1).toNat) (x := (l, 0, ())) ⟨rfl, Int.le_refl _, by simp, by simp⟩ ?_
    rintro ⟨x1, i, _⟩ ⟨h', h0, h1, h2⟩
    simp only at h' h0 h1 h2
    subst h'
    refine Round.ite (fun hlt => ?_) (fun hge => ?_)
    · have hlt : i < (x1.length : Int) := of_decide_eq_true hlt
      obtain ⟨v, hv, hv'⟩ := idx_at h0 hlt
      have hd := drop_cons hv'
      have bad : okS v = false → x1.all okS = false := fun hb => by rw [h2, hd]; simp [hb]
      refine Round.at hv (Round.bind (e29 _ _ _) (Round.ite (fun hb => ?_) (fun hb1 => ?_)))
      · have hb : inR (wr .i64 v.1) 1 60 = false := by simpa using hb
        rw [bad (by simp [okS, hb])]
        exact Round.done (Evt.some _)
      refine Round.bind (e29 _ _ _) (Round.ite (fun hb => ?_) (fun hb2 => ?_))
      · have hb : inR (wr .i64 v.2.1) 1 60 = false := by simpa using hb
        rw [bad (by simp [okS, hb])]
        exact Round.done (Evt.some _)
      refine Round.bind (e30 _ (hl.get hv')) (Round.ite (fun hb => ?_) (fun hb3 => ?_))
      · have hb : okC v.2.2.2.1 = false := by simpa using hb
        rw [bad (by simp [okS, hb])]
        exact Round.done (Evt.some _)
      refine Round.bind (e29 _ _ _) (Round.ite (fun hb => ?_) (fun hb4 => ?_))
      · have hb : inR (wr .i64 v.2.2.1) 0 (wr .i64 ((v.2.2.2.1.length : Int) - 1)) = false := by simpa using hb
        rw [bad (by simp [okS, hb])]
        exact Round.done (Evt.some _)
      have hb : okS v = true := by
        simp only [Bool.not_eq_true', Bool.not_eq_false, cond_false] at hb1 hb2 hb3 hb4
        simp [okS, hb1, hb2, hb3, hb4]
      have hw : wr .i64 (i + 1) = i + 1 := wrap_id (by omega) (by omega)
      refine Round.again _ ⟨⟨rfl, ?_, ?_, ?_⟩, ?_⟩ <;> simp only [hw]
      · omega
      · omega
      · rw [h2, hd, show (i + 1).toNat = i.toNat + 1 by omega]
        simp [hb]
      · omega
    · have hge : ¬ i < (x1.length : Int) := by simpa using hge
      have : x1.drop i.toNat = [] := List.drop_of_length_le (by omega)
      rw [h2, this]
      exact Round.done (Evt.some _)
/- spec.Decimal -/
theorem e31 (u : Nat) : u ≤ 9223372036854775807 → Evt (fun n => call T C n 31 ((u : Int), ())) ((tx (Lib.decDigits u), ()), ()) := by
  induction u using Nat.strongRecOn with
  | ind u ih =>
    intro hu
    have e1 : Int.tmod (u : Int) 10 = ((u % 10 : Nat) : Int) := by rw [show (10 : Int) = ((10 : Nat) : Int) from rfl, ← Int.ofNat_tmod]
    have e2 : Int.tdiv (u : Int) 10 = ((u / 10 : Nat) : Int) := by rw [show (10 : Int) = ((10 : Nat) : Int) from rfl, ← Int.ofNat_tdiv]
    have e3 : strOf [wr .u8 (wr .i64 ((48 : Int) + (Int.tmod (u : Int) (10 : Int))))] = tx [UInt8.ofNat (48 + u % 10)] := by
      rw [e1, digit_wr (Nat.mod_lt _ (by omega)), tx_strOf, show (48 + ((u % 10 : Nat) : Int)).toNat = 48 + u % 10 by omega]
    by_cases h : u < 10
    · refine Evt.next (Evt.yes (decide_eq_true (by omega)) (Evt.chk rfl ?_)) (fun n => r31 n u)
      rw [e3, dec_small h, show u % 10 = u by omega]
      exact Evt.some _
    · have hi := ih (u / 10) (by omega) (by omega)
      have hl := dec_len (u := u / 10) (by omega)
      refine Evt.next (Evt.no (by simp; omega) (Evt.chk rfl ?_)) (fun n => r31 n u)
      rw [e2, wrap_id (x := ((u / 10 : Nat) : Int)) (by omega) (by omega), e3]
      refine Evt.bind hi (Evt.chk rfl (Evt.chk ?_ ((Evt.some _).of_eq fun n => ?_)))
      · simp only [tx_size]; exact decide_eq_true (by simp; omega)
      · rw [tx_app, ← dec_big h]; rfl
/- spec.l01Text -/
theorem e32 {c : List Int} (hl : c.length ≤ 1000) (hC : ∀ v ∈ c, 0 ≤ v ∧ v ≤ 10000) : Evt (fun n => call T C n 32 (c, ())) ((tx (camJ c), ()), ()) := by
  refine Evt.next ?_ (fun n => r32 n c)
  have c32 : (⟨#[32]⟩ : ByteArray) = tx [32] := rfl
  have c42 : (⟨#[42]⟩ : ByteArray) = tx [42] := rfl
  refine loop_evt (fun x => ∃ (i : Nat) (ws : List (List UInt8)), x = (c, tx (Lib.join ws [32]), (i : Int), ()) ∧ i ≤ c.length ∧ ws ++ (rle (c.drop i)).map wordL = (rle c).map wordL ∧ ws.length ≤ i ∧ (∀ w ∈ ws, w.length ≤ 43) ∧ (0 < i → ws ≠ [])) (fun x => c.length - x.2.2.1.toNat) ⟨0, [], rfl, by omega, by simp, by simp, by simp, by simp⟩ ?_
  rintro x ⟨i, ws, rfl, hi, hws, hwl0, hl43, hne0⟩
  have hJ := join_len [32] ws hl43
  simp only [List.length_cons, List.length_nil] at hJ
  have hJ : (Lib.join ws [32]).length ≤ 1000000 := by omega
  by_cases hlt : i < c.length
  · have hlt : (i : Int) < (c.length : Int) := by omega
    refine Round.yes (decide_eq_true hlt) ?_
    refine for_round' (i : Int) (c.length : Int) (fun j (_ : Unit) => (c, tx (Lib.join ws [32]), (i : Int), j, ())) (fun j _ => ∀ u : Nat, i ≤ u → (u : Int) < j → g c u = g c i) (b0 := ()) rfl (by omega) (fun u h1 h2 => absurd h2 (by omega)) ?_ ?_
    · intro j' _ h2 h3' hP
      obtain ⟨j, rfl⟩ : ∃ j : Nat, j' = j := ⟨j'.toNat, by omega⟩
      have a1 := g_idx (l := c) (i := (j : Int)) (by omega) (by omega)
      have a2 := g_idx (l := c) (i := (i : Int)) (by omega) (by omega)
      rw [Int.toNat_natCast] at a1 a2
      refine Round.yes (decide_eq_true h3') (Round.at a1.idx (Round.at a2.idx ?_))
      by_cases heq : g c j = g c i
      · refine Round.yes (by simp [heq]) (Round.inr _ ⟨(), by rw [wr_succ (by omega) h3' (by omega)], fun u h1 h2 => ?_⟩)
        by_cases hu : u = j
        · rw [hu, heq]
        · exact hP u h1 (by omega)
      · have hj1 : i < j := by
          apply Classical.byContradiction
          intro h
          exact heq (by rw [show j = i by omega])
        have hj2 : j ≤ c.length := by omega
        have h3 : ∀ u, i ≤ u → u < j → g c u = g c i := fun u h1 h2 => hP u h1 (by omega)
        have h4 : j = c.length ∨ g c j ≠ g c i := .inr heq
        refine Round.no (by simp [heq]) ?_
        have hv := g_idx (l := c) (i := (i : Int)) (by omega) (by omega)
        rw [Int.toNat_natCast] at hv
        have hvb := hC _ hv.mem
        obtain ⟨v, hv2⟩ : ∃ v : Nat, g c i = v := ⟨(g c i).toNat, by omega⟩
        have hd := rle_drop hj1 hj2 h3 h4
        have e1 : wr .i64 (g c i) = (v : Int) := by rw [hv2]; exact wrap_id (by omega) (by omega)
        have e2 : wr .i64 ((j : Int) - (i : Int)) = ((j - i : Nat) : Int) := by rw [wrap_id (by omega) (by omega)]; omega
        have hD1 := e31 v (by omega)
        have hD2 := e31 (j - i) (by omega)
        have z1 := dec_len (u := v) (by omega)
        have z2 := dec_len (u := j - i) (by omega)
        have hw : wordL (g c i, j - i) = if j - i > 1 then Lib.decDigits v ++ 42 :: Lib.decDigits (j - i) else Lib.decDigits v := by unfold wordL; rw [hv2]; rfl
        have hwl := wordL_len (x := (g c i, j - i)) (by show g c i ≤ _; omega) (by show j - i ≤ _; omega)
        have next : ∀ w, w = wordL (g c i, j - i) → (ws ++ [w]) ++ (rle (c.drop j)).map wordL = (rle c).map wordL ∧ (ws ++ [w]).length ≤ j ∧ (∀ u ∈ ws ++ [w], u.length ≤ 43) ∧ (0 < j → ws ++ [w] ≠ []) := fun w hw => by
          refine ⟨?_, by simp; omega, fun u hu => ?_, fun _ => by simp⟩
          · rw [← hws, hd, hw]; simp
          · rcases List.mem_append.1 hu with hu | hu
            · exact hl43 u hu
            · simp at hu; rw [hu, hw]; exact hwl
        simp only [e1, e2]
        refine Round.ite (fun h0 => ?_) (fun h0 => ?_)
        · have h0 : 0 < i := by have := of_decide_eq_true h0; omega
          have hne := hne0 h0
          simp only [c32, c42]
          refine Round.chk (szT (by omega) (by simp)) (Round.at hv.idx ?_)
          simp only [e1, e2, tx_app]
          refine Round.bind hD1 ?_
          simp only [tx_app]
          refine Round.chk (szT (by simp; omega) (by omega)) ?_
          by_cases hk : j - i > 1
          · refine Round.yes (decide_eq_true (by omega)) (Round.bind hD2 ?_)
            simp only [tx_app]
            refine Round.chk (szT (by simp) (by omega)) (Round.chk (szT (by simp; omega) (by simp; omega)) (Round.inl _ ⟨⟨j, ws ++ [wordL (g c i, j - i)], ?_, hj2, next _ rfl⟩, ?_⟩))
            · rw [join_snoc hne, hw, if_pos hk]; simp
            · show c.length - (j : Int).toNat < c.length - (i : Int).toNat
              omega
          · refine Round.no (by simp; omega) (Round.inl _ ⟨⟨j, ws ++ [wordL (g c i, j - i)], ?_, hj2, next _ rfl⟩, ?_⟩)
            · rw [join_snoc hne, hw, if_neg hk]; simp
            · show c.length - (j : Int).toNat < c.length - (i : Int).toNat
              omega
        · have h0 : i = 0 := by have : ¬ ((i : Int) > 0) := by simpa using h0
                                omega
          have hws0 : ws = [] := List.length_eq_zero_iff.1 (by omega)
          refine Round.at hv.idx ?_
          simp only [e1, e2]
          refine Round.bind hD1 ?_
          simp only [c42, tx_app]
          refine Round.chk (szT (by omega) (by omega)) ?_
          by_cases hk : j - i > 1
          · refine Round.yes (decide_eq_true (by omega)) (Round.bind hD2 ?_)
            simp only [tx_app]
            refine Round.chk (szT (by simp) (by omega)) (Round.chk (szT (by simp; omega) (by simp; omega)) (Round.inl _ ⟨⟨j, ws ++ [wordL (g c i, j - i)], ?_, hj2, next _ rfl⟩, ?_⟩))
            · rw [hws0, List.nil_append, Lib.join_one, Lib.join_nil, hw, if_pos hk]; simp
            · show c.length - (j : Int).toNat < c.length - (i : Int).toNat
              omega
          · refine Round.no (by simp; omega) (Round.inl _ ⟨⟨j, ws ++ [wordL (g c i, j - i)], ?_, hj2, next _ rfl⟩, ?_⟩)
            · rw [hws0, List.nil_append, Lib.join_one, Lib.join_nil, hw, if_neg hk]; simp
            · show c.length - (j : Int).toNat < c.length - (i : Int).toNat
              omega
    · intro _ hP
      refine Round.no (by simp) ?_
      have hj1 : i < c.length := by omega
      have hj2 : c.length ≤ c.length := Nat.le_refl _
      have h3 : ∀ u, i ≤ u → u < c.length → g c u = g c i := fun u h1 h2 => hP u h1 (by omega)
      have h4 : c.length = c.length ∨ g c c.length ≠ g c i := .inl rfl
      have hv := g_idx (l := c) (i := (i : Int)) (by omega) (by omega)
      rw [Int.toNat_natCast] at hv
      have hvb := hC _ hv.mem
      obtain ⟨v, hv2⟩ : ∃ v : Nat, g c i = v := ⟨(g c i).toNat, by omega⟩
      have hd := rle_drop hj1 hj2 h3 h4
      have e1 : wr .i64 (g c i) = (v : Int) := by rw [hv2]; exact wrap_id (by omega) (by omega)
      have e2 : wr .i64 ((c.length : Int) - (i : Int)) = ((c.length - i : Nat) : Int) := by rw [wrap_id (by omega) (by omega)]; omega
      have hD1 := e31 v (by omega)
      have hD2 := e31 (c.length - i) (by omega)
      have z1 := dec_len (u := v) (by omega)
      have z2 := dec_len (u := c.length - i) (by omega)
      have hw : wordL (g c i, c.length - i) = if c.length - i > 1 then Lib.decDigits v ++ 42 :: Lib.decDigits (c.length - i) else Lib.decDigits v := by unfold wordL; rw [hv2]; rfl
      have hwl := wordL_len (x := (g c i, c.length - i)) (by show g c i ≤ _; omega) (by show c.length - i ≤ _; omega)
      have next : ∀ w, w = wordL (g c i, c.length - i) → (ws ++ [w]) ++ (rle (c.drop c.length)).map wordL = (rle c).map wordL ∧ (ws ++ [w]).length ≤ c.length ∧ (∀ u ∈ ws ++ [w], u.length ≤ 43) ∧ (0 < c.length → ws ++ [w] ≠ []) := fun w hw => by
        refine ⟨?_, by simp; omega, fun u hu => ?_, fun _ => by simp⟩
        · rw [← hws, hd, hw]; simp
        · rcases List.mem_append.1 hu with hu | hu
          · exact hl43 u hu
          · simp at hu; rw [hu, hw]; exact hwl
      simp only [e1, e2]
      refine Round.ite (fun h0 => ?_) (fun h0 => ?_)
      · have h0 : 0 < i := by have := of_decide_eq_true h0; omega
        have hne := hne0 h0
        simp only [c32, c42]
        refine Round.chk (szT (by omega) (by simp)) (Round.at hv.idx ?_)
        simp only [e1, e2, tx_app]
        refine Round.bind hD1 ?_
        simp only [tx_app]
        refine Round.chk (szT (by simp; omega) (by omega)) ?_
        by_cases hk : c.length - i > 1
        · refine Round.yes (decide_eq_true (by omega)) (Round.bind hD2 ?_)
          simp only [tx_app]
          refine Round.chk (szT (by simp) (by omega)) (Round.chk (szT (by simp; omega) (by simp; omega)) (Round.inl _ ⟨⟨c.length, ws ++ [wordL (g c i, c.length - i)], ?_, hj2, next _ rfl⟩, ?_⟩))
          · rw [join_snoc hne, hw, if_pos hk]; simp
          · show c.length - (c.length : Int).toNat < c.length - (i : Int).toNat
            omega
        · refine Round.no (by simp; omega) (Round.inl _ ⟨⟨c.length, ws ++ [wordL (g c i, c.length - i)], ?_, hj2, next _ rfl⟩, ?_⟩)
          · rw [join_snoc hne, hw, if_neg hk]; simp
          · show c.length - (c.length : Int).toNat < c.length - (i : Int).toNat
            omega
      · have h0 : i = 0 := by have : ¬ ((i : Int) > 0) := by simpa using h0
                              omega
        have hws0 : ws = [] := List.length_eq_zero_iff.1 (by omega)
        refine Round.at hv.idx ?_
        simp only [e1, e2]
        refine Round.bind hD1 ?_
        simp only [c42, tx_app]
        refine Round.chk (szT (by omega) (by omega)) ?_
        by_cases hk : c.length - i > 1
        · refine Round.yes (decide_eq_true (by omega)) (Round.bind hD2 ?_)
          simp only [tx_app]
          refine Round.chk (szT (by simp) (by omega)) (Round.chk (szT (by simp; omega) (by simp; omega)) (Round.inl _ ⟨⟨c.length, ws ++ [wordL (g c i, c.length - i)], ?_, hj2, next _ rfl⟩, ?_⟩))
          · rw [hws0, List.nil_append, Lib.join_one, Lib.join_nil, hw, if_pos hk]; simp
          · show c.length - (c.length : Int).toNat < c.length - (i : Int).toNat
            omega
        · refine Round.no (by simp; omega) (Round.inl _ ⟨⟨c.length, ws ++ [wordL (g c i, c.length - i)], ?_, hj2, next _ rfl⟩, ?_⟩)
          · rw [hws0, List.nil_append, Lib.join_one, Lib.join_nil, hw, if_neg hk]; simp
          · show c.length - (c.length : Int).toNat < c.length - (i : Int).toNat
            omega
  · have hi : i = c.length := by omega
    refine Round.no (by simp; omega) (Round.done ?_)
    rw [hi, List.drop_length] at hws
    have : ws = (rle c).map wordL := by simpa [rle] using hws
    rw [this]
    exact Evt.some _
/- spec.l04Text -/
theorem e19 (l : List Sft) (hr : ∀ s ∈ l, RngSf s) (hg : ∀ s ∈ l, GoodSf s) (hl : l.length ≤ 6) : Evt (fun n => call T C n 19 (l, ())) ((tx (shT l), ()), ()) := by
  refine Evt.next ?_ (fun n => r19 n l)
  have c32 : (⟨#[32]⟩ : ByteArray) = tx [32] := rfl
  have c10 : (⟨#[10]⟩ : ByteArray) = tx [10] := rfl
  refine for_evt' 0 (l.length : Int) (fun i (_ : Unit) => (l, tx (shT (l.take i.toNat)), i, ())) (fun _ _ => True) (b0 := ()) rfl (by omega) trivial ?_ ?_
  · intro i _ i0 i1 _
    obtain ⟨s, hs⟩ := at_of i0 i1
    have G := hg s hs.mem
    have R := hr s hs.mem
    have g1 := G.n
    have g2 := G.d
    have g3 := G.p
    have hc := okC_len G.c
    obtain ⟨a, ea⟩ : ∃ a : Nat, s.1 = a := ⟨s.1.toNat, by omega⟩
    obtain ⟨b, eb⟩ : ∃ b : Nat, s.2.1 = b := ⟨s.2.1.toNat, by omega⟩
    obtain ⟨p, ep⟩ : ∃ p : Nat, s.2.2.1 = p := ⟨s.2.2.1.toNat, by omega⟩
    have hA := e31 a (by omega)
    have hB := e31 b (by omega)
    have hP := e31 p (by omega)
    have hT := e32 (c := s.2.2.2.1) (by omega) (okC_el G.c R.c)
    have z1 := dec_len (u := a) (by omega)
    have z2 := dec_len (u := b) (by omega)
    have z3 := dec_len (u := p) (by omega)
    have z4 := camJ_len (c := s.2.2.2.1) (by omega) (okC_el G.c R.c)
    have zt := shT_len (l := l.take i.toNat) (fun x hx => hr x (List.mem_of_mem_take hx)) fun x hx => hg x (List.mem_of_mem_take hx)
    have zl : (l.take i.toNat).length ≤ 6 := by rw [List.length_take]; omega
    dsimp only
    refine Round.yes (decide_eq_true i1) (Round.at hs.idx ?_)
    rw [wrap_id (x := s.1) (by omega) (by omega), wrap_id (x := s.2.1) (by omega) (by omega), wrap_id (x := s.2.2.1) (by omega) (by omega), ea, eb, ep]
    refine Round.bind hA ?_
    simp only [c32, c10, tx_app]
    refine Round.chk (szT (by omega) (by simp)) (Round.bind hB ?_)
    simp only [tx_app]
    refine Round.chk (szT (by simp; omega) (by omega)) (Round.chk (szT (by simp; omega) (by simp)) (Round.bind hP ?_))
    simp only [tx_app]
    refine Round.chk (szT (by simp; omega) (by omega)) (Round.chk (szT (by simp; omega) (by simp)) (Round.bind hT ?_))
    simp only [tx_app]
    refine Round.chk (szT (by simp; omega) (by omega)) (Round.chk (szT (by simp; omega) (by simp)) (Round.chk (szT (by omega) (by simp; omega)) (Round.again _ ⟨(), ?_, trivial⟩)))
    rw [hs.take, shT_snoc, wr_succ i0 i1 (by omega)]
    unfold shL
    rw [ea, eb, ep, Int.toNat_natCast, Int.toNat_natCast, Int.toNat_natCast]
  · intro _ _
    dsimp only
    rw [take_all]
    exact Round.no (by simp) (Round.done (Evt.some _))
/- spec.ShaftsText -/
theorem e9 (l : List Sft) (hS : Small l) (hr : ∀ s ∈ l, RngSf s) : Evt (fun n => call T C n 9 (l, ())) ((shR l, ()), ()) := by
  refine Evt.next (Evt.bind (e18 l hS) ?_) (fun n => r9 n l)
  unfold shR
  cases h : okA l with
  | false => exact Evt.yes rfl (Evt.some _)
  | true =>
    obtain ⟨h1, h2, h3⟩ := okA_el h
    exact Evt.no (by simp) (Evt.bind (e19 l hr (fun s hs => goodSf (hr s hs) (h3 s hs)) (by omega)) (Evt.some _))
/- impl.inRange -/
theorem e34 (a b c : Int) : Evt (fun n => call T C n 34 (a, b, c, ())) ((inR a b c, ()), ()) := by
  refine Evt.next ?_ (fun n => r34 n a b c)
  refine Evt.ite (fun h => ?_) (fun h => ?_)
  · refine (Evt.some _).of_eq fun n => ?_
    have h : b ≤ a := of_decide_eq_true h
    simp [inR, h]
    rfl
  · refine (Evt.some _).of_eq fun n => ?_
    have h : ¬ b ≤ a := by simpa using h
    simp [inR, h]
    rfl
/- (impl.Cam).steps -/
theorem e52 (a : List Int) : Evt (fun n => call T C n 52 (a, ())) (((a.length : Int), ()), ()) := Evt.next (Evt.some _) (fun n => r52 n a)
/- impl.isSteps -/
theorem e51 (a : Int) : Evt (fun n => call T C n 51 (a, ())) ((inR a 8 360, ()), ()) := Evt.next (Evt.bind (e34 a 8 360) (Evt.some _)) (fun n => r51 n a)
/- impl.isLift -/
theorem e55 (a : Int) : Evt (fun n => call T C n 55 (a, ())) ((inR a 0 10000, ()), ()) := Evt.next (Evt.bind (e34 a 0 10000) (Evt.some _)) (fun n => r55 n a)
/- impl.ValidCam$1 -/
theorem e54 (v : Int) : Evt (fun n => call T C n 54 (v, ())) ((!okV v, ()), ()) := Evt.next (Evt.bind (e55 _) (Evt.some _)) (fun n => r54 n v)
/- slices.IndexFunc[impl.Cam,int16]{impl.ValidCam$1} -/
theorem e65 (l : List Int) (hl : (l.length : Int) ≤ 140737488351232) : Evt (fun n => call T C n 65 (l, ((), ()), ())) ((fi (fun v => !okV v) l 0, ()), ()) := by
  refine Evt.next ?_ (fun n => r65 n l ((), ()))
  refine loop_evt (fun (x : List Int × (Unit × Unit) × Int × Int × Unit) => x.1 = l ∧ x.2.2.1 = (l.length : Int) ∧ 0 ≤ x.2.2.2.1 ∧ x.2.2.2.1 ≤ (l.length : Int) ∧ fi (fun v => !okV v) l 0 = fi (fun v => !okV v) (l.drop x.2.2.2.1.toNat) x.2.2.2.1) (fun (x : List Int × (Unit × Unit) × Int × Int × Unit) => ((l.length : Int) - x.2.2.2.1).toNat) (x := (l, ((), ()), (l.length : Int), 0, ())) ⟨rfl, rfl, Int.le_refl _, by simp, by simp⟩ ?_
  rintro ⟨x1, u, m, i, _⟩ ⟨h', hm, h0, h1, h2⟩
  simp only at h' hm h0 h1 h2
  subst h'; subst hm
  refine Round.ite (fun hlt => ?_) (fun hge => ?_)
  · have hlt : i < (x1.length : Int) := of_decide_eq_true hlt
    obtain ⟨v, hv, hv'⟩ := idx_at h0 hlt
    have hd := drop_cons hv'
    refine Round.at hv (Round.bind (e54 _) (Round.ite (fun hb => ?_) (fun hb => ?_)))
    · have hb : okV v = false := by simpa using hb
      have h3 : fi (fun v => !okV v) x1 0 = i := by rw [h2, hd]; simp [fi, hb]
      rw [h3]
      exact Round.done (Evt.some _)
    · have hb : okV v = true := by simpa using hb
      have hw : wr .i64 (i + 1) = i + 1 := wrap_id (by omega) (by omega)
      refine Round.again _ ⟨⟨rfl, rfl, ?_, ?_, ?_⟩, ?_⟩ <;> simp only [hw]
      · omega
      · omega
      · rw [h2, hd, show (i + 1).toNat = i.toNat + 1 by omega]
        simp [fi, hb]
      · omega
  · have hge : ¬ i < (x1.length : Int) := by simpa using hge
    have : x1.drop i.toNat = [] := List.drop_of_length_le (by omega)
    rw [h2, this]
    exact Round.done (Evt.some _)
/- slices.ContainsFunc[impl.Cam,int16]{impl.ValidCam$1} -/
theorem e53 (l : List Int) (hl : (l.length : Int) ≤ 140737488351232) : Evt (fun n => call T C n 53 (l, ((), ()), ())) ((l.any (fun v => !okV v), ()), ()) := by
  refine Evt.next (Evt.bind (e65 l hl) ((Evt.some _).of_eq fun n => ?_)) (fun n => r53 n l ((), ()))
  simp only [fi_any _ l 0 (Int.le_refl _)]
  rfl
/- impl.ValidCam -/
theorem e37 (l : List Int) (hl : (l.length : Int) ≤ 140737488351232) : Evt (fun n => call T C n 37 (l, ())) ((okC l, ()), ()) := by
  refine Evt.next (Evt.bind (e52 l) (Evt.bind (e51 _) ?_)) (fun n => r37 n l)
  refine Evt.ite (fun h => ?_) (fun h => ?_)
  · refine Evt.bind (e53 l hl) ((Evt.some _).of_eq fun n => ?_)
    have h : inR (l.length : Int) 8 360 = true := h
    have : okC l = !l.any (fun v => !okV v) := by simp [okC, h, List.any_eq_not_all_not]
    rw [this]
    rfl
  · refine (Evt.some _).of_eq fun n => ?_
    have h : inR (l.length : Int) 8 360 = false := by simpa using h
    simp [okC, h]
    rfl
/- impl.isPlace -/
theorem e38 (a b : Int) : Evt (fun n => call T C n 38 (a, b, ())) ((inR a 0 (wr .i64 (b - 1)), ()), ()) := Evt.next (Evt.bind (e34 _ _ _) (Evt.some _)) (fun n => r38 n a b)
/- impl.ValidShafts$1 -/
theorem e36 (s : Sft) (hl : (s.2.2.2.1.length : Int) ≤ 140737488351232) : Evt (fun n => call T C n 36 (s, ())) ((!okS s, ()), ()) := by
  refine Evt.next (Evt.bind (e34 _ _ _) ?_) (fun n => r36 n s)
  refine Evt.ite (fun h => ?_) (fun h => ?_)
  · have h : inR (wr .i64 s.1) 1 60 = false := by simpa using h
    have : okS s = false := by simp [okS, h]
    rw [this]; exact Evt.some _
  · have h1 : inR (wr .i64 s.1) 1 60 = true := by simpa using h
    refine Evt.bind (e34 _ _ _) (Evt.ite (fun h => ?_) (fun h => ?_))
    · have h : inR (wr .i64 s.2.1) 1 60 = false := by simpa using h
      have : okS s = false := by simp [okS, h]
      rw [this]; exact Evt.some _
    · have h2 : inR (wr .i64 s.2.1) 1 60 = true := by simpa using h
      refine Evt.bind (e37 _ hl) (Evt.ite (fun h => ?_) (fun h => ?_))
      · have h : okC s.2.2.2.1 = false := by simpa using h
        have : okS s = false := by simp [okS, h]
        rw [this]; exact Evt.some _
      · have h3 : okC s.2.2.2.1 = true := by simpa using h
        refine Evt.bind (e38 _ _) ((Evt.some _).of_eq fun n => ?_)
        have : okS s = inR (wr .i64 s.2.2.1) 0 (wr .i64 ((s.2.2.2.1.length : Int) - 1)) := by simp [okS, h1, h2, h3]
        rw [this]
        rfl
/- slices.IndexFunc[[]impl.Shaft,impl.Shaft]{impl.ValidShafts$1} -/
theorem e50 (l : List Sft) (hl : Small l) : Evt (fun n => call T C n 50 (l, ((), ()), ())) ((fi (fun v => !okS v) l 0, ()), ()) := by
  refine Evt.next ?_ (fun n => r50 n l ((), ()))
  refine loop_evt (fun (x : List Sft × (Unit × Unit) × Int × Int × Unit) => x.1 = l ∧ x.2.2.1 = (l.length : Int) ∧ 0 ≤ x.2.2.2.1 ∧ x.2.2.2.1 ≤ (l.length : Int) ∧ fi (fun v => !okS v) l 0 = fi (fun v => !okS v) (l.drop x.2.2.2.1.toNat) x.2.2.2.1) (fun (x : List Sft × (Unit × Unit) × Int × Int × Unit) => ((l.length : Int) - x.2.2.2.1).toNat) (x := (l, ((), ()), (l.length : Int), 0, ())) ⟨rfl, rfl, Int.le_refl _, by simp, by simp⟩ ?_
  rintro ⟨x1, u, m, i, _⟩ ⟨h', hm, h0, h1, h2⟩
  simp only at h' hm h0 h1 h2
  subst h'; subst hm
  have hl1 := hl.1
  refine Round.ite (fun hlt => ?_) (fun hge => ?_)
  · have hlt : i < (x1.length : Int) := of_decide_eq_true hlt
    obtain ⟨v, hv, hv'⟩ := idx_at h0 hlt
    have hd := drop_cons hv'
    refine Round.at hv (Round.bind (e36 _ (hl.get hv')) (Round.ite (fun hb => ?_) (fun hb => ?_)))
    · have hb : okS v = false := by simpa using hb
      have h3 : fi (fun v => !okS v) x1 0 = i := by rw [h2, hd]; simp [fi, hb]
      rw [h3]
      exact Round.done (Evt.some _)
    · have hb : okS v = true := by simpa using hb
      have hw : wr .i64 (i + 1) = i + 1 := wrap_id (by omega) (by omega)
      refine Round.again _ ⟨⟨rfl, rfl, ?_, ?_, ?_⟩, ?_⟩ <;> simp only [hw]
      · omega
      · omega
      · rw [h2, hd, show (i + 1).toNat = i.toNat + 1 by omega]
        simp [fi, hb]
      · omega
  · have hge : ¬ i < (x1.length : Int) := by simpa using hge
    have : x1.drop i.toNat = [] := List.drop_of_length_le (by omega)
    rw [h2, this]
    exact Round.done (Evt.some _)
/- slices.ContainsFunc[[]impl.Shaft,impl.Shaft]{impl.ValidShafts$1} -/
theorem e35 (l : List Sft) (hl : Small l) : Evt (fun n => call T C n 35 (l, ((), ()), ())) ((l.any (fun v => !okS v), ()), ()) := by
  refine Evt.next (Evt.bind (e50 l hl) ((Evt.some _).of_eq fun n => ?_)) (fun n => r35 n l ((), ()))
  simp only [fi_any _ l 0 (Int.le_refl _)]
  rfl
/- impl.ValidShafts -/
theorem e21 (l : List Sft) (hl : Small l) : Evt (fun n => call T C n 21 (l, ())) ((okA l, ()), ()) := by
  refine Evt.next (Evt.bind (e34 _ _ _) ?_) (fun n => r21 n l)
  refine Evt.ite (fun h => ?_) (fun h => ?_)
  · refine Evt.bind (e35 l hl) ((Evt.some _).of_eq fun n => ?_)
    have h : inR (l.length : Int) 1 6 = true := h
    have : okA l = !l.any (fun v => !okS v) := by simp [okA, h, List.any_eq_not_all_not]
    rw [this]
    rfl
  · refine (Evt.some _).of_eq fun n => ?_
    have h : inR (l.length : Int) 1 6 = false := by simpa using h
    simp [okA, h]
    rfl
/- strconv.FormatInt -/
theorem e39 (u : Nat) (h : u ≤ 9223372036854775807) : Evt (fun n => call T C n 39 ((u : Int), 10, ())) ((tx (Lib.decDigits u), ()), ()) := by
  refine Evt.next ?_ (fun n => r39 n u 10)
  dsimp only
  rw [if_pos ⟨rfl, by omega, by omega⟩, Lib.itoa_nonneg]
  exact Evt.some _
theorem e39_2 (v : Int) (h0 : -9223372036854775808 ≤ v) (h1 : v ≤ 9223372036854775807) : Evt (fun n => call T C n 39 (v, 10, ())) ((tx (Lib.itoa v), ()), ()) := by
  refine Evt.next ?_ (fun n => r39 n v 10)
  dsimp only
  rw [if_pos ⟨rfl, h0, h1⟩]
  exact Evt.some _
/- impl.decimal -/
theorem e22 (u : Nat) (h : u ≤ 9223372036854775807) : Evt (fun n => call T C n 22 ((u : Int), ())) ((tx (Lib.decDigits u), ()), ()) :=
  Evt.next (Evt.bind (e39 u h) (Evt.some _)) (fun n => r22 n u)
theorem e22_2 (v : Int) (h0 : -9223372036854775808 ≤ v) (h1 : v ≤ 9223372036854775807) : Evt (fun n => call T C n 22 (v, ())) ((tx (Lib.itoa v), ()), ()) :=
  Evt.next (Evt.bind (e39_2 v h0 h1) (Evt.some _)) (fun n => r22 n v)
/- strings.Join -/
theorem e40 (ws : List (List UInt8)) (s : List UInt8) (h1 : ws.length ≤ 1000000) (h2 : (Lib.join ws s).length ≤ 1000000000) : Evt (fun n => call T C n 40 (ws.map tx, tx s, ())) ((tx (Lib.join ws s), ()), (ws.map tx, ())) := by
  refine Evt.next ?_ (fun n => r40 n (ws.map tx) (tx s))
  have e : (ws.map tx).map (fun s => s.data.toList) = ws := by
    rw [List.map_map]
    exact (List.map_congr_left fun a _ => rfl).trans (List.map_id ws)
  dsimp only
  rw [e]
  show Evt (fun n => if (ws.map tx).length ≤ 140737488355328 ∧ (Lib.join ws s).length ≤ 140737488355328 then some ((tx (Lib.join ws s), ()), (ws.map tx, ())) else none) _
  rw [if_pos ⟨by simp; omega, by omega⟩]
  exact Evt.some _
/- impl.CamText -/
theorem e23 (c : List Int) (hr : Rng c) : Evt (fun n => call T C n 23 (c, ())) ((camT c, ()), ()) := by
  have hcl := hr.len'
  refine Evt.next (Evt.bind (e37 c (by omega)) ?_) (fun n => r23 n c)
  unfold camT
  cases h : okC c with
  | false => exact Evt.yes rfl (Evt.some _)
  | true =>
    have hl := okC_len h
    have hC := okC_el h hr
    have c32 : (⟨#[32]⟩ : ByteArray) = tx [32] := rfl
    have c42 : (⟨#[42]⟩ : ByteArray) = tx [42] := rfl
    refine Evt.no (by simp) ?_
    refine loop_evt (fun x => ∃ (i : Nat) (ws : List (List UInt8)), x = (c, ws.map tx, (i : Int), ()) ∧ i ≤ c.length ∧ ws ++ (rle (c.drop i)).map wordL = (rle c).map wordL ∧ ws.length ≤ i ∧ (∀ w ∈ ws, w.length ≤ 43) ∧ (0 < i → ws ≠ [])) (fun x => c.length - x.2.2.1.toNat) ⟨0, [], rfl, by omega, by simp, by simp, by simp, by simp⟩ ?_
    rintro x ⟨i, ws, rfl, hi, hws, hwl0, hl43, hne0⟩
    have hJ := join_len [32] ws hl43
    simp only [List.length_cons, List.length_nil] at hJ
    have hJ : (Lib.join ws [32]).length ≤ 1000000 := by omega
    by_cases hlt : i < c.length
    · have hlt : (i : Int) < (c.length : Int) := by omega
      refine Round.yes (decide_eq_true hlt) ?_
      refine for_round' (i : Int) (c.length : Int) (fun j (_ : Unit) => (c, ws.map tx, (i : Int), j, ())) (fun j _ => ∀ u : Nat, i ≤ u → (u : Int) < j → g c u = g c i) (b0 := ()) rfl (by omega) (fun u h1 h2 => absurd h2 (by omega)) ?_ ?_
      · intro j' _ h2 h3' hP
        obtain ⟨j, rfl⟩ : ∃ j : Nat, j' = j := ⟨j'.toNat, by omega⟩
        have a1 := g_idx (l := c) (i := (j : Int)) (by omega) (by omega)
        have a2 := g_idx (l := c) (i := (i : Int)) (by omega) (by omega)
        rw [Int.toNat_natCast] at a1 a2
        refine Round.yes (decide_eq_true h3') (Round.at a1.idx (Round.at a2.idx ?_))
        by_cases heq : g c j = g c i
        · refine Round.yes (by simp [heq]) (Round.inr _ ⟨(), by rw [wr_succ (by omega) h3' (by omega)], fun u h1 h2 => ?_⟩)
          by_cases hu : u = j
          · rw [hu, heq]
          · exact hP u h1 (by omega)
        · have hj1 : i < j := by
            apply Classical.byContradiction
            intro h
            exact heq (by rw [show j = i by omega])
          have hj2 : j ≤ c.length := by omega
          have h3 : ∀ u, i ≤ u → u < j → g c u = g c i := fun u h1 h2 => hP u h1 (by omega)
          have h4 : j = c.length ∨ g c j ≠ g c i := .inr heq
          refine Round.no (by simp [heq]) ?_
          have hv := g_idx (l := c) (i := (i : Int)) (by omega) (by omega)
          rw [Int.toNat_natCast] at hv
          have hvb := hC _ hv.mem
          obtain ⟨v, hv2⟩ : ∃ v : Nat, g c i = v := ⟨(g c i).toNat, by omega⟩
          have hd := rle_drop hj1 hj2 h3 h4
          have e1 : wr .i64 (g c i) = (v : Int) := by rw [hv2]; exact wrap_id (by omega) (by omega)
          have e2 : wr .i64 ((j : Int) - (i : Int)) = ((j - i : Nat) : Int) := by rw [wrap_id (by omega) (by omega)]; omega
          have hD1 := e22 v (by omega)
          have hD2 := e22 (j - i) (by omega)
          have z1 := dec_len (u := v) (by omega)
          have z2 := dec_len (u := j - i) (by omega)
          have hw : wordL (g c i, j - i) = if j - i > 1 then Lib.decDigits v ++ 42 :: Lib.decDigits (j - i) else Lib.decDigits v := by unfold wordL; rw [hv2]; rfl
          have hwl := wordL_len (x := (g c i, j - i)) (by show g c i ≤ _; omega) (by show j - i ≤ _; omega)
          have next : ∀ w, w = wordL (g c i, j - i) → (ws ++ [w]) ++ (rle (c.drop j)).map wordL = (rle c).map wordL ∧ (ws ++ [w]).length ≤ j ∧ (∀ u ∈ ws ++ [w], u.length ≤ 43) ∧ (0 < j → ws ++ [w] ≠ []) := fun w hw => by
            refine ⟨?_, by simp; omega, fun u hu => ?_, fun _ => by simp⟩
            · rw [← hws, hd, hw]; simp
            · rcases List.mem_append.1 hu with hu | hu
              · exact hl43 u hu
              · simp at hu; rw [hu, hw]; exact hwl
          refine Round.at hv.idx ?_
          simp only [e1, e2]
          refine Round.bind hD1 ?_
          have hml : (ws.map tx).length = ws.length := by simp
          by_cases hk : j - i > 1
          · refine Round.yes (decide_eq_true (by omega)) (Round.bind hD2 ?_)
            simp only [c42, tx_app]
            refine Round.chk (szT (by simp) (by omega)) (Round.chk (szT (by omega) (by simp; omega)) (Round.chk (by simp; omega) (Round.inl _ ⟨⟨j, ws ++ [wordL (g c i, j - i)], ?_, hj2, next _ rfl⟩, ?_⟩)))
            · rw [hw, if_pos hk]; simp
            · show c.length - (j : Int).toNat < c.length - (i : Int).toNat
              omega
          · refine Round.no (by simp; omega) (Round.chk (by simp; omega) (Round.inl _ ⟨⟨j, ws ++ [wordL (g c i, j - i)], ?_, hj2, next _ rfl⟩, ?_⟩))
            · rw [hw, if_neg hk]; simp
            · show c.length - (j : Int).toNat < c.length - (i : Int).toNat
              omega
      · intro _ hP
        refine Round.no (by simp) ?_
        have hj1 : i < c.length := by omega
        have hj2 : c.length ≤ c.length := Nat.le_refl _
        have h3 : ∀ u, i ≤ u → u < c.length → g c u = g c i := fun u h1 h2 => hP u h1 (by omega)
        have h4 : c.length = c.length ∨ g c c.length ≠ g c i := .inl rfl
        have hv := g_idx (l := c) (i := (i : Int)) (by omega) (by omega)
        rw [Int.toNat_natCast] at hv
        have hvb := hC _ hv.mem
        obtain ⟨v, hv2⟩ : ∃ v : Nat, g c i = v := ⟨(g c i).toNat, by omega⟩
        have hd := rle_drop hj1 hj2 h3 h4
        have e1 : wr .i64 (g c i) = (v : Int) := by rw [hv2]; exact wrap_id (by omega) (by omega)
        have e2 : wr .i64 ((c.length : Int) - (i : Int)) = ((c.length - i : Nat) : Int) := by rw [wrap_id (by omega) (by omega)]; omega
        have hD1 := e22 v (by omega)
        have hD2 := e22 (c.length - i) (by omega)
        have z1 := dec_len (u := v) (by omega)
        have z2 := dec_len (u := c.length - i) (by omega)
        have hw : wordL (g c i, c.length - i) = if c.length - i > 1 then Lib.decDigits v ++ 42 :: Lib.decDigits (c.length - i) else Lib.decDigits v := by unfold wordL; rw [hv2]; rfl
        have hwl := wordL_len (x := (g c i, c.length - i)) (by show g c i ≤ _; omega) (by show c.length - i ≤ _; omega)
        have next : ∀ w, w = wordL (g c i, c.length - i) → (ws ++ [w]) ++ (rle (c.drop c.length)).map wordL = (rle c).map wordL ∧ (ws ++ [w]).length ≤ c.length ∧ (∀ u ∈ ws ++ [w], u.length ≤ 43) ∧ (0 < c.length → ws ++ [w] ≠ []) := fun w hw => by
          refine ⟨?_, by simp; omega, fun u hu => ?_, fun _ => by simp⟩
          · rw [← hws, hd, hw]; simp
          · rcases List.mem_append.1 hu with hu | hu
            · exact hl43 u hu
            · simp at hu; rw [hu, hw]; exact hwl
        refine Round.at hv.idx ?_
        simp only [e1, e2]
        refine Round.bind hD1 ?_
        have hml : (ws.map tx).length = ws.length := by simp
        by_cases hk : c.length - i > 1
        · refine Round.yes (decide_eq_true (by omega)) (Round.bind hD2 ?_)
          simp only [c42, tx_app]
          refine Round.chk (szT (by simp) (by omega)) (Round.chk (szT (by omega) (by simp; omega)) (Round.chk (by simp; omega) (Round.inl _ ⟨⟨c.length, ws ++ [wordL (g c i, c.length - i)], ?_, hj2, next _ rfl⟩, ?_⟩)))
          · rw [hw, if_pos hk]; simp
          · show c.length - (c.length : Int).toNat < c.length - (i : Int).toNat
            omega
        · refine Round.no (by simp; omega) (Round.chk (by simp; omega) (Round.inl _ ⟨⟨c.length, ws ++ [wordL (g c i, c.length - i)], ?_, hj2, next _ rfl⟩, ?_⟩))
          · rw [hw, if_neg hk]; simp
          · show c.length - (c.length : Int).toNat < c.length - (i : Int).toNat
            omega
    · have hi : i = c.length := by omega
      refine Round.no (by simp; omega) (Round.done ?_)
      rw [hi, List.drop_length] at hws
      have hw2 : ws = (rle c).map wordL := by simpa [rle] using hws
      rw [if_pos rfl]
      unfold camJ
      rw [← hw2, c32]
      exact Evt.bind (e40 ws [32] (by omega) (by omega)) (Evt.some _)
/- (*strings.Builder).WriteString -/
theorem e14 (x s : List UInt8) (h : x.length + s.length ≤ 1000000000) : Evt (fun n => call T C n 14 (tx x, tx s, ())) ((((s.length : Nat) : Int), false, ()), (tx (x ++ s), ())) := by
  refine Evt.next ?_ (fun n => r14 n (tx x) (tx s))
  dsimp only
  rw [if_pos (by rw [tx_size, tx_size]; omega), tx_app, tx_size]
  exact Evt.some _
/- (*strings.Builder).String -/
theorem e16 (x : ByteArray) : Evt (fun n => call T C n 16 (x, ())) ((x, ()), ()) :=
  Evt.next (Evt.some _) (fun n => r16 n x)
/- impl.ShaftsText -/
theorem e11 (l : List Sft) (hS : Small l) (hr : ∀ s ∈ l, RngSf s) : Evt (fun n => call T C n 11 (l, ())) ((shR l, ()), ()) := by
  refine Evt.next (Evt.bind (e21 l hS) ?_) (fun n => r11 n l)
  unfold shR
  cases h : okA l with
  | false => exact Evt.yes rfl (Evt.some _)
  | true =>
    obtain ⟨h1, h2, h3⟩ := okA_el h
    have hg : ∀ s ∈ l, GoodSf s := fun s hs => goodSf (hr s hs) (h3 s hs)
    have c32 : (⟨#[32]⟩ : ByteArray) = tx [32] := rfl
    have c10 : (⟨#[10]⟩ : ByteArray) = tx [10] := rfl
    refine Evt.no (by simp) ?_
    refine for_evt' 0 (l.length : Int) (fun i (_ : Unit) => (tx (shT (l.take i.toNat)), l, (l.length : Int), i, ())) (fun _ _ => True) (b0 := ()) rfl (by omega) trivial ?_ ?_
    · intro i _ i0 i1 _
      obtain ⟨s, hs⟩ := at_of i0 i1
      have G := hg s hs.mem
      have R := hr s hs.mem
      have g1 := G.n
      have g2 := G.d
      have g3 := G.p
      have hc := okC_len G.c
      obtain ⟨a, ea⟩ : ∃ a : Nat, s.1 = a := ⟨s.1.toNat, by omega⟩
      obtain ⟨b, eb⟩ : ∃ b : Nat, s.2.1 = b := ⟨s.2.1.toNat, by omega⟩
      obtain ⟨p, ep⟩ : ∃ p : Nat, s.2.2.1 = p := ⟨s.2.2.1.toNat, by omega⟩
      have hA := e22 a (by omega)
      have hB := e22 b (by omega)
      have hP := e22 p (by omega)
      have hT := e23 s.2.2.2.1 R.c
      rw [show camT s.2.2.2.1 = tx (camJ s.2.2.2.1) from if_pos G.c] at hT
      have z1 := dec_len (u := a) (by omega)
      have z2 := dec_len (u := b) (by omega)
      have z3 := dec_len (u := p) (by omega)
      have z4 := camJ_len (c := s.2.2.2.1) (by omega) (okC_el G.c R.c)
      have zt := shT_len (l := l.take i.toNat) (fun x hx => hr x (List.mem_of_mem_take hx)) fun x hx => hg x (List.mem_of_mem_take hx)
      have zl : (l.take i.toNat).length ≤ 6 := by rw [List.length_take]; omega
      dsimp only
      refine Round.yes (decide_eq_true i1) (Round.at hs.idx ?_)
      rw [wrap_id (x := s.1) (by omega) (by omega), wrap_id (x := s.2.1) (by omega) (by omega), wrap_id (x := s.2.2.1) (by omega) (by omega), ea, eb, ep]
      refine Round.bind hA ?_
      simp only [c32, c10, tx_app]
      refine Round.chk (szT (by omega) (by simp)) (Round.bind hB ?_)
      simp only [tx_app]
      refine Round.chk (szT (by simp; omega) (by omega)) (Round.chk (szT (by simp; omega) (by simp)) (Round.bind hP ?_))
      simp only [tx_app]
      refine Round.chk (szT (by simp; omega) (by omega)) (Round.chk (szT (by simp; omega) (by simp)) (Round.bind hT ?_))
      simp only [tx_app]
      refine Round.chk (szT (by simp; omega) (by omega)) (Round.chk (szT (by simp; omega) (by simp)) (Round.bind (e14 _ _ (by simp; omega)) (Round.again _ ⟨(), ?_, trivial⟩)))
      rw [hs.take, shT_snoc, wr_succ i0 i1 (by omega)]
      unfold shL
      rw [ea, eb, ep, Int.toNat_natCast, Int.toNat_natCast, Int.toNat_natCast]
    · intro _ _
      dsimp only
      rw [take_all]
      exact Round.no (by simp) (Round.bind (e16 _) (Round.done (Evt.some _)))
/- laws.eqCam -/
theorem e41 (l : List Int) (hl : (l.length : Int) ≤ 140737488351232) : Evt (fun n => call T C n 41 (l, l, ())) ((true, ()), ()) := by
  refine Evt.next (Evt.no (by simp) ?_) (fun n => r41 n l l)
  refine for_evt 0 (l.length : Int) (fun i (_ : Unit) => (l, l, i, ())) (fun _ _ => True) (b0 := ()) (by omega) trivial ?_ ?_
  · intro i _ h2 h3 _
    obtain ⟨v, hv⟩ := at_of h2 h3
    refine Round.yes (decide_eq_true h3) (Round.at hv.idx (Round.at hv.idx (Round.no (by simp) (Round.again _ ⟨(), ?_, trivial⟩))))
    rw [wr_succ h2 h3 (by omega)]
  · intro _ _
    exact Round.no (by simp) (Round.done (Evt.some _))
/- laws.eqShaft -/
theorem e24 (s : Sft) (hl : (s.2.2.2.1.length : Int) ≤ 140737488351232) : Evt (fun n => call T C n 24 (s, s, ())) ((true, ()), ()) :=
  Evt.next (Evt.no (by simp) (Evt.no (by simp) (Evt.no (by simp) (Evt.bind (e41 _ hl) (Evt.no (by simp) (Evt.some _)))))) (fun n => r24 n s s)
/- laws.eqShaftS -/
theorem e12 (l : List Sft) (hl : Small l) : Evt (fun n => call T C n 12 (l, l, ())) ((true, ()), ()) := by
  have hl1 := hl.1
  refine Evt.next (Evt.no (by simp) ?_) (fun n => r12 n l l)
  refine loop_evt (fun (x : List Sft × List Sft × Int × Unit) => x.1 = l ∧ x.2.1 = l ∧ 0 ≤ x.2.2.1 ∧ x.2.2.1 ≤ (l.length : Int)) (fun (x : List Sft × List Sft × Int × Unit) => ((l.length : Int) - x.2.2.1).toNat) (x := (l, l, 0, ())) ⟨rfl, rfl, Int.le_refl _, by simp⟩ ?_
  rintro ⟨x1, x2, i, _⟩ ⟨h', h'', h0, h1⟩
  simp only at h' h'' h0 h1
  subst h'; subst h''
  refine Round.ite (fun hlt => ?_) (fun hge => ?_)
  · have hlt : i < (x2.length : Int) := of_decide_eq_true hlt
    obtain ⟨v, hv, hv'⟩ := idx_at h0 hlt
    have hw : wr .i64 (i + 1) = i + 1 := wrap_id (by omega) (by omega)
    refine Round.at hv (Round.at hv (Round.bind (e24 v (hl.get hv')) (Round.no (by simp) (Round.again _ ⟨⟨rfl, rfl, ?_, ?_⟩, ?_⟩)))) <;> simp only [hw] <;> omega
  · exact Round.done (Evt.some _)
/- laws.FnExactShaftsText -/
theorem e4 (l : List Sft) (hd : DomA (C 4).params (l, ())) : Evt (fun n => call T C n 4 (l, ())) ((true, ()), ()) := by
  have h1 := shaftsDom1 (l := l) hd.1
  have h2 := shaftsDom2 (l := l) hd.1
  have hr : ∀ s ∈ l, RngSf s := fun s hs => ⟨(hd.1.2 s hs).1, (hd.1.2 s hs).2.1, (hd.1.2 s hs).2.2.1, rng_of (hd.1.2 s hs).2.2.2.1⟩
  have hS : Small l := ⟨by omega, fun s hs => by have := h2 s hs; omega⟩
  refine Evt.next (Evt.bind (e8 l hS 1048576) (Evt.ite (fun _ => Evt.some _) (fun hsz => ?_))) (fun n => r4 n l)
  have to1 := e10 l h1 h2
  refine Evt.bind to1 (Evt.bind (e9 l hS hr) (Evt.bind to1 (Evt.bind (e11 l hS hr) (Evt.no (by simp) ?_))))
  exact Evt.bind to1 (Evt.bind (e12 l hS) (Evt.no (by simp) (Evt.some _)))

end Go.Cams.YtimojogjlbajeaaDoorLSs
