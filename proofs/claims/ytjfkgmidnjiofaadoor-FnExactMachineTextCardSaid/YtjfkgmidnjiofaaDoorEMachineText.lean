/- What the functions that the law reaches come to. -/
import Derived.Test.YtjfkgmidnjiofaaDoorRMachineText
import Derived.Test.YtjfkgmidnjiofaaDoorPuAll
namespace Go.Cams.YtjfkgmidnjiofaaDoorLMachineText
open Go Go.Fw Go.Proofs Go.Proofs.YtjfkgmidnjiofaaDoor.LMachineText
/- laws.szCam -/
theorem e45 (l : List Int) (a : Int) : Evt (fun n => call T C n 45 (l, a, ())) ((sz1 l a, ()), ()) := by
  refine Evt.next ?_ (fun n => r45 n l a)
  unfold sz1
  refine Evt.ite (fun h => ?_) (fun h => ?_)
  · rw [if_pos (of_decide_eq_true h)]; exact Evt.some _
  · rw [if_neg (by simpa using h)]; exact Evt.some _
/- laws.szMachine -/
theorem e20 (m : Mch) (a : Int) : Evt (fun n => call T C n 20 (m, a, ())) ((szM m a, ()), ()) := by
  refine Evt.next (Evt.bind (e45 m.1 a) ?_) (fun n => r20 n m a)
  unfold szM
  refine Evt.ite (fun h => ?_) (fun h => ?_)
  · rw [if_pos (of_decide_eq_true h)]; exact Evt.some _
  rw [if_neg (by simpa using h)]
  refine Evt.bind (e45 m.2.1 _) (Evt.ite (fun h => ?_) (fun h => ?_))
  · rw [if_pos (of_decide_eq_true h)]; exact Evt.some _
  rw [if_neg (by simpa using h)]
  refine Evt.bind (e45 m.2.2.1 _) (Evt.ite (fun h => ?_) (fun h => ?_))
  · rw [if_pos (of_decide_eq_true h)]; exact Evt.some _
  rw [if_neg (by simpa using h)]
  exact Evt.some _
/- laws.toCam -/
theorem e12 (l : List Int) (hl : (l.length : Int) * 2 ≤ 140737488351232) : Evt (fun n => call T C n 12 (l, ())) ((l, ()), ()) := by
  refine Evt.next (Evt.chk (by simp; omega) ?_) (fun n => r12 n l)
  refine for_evt 0 (l.length : Int) (fun i (b : List Int) => (l, b, i, ())) (fun i b => b.length = l.length ∧ b.take i.toNat = l.take i.toNat) (b0 := List.replicate (Int.toNat (l.length : Int)) 0) (by omega) ⟨by simp, by simp⟩ ?_ ?_
  · intro i b h2 h3 ⟨hb, ht⟩
    have hi : i < (b.length : Int) := by omega
    obtain ⟨v, hv⟩ := at_of h2 h3
    obtain ⟨u, hu⟩ := get_of_lt h2 hi
    refine Round.yes (decide_eq_true h3) (Round.at hv.idx (Round.chk (chk_at h2 hi) (Round.at hu (Round.again _ ⟨b.set i.toNat v, ?_, by simpa using hb, ?_⟩))))
    · rw [wr_succ h2 h3 (by omega)]
    · rw [take_set_succ h2 hi, ht, hv.take]
  · intro b ⟨hb, ht⟩
    have e : b = l := by rw [← take_all b, hb, ht]; simp
    rw [e]
    exact Round.no (by simp) (Round.done (Evt.some _))
/- laws.toMachine -/
theorem e22 (m : Mch) (h : RngM m) : Evt (fun n => call T C n 22 (m, ())) ((m, ()), ()) := by
  obtain ⟨a, b, c, u⟩ := m
  exact Evt.next (Evt.bind (e12 a h.x.len) (Evt.bind (e12 b h.y.len) (Evt.bind (e12 c h.p.len) (Evt.some (((a, b, c, ()), ()), ()))))) (fun n => r22 n _)
/- spec.l00In -/
theorem e68 (a b c : Int) : Evt (fun n => call T C n 68 (a, b, c, ())) ((inR a b c, ()), ()) := by
  refine Evt.next ?_ (fun n => r68 n a b c)
  refine Evt.ite (fun h => ?_) (fun h => ?_)
  · refine (Evt.some _).of_eq fun n => ?_
    have h : b ≤ a := of_decide_eq_true h
    simp [inR, h]
    rfl
  · refine (Evt.some _).of_eq fun n => ?_
    have h : ¬ b ≤ a := by simpa using h
    simp [inR, h]
    rfl
/- spec.l01Steps -/
theorem e58 (a : Int) : Evt (fun n => call T C n 58 (a, ())) ((inR a 8 360, ()), ()) := Evt.next (Evt.bind (e68 a 8 360) (Evt.some _)) (fun n => r58 n a)
/- spec.l01Lift -/
theorem e59 (a : Int) : Evt (fun n => call T C n 59 (a, ())) ((inR a 0 10000, ()), ()) := Evt.next (Evt.bind (e68 a 0 10000) (Evt.some _)) (fun n => r59 n a)
/- spec.l01Ok -/
theorem e34 (l : List Int) (hl : (l.length : Int) ≤ 140737488351232) : Evt (fun n => call T C n 34 (l, ())) ((okC l, ()), ()) := by
  refine Evt.next ?_ (fun n => r34 n l)
  refine Evt.bind (e58 _) ?_
  refine Evt.ite (fun h => ?_) (fun h => ?_)
  · refine (Evt.some _).of_eq fun n => ?_
    have h : inR (l.length : Int) 8 360 = false := by simpa using h
    simp [okC, h]
    rfl
  · have h : inR (l.length : Int) 8 360 = true := by simpa using h
    have he : okC l = l.all okV := by simp [okC, h]
    rw [he]
    refine loop_evt (fun (x : List Int × Int × Unit) => x.1 = l ∧ 0 ≤ x.2.1 ∧ x.2.1 ≤ (l.length : Int) ∧ l.all okV = (l.drop x.2.1.toNat).all okV) (fun (x : List Int × Int × Unit) => ((l.length : Int) - x.2.1).toNat) (x := (l, 0, ())) ⟨rfl, Int.le_refl _, by simp, by simp⟩ ?_
    rintro ⟨x1, i, _⟩ ⟨h', h0, h1, h2⟩
    simp only at h' h0 h1 h2
    subst h'
    refine Round.ite (fun hlt => ?_) (fun hge => ?_)
    · have hlt : i < (x1.length : Int) := of_decide_eq_true hlt
      obtain ⟨v, hv, hv'⟩ := idx_at h0 hlt
      have hd := drop_cons hv'
      refine Round.at hv (Round.bind (e59 _) (Round.ite (fun hb => ?_) (fun hb => ?_)))
      · have hb : okV v = false := by simpa [okV] using hb
        have h3 : x1.all okV = false := by rw [h2, hd]; simp [hb]
        rw [h3]
        exact Round.done (Evt.some _)
      · have hb : okV v = true := by simpa [okV] using hb
        have hw : wr .i64 (i + 1) = i + 1 := wrap_id (by omega) (by omega)
        refine Round.again _ ⟨⟨rfl, ?_, ?_, ?_⟩, ?_⟩ <;> simp only [hw]
        · omega
        · omega
        · rw [h2, hd, show (i + 1).toNat = i.toNat + 1 by omega]
          simp [hb]
        · omega
    · have hge : ¬ i < (x1.length : Int) := by simpa using hge
      have : x1.drop i.toNat = [] := List.drop_of_length_le (by omega)
      rw [h2, this]
      exact Round.done (Evt.some _)
/- spec.l00Min -/
theorem e102 (a b : Int) : Evt (fun n => call T C n 102 (a, b, ())) ((min a b, ()), ()) := by
  refine Evt.next (Evt.ite (fun h => ?_) (fun h => ?_)) (fun n => r102 n a b)
  · have h : a < b := of_decide_eq_true h
    rw [show min a b = a by omega]; exact Evt.some _
  · have h : ¬ a < b := by simpa using h
    rw [show min a b = b by omega]; exact Evt.some _
/- spec.l00Max -/
theorem e103 (a b : Int) : Evt (fun n => call T C n 103 (a, b, ())) ((max a b, ()), ()) := by
  refine Evt.next (Evt.ite (fun h => ?_) (fun h => ?_)) (fun n => r103 n a b)
  · have h : a > b := of_decide_eq_true h
    rw [show max a b = a by omega]; exact Evt.some _
  · have h : ¬ a > b := by simpa using h
    rw [show max a b = b by omega]; exact Evt.some _
/- spec.l01Range -/
theorem e92 (l : List Int) (hr : Rng l) (h0 : 0 < (l.length : Int)) : Evt (fun n => call T C n 92 (l, ())) ((mnL l, mxL l, ()), ()) := by
  have hlen := hr.len'
  obtain ⟨v0, hv0⟩ := at_of (l := l) (Int.le_refl 0) h0
  refine Evt.next (Evt.at hv0.idx ?_) (fun n => r92 n l)
  rw [hr.id hv0.mem]
  have hh := (head_at hv0).1
  refine for_evt' 1 (l.length : Int) (fun i (_ : Unit) => (l, mnF (l.take i.toNat) v0, mxF (l.take i.toNat) v0, i, ())) (fun _ _ => True) (b0 := ()) (by
    have := (head_at hv0).2
    show _ = (l, mnF (l.take 1) v0, mxF (l.take 1) v0, 1, ())
    rw [this]; simp [mnF, mxF]) (by omega) trivial ?_ ?_
  · intro i _ h2 h3 _
    obtain ⟨v, hv⟩ := at_of (l := l) (show 0 ≤ i by omega) h3
    simp only [wrap_id (x := i + 1) (by omega) (by omega)]
    refine Round.yes (decide_eq_true h3) (Round.at hv.idx (Round.bind (e102 _ _) (Round.at hv.idx (Round.bind (e103 _ _) (Round.again _ ⟨(), ?_, trivial⟩)))))
    rw [hv.take, mnF_snoc, mxF_snoc, hr.id hv.mem]
  · intro _ _
    have e1 : mnF (l.take (l.length : Int).toNat) v0 = mnL l := by rw [take_all, mnL, hh]
    have e2 : mxF (l.take (l.length : Int).toNat) v0 = mxL l := by rw [take_all, mxL, hh]
    simp only [e1, e2]
    exact Round.no (by simp) (Round.done (Evt.some _))
/- spec.l07Moves -/
theorem e78 (l : List Int) (hr : Rng l) : Evt (fun n => call T C n 78 (l, ())) ((mv l, ()), ()) := by
  have hlen := hr.len'
  refine Evt.next (Evt.bind (e34 l (by omega)) ?_) (fun n => r78 n l)
  unfold mv
  cases hok : okC l with
  | false => exact Evt.yes rfl (Evt.some _)
  | true =>
    have := okC_len hok
    exact Evt.no (by simp) (Evt.bind (e92 l hr (by omega)) (Evt.some _))
/- spec.l07Ok -/
theorem e46 (m : Mch) (h : RngM m) : Evt (fun n => call T C n 46 (m, ())) ((okM m, ()), ()) := by
  have hp := h.p.len'
  refine Evt.next (Evt.bind (e78 m.1 h.x) ?_) (fun n => r46 n m)
  unfold okM
  cases mv m.1 with
  | false => exact Evt.no (by simp) (Evt.some _)
  | true =>
    refine Evt.yes rfl (Evt.bind (e78 m.2.1 h.y) ?_)
    cases mv m.2.1 with
    | false => exact Evt.no (by simp) (Evt.some _)
    | true =>
      refine Evt.yes rfl (Evt.bind (e34 m.2.2.1 (by omega)) ?_)
      cases okC m.2.2.1 with
      | false => exact Evt.no (by simp) (Evt.some _)
      | true =>
        refine Evt.yes rfl ?_
        cases ((m.1.length : Int) == (m.2.1.length : Int)) with
        | false => exact Evt.no (by simp) (Evt.some _)
        | true => exact Evt.yes rfl (Evt.some _)
/- spec.Decimal -/
theorem e60 (u : Nat) : u ≤ 9223372036854775807 → Evt (fun n => call T C n 60 ((u : Int), ())) ((tx (Lib.decDigits u), ()), ()) := by
  induction u using Nat.strongRecOn with
  | ind u ih =>
    intro hu
    have e1 : Int.tmod (u : Int) 10 = ((u % 10 : Nat) : Int) := by rw [show (10 : Int) = ((10 : Nat) : Int) from rfl, ← Int.ofNat_tmod]
    have e2 : Int.tdiv (u : Int) 10 = ((u / 10 : Nat) : Int) := by rw [show (10 : Int) = ((10 : Nat) : Int) from rfl, ← Int.ofNat_tdiv]
    have e3 : strOf [wr .u8 (wr .i64 ((48 : Int) + (Int.tmod (u : Int) (10 : Int))))] = tx [UInt8.ofNat (48 + u % 10)] := by
      rw [e1, digit_wr (Nat.mod_lt _ (by omega)), tx_strOf, show (48 + ((u % 10 : Nat) : Int)).toNat = 48 + u % 10 by omega]
    by_cases h : u < 10
    · refine Evt.next (Evt.yes (decide_eq_true (by omega)) (Evt.chk rfl ?_)) (fun n => r60 n u)
      rw [e3, dec_small h, show u % 10 = u by omega]
      exact Evt.some _
    · have hi := ih (u / 10) (by omega) (by omega)
      have hl := dec_len (u := u / 10) (by omega)
      refine Evt.next (Evt.no (by simp; omega) (Evt.chk rfl ?_)) (fun n => r60 n u)
      rw [e2, wrap_id (x := ((u / 10 : Nat) : Int)) (by omega) (by omega), e3]
      refine Evt.bind hi (Evt.chk rfl (Evt.chk ?_ ((Evt.some _).of_eq fun n => ?_)))
      · simp only [tx_size]; exact decide_eq_true (by simp; omega)
      · rw [tx_app, ← dec_big h]; rfl
/- spec.l01Text -/
theorem e35 {c : List Int} (hl : c.length ≤ 1000) (hC : ∀ v ∈ c, 0 ≤ v ∧ v ≤ 10000) : Evt (fun n => call T C n 35 (c, ())) ((tx (camJ c), ()), ()) := by
  refine Evt.next ?_ (fun n => r35 n c)
  have c32 : (⟨#[32]⟩ : ByteArray) = tx [32] := rfl
  have c42 : (⟨#[42]⟩ : ByteArray) = tx [42] := rfl
  refine loop_evt (fun x => ∃ (i : Nat) (ws : List (List UInt8)), x = (c, tx (Lib.join ws [32]), (i : Int), ()) ∧ i ≤ c.length ∧ ws ++ (rle (c.drop i)).map wordL = (rle c).map wordL ∧ ws.length ≤ i ∧ (∀ w ∈ ws, w.length ≤ 43) ∧ (0 < i → ws ≠ [])) (fun x => c.length - x.2.2.1.toNat) ⟨0, [], rfl, by omega, by simp, by simp, by simp, by simp⟩ ?_
  rintro x ⟨i, ws, rfl, hi, hws, hwl0, hl43, hne0⟩
  have hJ := join_len [32] ws hl43
  simp only [List.length_cons, List.length_nil] at hJ
  have hJ : (Lib.join ws [32]).length ≤ 1000000 := by omega
  by_cases hlt : i < c.length
  · have hlt : (i : Int) < (c.length : Int) := by omega
    refine Round.yes (decide_eq_true hlt) ?_
    refine for_round' (i : Int) (c.length : Int) (fun j (_ : Unit) => (c, tx (Lib.join ws [32]), (i : Int), j, ())) (fun j _ => ∀ u : Nat, i ≤ u → (u : Int) < j → g c u = g c i) (b0 := ()) rfl (by omega) (fun u h1 h2 => absurd h2 (by omega)) ?_ ?_
    · intro j' _ h2 h3' hP
      obtain ⟨j, rfl⟩ : ∃ j : Nat, j' = j := ⟨j'.toNat, by omega⟩
      have a1 := g_idx (l := c) (i := (j : Int)) (by omega) (by omega)
      have a2 := g_idx (l := c) (i := (i : Int)) (by omega) (by omega)
      rw [Int.toNat_natCast] at a1 a2
      refine Round.yes (decide_eq_true h3') (Round.at a1.idx (Round.at a2.idx ?_))
      by_cases heq : g c j = g c i
      · refine Round.yes (by simp [heq]) (Round.inr _ ⟨(), by rw [wr_succ (by omega) h3' (by omega)], fun u h1 h2 => ?_⟩)
        by_cases hu : u = j
        · rw [hu, heq]
        · exact hP u h1 (by omega)
      · have hj1 : i < j := by
          apply Classical.byContradiction
          intro h
          exact heq (by rw [show j = i by omega])
        have hj2 : j ≤ c.length := by omega
        have h3 : ∀ u, i ≤ u → u < j → g c u = g c i := fun u h1 h2 => hP u h1 (by omega)
        have h4 : j = c.length ∨ g c j ≠ g c i := .inr heq
        refine Round.no (by simp [heq]) ?_
        have hv := g_idx (l := c) (i := (i : Int)) (by omega) (by omega)
        rw [Int.toNat_natCast] at hv
        have hvb := hC _ hv.mem
        obtain ⟨v, hv2⟩ : ∃ v : Nat, g c i = v := ⟨(g c i).toNat, by omega⟩
        have hd := rle_drop hj1 hj2 h3 h4
        have e1 : wr .i64 (g c i) = (v : Int) := by rw [hv2]; exact wrap_id (by omega) (by omega)
        have e2 : wr .i64 ((j : Int) - (i : Int)) = ((j - i : Nat) : Int) := by rw [wrap_id (by omega) (by omega)]; omega
        have hD1 := e60 v (by omega)
        have hD2 := e60 (j - i) (by omega)
        have z1 := dec_len (u := v) (by omega)
        have z2 := dec_len (u := j - i) (by omega)
        have hw : wordL (g c i, j - i) = if j - i > 1 then Lib.decDigits v ++ 42 :: Lib.decDigits (j - i) else Lib.decDigits v := by unfold wordL; rw [hv2]; rfl
        have hwl := wordL_len (x := (g c i, j - i)) (by show g c i ≤ _; omega) (by show j - i ≤ _; omega)
        have next : ∀ w, w = wordL (g c i, j - i) → (ws ++ [w]) ++ (rle (c.drop j)).map wordL = (rle c).map wordL ∧ (ws ++ [w]).length ≤ j ∧ (∀ u ∈ ws ++ [w], u.length ≤ 43) ∧ (0 < j → ws ++ [w] ≠ []) := fun w hw => by
          refine ⟨?_, by simp; omega, fun u hu => ?_, fun _ => by simp⟩
          · rw [← hws, hd, hw]; simp
          · rcases List.mem_append.1 hu with hu | hu
            · exact hl43 u hu
            · simp at hu; rw [hu, hw]; exact hwl
        simp only [e1, e2]
        refine Round.ite (fun h0 => ?_) (fun h0 => ?_)
        · have h0 : 0 < i := by have := of_decide_eq_true h0; omega
          have hne := hne0 h0
          simp only [c32, c42]
          refine Round.chk (szT (by omega) (by simp)) (Round.at hv.idx ?_)
          simp only [e1, e2, tx_app]
          refine Round.bind hD1 ?_
          simp only [tx_app]
          refine Round.chk (szT (by simp; omega) (by omega)) ?_
          by_cases hk : j - i > 1
          · refine Round.yes (decide_eq_true (by omega)) (Round.bind hD2 ?_)
            simp only [tx_app]
            refine Round.chk (szT (by simp) (by omega)) (Round.chk (szT (by simp; omega) (by simp; omega)) (Round.inl _ ⟨⟨j, ws ++ [wordL (g c i, j - i)], ?_, hj2, next _ rfl⟩, ?_⟩))
            · rw [join_snoc hne, hw, if_pos hk]; simp
            · show c.length - (j : Int).toNat < c.length - (i : Int).toNat
              omega
          · refine Round.no (by simp; omega) (Round.inl _ ⟨⟨j, ws ++ [wordL (g c i, j - i)], ?_, hj2, next _ rfl⟩, ?_⟩)
            · rw [join_snoc hne, hw, if_neg hk]; simp
            · show c.length - (j : Int).toNat < c.length - (i : Int).toNat
              omega
        · have h0 : i = 0 := by have : ¬ ((i : Int) > 0) := by simpa using h0
                                omega
          have hws0 : ws = [] := List.length_eq_zero_iff.1 (by omega)
          refine Round.at hv.idx ?_
          simp only [e1, e2]
          refine Round.bind hD1 ?_
          simp only [c42, tx_app]
          refine Round.chk (szT (by omega) (by omega)) ?_
          by_cases hk : j - i > 1
          · refine Round.yes (decide_eq_true (by omega)) (Round.bind hD2 ?_)
            simp only [tx_app]
            refine Round.chk (szT (by simp) (by omega)) (Round.chk (szT (by simp; omega) (by simp; omega)) (Round.inl _ ⟨⟨j, ws ++ [wordL (g c i, j - i)], ?_, hj2, next _ rfl⟩, ?_⟩))
            · rw [hws0, List.nil_append, Lib.join_one, Lib.join_nil, hw, if_pos hk]; simp
            · show c.length - (j : Int).toNat < c.length - (i : Int).toNat
              omega
          · refine Round.no (by simp; omega) (Round.inl _ ⟨⟨j, ws ++ [wordL (g c i, j - i)], ?_, hj2, next _ rfl⟩, ?_⟩)
            · rw [hws0, List.nil_append, Lib.join_one, Lib.join_nil, hw, if_neg hk]; simp
            · show c.length - (j : Int).toNat < c.length - (i : Int).toNat
              omega
    · intro _ hP
      refine Round.no (by simp) ?_
      have hj1 : i < c.length := by omega
      have hj2 : c.length ≤ c.length := Nat.le_refl _
      have h3 : ∀ u, i ≤ u → u < c.length → g c u = g c i := fun u h1 h2 => hP u h1 (by omega)
      have h4 : c.length = c.length ∨ g c c.length ≠ g c i := .inl rfl
      have hv := g_idx (l := c) (i := (i : Int)) (by omega) (by omega)
      rw [Int.toNat_natCast] at hv
      have hvb := hC _ hv.mem
      obtain ⟨v, hv2⟩ : ∃ v : Nat, g c i = v := ⟨(g c i).toNat, by omega⟩
      have hd := rle_drop hj1 hj2 h3 h4
      have e1 : wr .i64 (g c i) = (v : Int) := by rw [hv2]; exact wrap_id (by omega) (by omega)
      have e2 : wr .i64 ((c.length : Int) - (i : Int)) = ((c.length - i : Nat) : Int) := by rw [wrap_id (by omega) (by omega)]; omega
      have hD1 := e60 v (by omega)
      have hD2 := e60 (c.length - i) (by omega)
      have z1 := dec_len (u := v) (by omega)
      have z2 := dec_len (u := c.length - i) (by omega)
      have hw : wordL (g c i, c.length - i) = if c.length - i > 1 then Lib.decDigits v ++ 42 :: Lib.decDigits (c.length - i) else Lib.decDigits v := by unfold wordL; rw [hv2]; rfl
      have hwl := wordL_len (x := (g c i, c.length - i)) (by show g c i ≤ _; omega) (by show c.length - i ≤ _; omega)
      have next : ∀ w, w = wordL (g c i, c.length - i) → (ws ++ [w]) ++ (rle (c.drop c.length)).map wordL = (rle c).map wordL ∧ (ws ++ [w]).length ≤ c.length ∧ (∀ u ∈ ws ++ [w], u.length ≤ 43) ∧ (0 < c.length → ws ++ [w] ≠ []) := fun w hw => by
        refine ⟨?_, by simp; omega, fun u hu => ?_, fun _ => by simp⟩
        · rw [← hws, hd, hw]; simp
        · rcases List.mem_append.1 hu with hu | hu
          · exact hl43 u hu
          · simp at hu; rw [hu, hw]; exact hwl
      simp only [e1, e2]
      refine Round.ite (fun h0 => ?_) (fun h0 => ?_)
      · have h0 : 0 < i := by have := of_decide_eq_true h0; omega
        have hne := hne0 h0
        simp only [c32, c42]
        refine Round.chk (szT (by omega) (by simp)) (Round.at hv.idx ?_)
        simp only [e1, e2, tx_app]
        refine Round.bind hD1 ?_
        simp only [tx_app]
        refine Round.chk (szT (by simp; omega) (by omega)) ?_
        by_cases hk : c.length - i > 1
        · refine Round.yes (decide_eq_true (by omega)) (Round.bind hD2 ?_)
          simp only [tx_app]
          refine Round.chk (szT (by simp) (by omega)) (Round.chk (szT (by simp; omega) (by simp; omega)) (Round.inl _ ⟨⟨c.length, ws ++ [wordL (g c i, c.length - i)], ?_, hj2, next _ rfl⟩, ?_⟩))
          · rw [join_snoc hne, hw, if_pos hk]; simp
          · show c.length - (c.length : Int).toNat < c.length - (i : Int).toNat
            omega
        · refine Round.no (by simp; omega) (Round.inl _ ⟨⟨c.length, ws ++ [wordL (g c i, c.length - i)], ?_, hj2, next _ rfl⟩, ?_⟩)
          · rw [join_snoc hne, hw, if_neg hk]; simp
          · show c.length - (c.length : Int).toNat < c.length - (i : Int).toNat
            omega
      · have h0 : i = 0 := by have : ¬ ((i : Int) > 0) := by simpa using h0
                              omega
        have hws0 : ws = [] := List.length_eq_zero_iff.1 (by omega)
        refine Round.at hv.idx ?_
        simp only [e1, e2]
        refine Round.bind hD1 ?_
        simp only [c42, tx_app]
        refine Round.chk (szT (by omega) (by omega)) ?_
        by_cases hk : c.length - i > 1
        · refine Round.yes (decide_eq_true (by omega)) (Round.bind hD2 ?_)
          simp only [tx_app]
          refine Round.chk (szT (by simp) (by omega)) (Round.chk (szT (by simp; omega) (by simp; omega)) (Round.inl _ ⟨⟨c.length, ws ++ [wordL (g c i, c.length - i)], ?_, hj2, next _ rfl⟩, ?_⟩))
          · rw [hws0, List.nil_append, Lib.join_one, Lib.join_nil, hw, if_pos hk]; simp
          · show c.length - (c.length : Int).toNat < c.length - (i : Int).toNat
            omega
        · refine Round.no (by simp; omega) (Round.inl _ ⟨⟨c.length, ws ++ [wordL (g c i, c.length - i)], ?_, hj2, next _ rfl⟩, ?_⟩)
          · rw [hws0, List.nil_append, Lib.join_one, Lib.join_nil, hw, if_neg hk]; simp
          · show c.length - (c.length : Int).toNat < c.length - (i : Int).toNat
            omega
  · have hi : i = c.length := by omega
    refine Round.no (by simp; omega) (Round.done ?_)
    rw [hi, List.drop_length] at hws
    have : ws = (rle c).map wordL := by simpa [rle] using hws
    rw [this]
    exact Evt.some _
/- spec.l07Text -/
theorem e47 (m : Mch) (hR : RngM m) (G : GoodM m) : Evt (fun n => call T C n 47 (m, ())) ((machT m, ()), ()) := by
  have hx := okC_len G.x
  have hy := okC_len G.y
  have hp := okC_len G.p
  have l1 := camJ_len (c := m.1) (by omega) (okC_el G.x hR.x)
  have l2 := camJ_len (c := m.2.1) (by omega) (okC_el G.y hR.y)
  have l3 := camJ_len (c := m.2.2.1) (by omega) (okC_el G.p hR.p)
  refine Evt.next (Evt.bind (e35 (by omega) (okC_el G.x hR.x)) ?_) (fun n => r47 n m)
  simp only [machC, tx_app]
  refine Evt.chk (szT (by simp) (by omega)) (Evt.chk (szT (by simp; omega) (by simp)) (Evt.bind (e35 (by omega) (okC_el G.y hR.y)) ?_))
  simp only [tx_app]
  refine Evt.chk (szT (by simp; omega) (by omega)) (Evt.chk (szT (by simp; omega) (by simp)) (Evt.bind (e35 (by omega) (okC_el G.p hR.p)) ?_))
  simp only [tx_app]
  exact Evt.chk (szT (by simp; omega) (by omega)) (Evt.chk (szT (by simp; omega) (by simp)) (Evt.some _))
/- spec.MachineText -/
theorem e21 (m : Mch) (hR : RngM m) : Evt (fun n => call T C n 21 (m, ())) ((mtR m, ()), ()) := by
  refine Evt.next (Evt.bind (e46 m hR) ?_) (fun n => r21 n m)
  unfold mtR
  cases h : okM m with
  | false => exact Evt.yes rfl (Evt.some _)
  | true => exact Evt.no (by simp) (Evt.bind (e47 m hR (goodM h)) (Evt.some _))
/- (impl.Cam).steps -/
theorem e62 (a : List Int) : Evt (fun n => call T C n 62 (a, ())) (((a.length : Int), ()), ()) := Evt.next (Evt.some _) (fun n => r62 n a)
/- impl.inRange -/
theorem e72 (a b c : Int) : Evt (fun n => call T C n 72 (a, b, c, ())) ((inR a b c, ()), ()) := by
  refine Evt.next ?_ (fun n => r72 n a b c)
  refine Evt.ite (fun h => ?_) (fun h => ?_)
  · refine (Evt.some _).of_eq fun n => ?_
    have h : b ≤ a := of_decide_eq_true h
    simp [inR, h]
    rfl
  · refine (Evt.some _).of_eq fun n => ?_
    have h : ¬ b ≤ a := by simpa using h
    simp [inR, h]
    rfl
/- impl.isSteps -/
theorem e61 (a : Int) : Evt (fun n => call T C n 61 (a, ())) ((inR a 8 360, ()), ()) := Evt.next (Evt.bind (e72 a 8 360) (Evt.some _)) (fun n => r61 n a)
/- impl.isLift -/
theorem e65 (a : Int) : Evt (fun n => call T C n 65 (a, ())) ((inR a 0 10000, ()), ()) := Evt.next (Evt.bind (e72 a 0 10000) (Evt.some _)) (fun n => r65 n a)
/- impl.ValidCam$1 -/
theorem e64 (v : Int) : Evt (fun n => call T C n 64 (v, ())) ((!okV v, ()), ()) := Evt.next (Evt.bind (e65 _) (Evt.some _)) (fun n => r64 n v)
/- slices.IndexFunc[impl.Cam,int16]{impl.ValidCam$1} -/
theorem e88 (l : List Int) (hl : (l.length : Int) ≤ 140737488351232) : Evt (fun n => call T C n 88 (l, ((), ()), ())) ((fi (fun v => !okV v) l 0, ()), ()) := by
  refine Evt.next ?_ (fun n => r88 n l ((), ()))
  refine loop_evt (fun (x : List Int × (Unit × Unit) × Int × Int × Unit) => x.1 = l ∧ x.2.2.1 = (l.length : Int) ∧ 0 ≤ x.2.2.2.1 ∧ x.2.2.2.1 ≤ (l.length : Int) ∧ fi (fun v => !okV v) l 0 = fi (fun v => !okV v) (l.drop x.2.2.2.1.toNat) x.2.2.2.1) (fun (x : List Int × (Unit × Unit) × Int × Int × Unit) => ((l.length : Int) - x.2.2.2.1).toNat) (x := (l, ((), ()), (l.length : Int), 0, ())) ⟨rfl, rfl, Int.le_refl _, by simp, by simp⟩ ?_
  rintro ⟨x1, u, m, i, _⟩ ⟨h', hm, h0, h1, h2⟩
  simp only at h' hm h0 h1 h2
  subst h'; subst hm
  refine Round.ite (fun hlt => ?_) (fun hge => ?_)
  · have hlt : i < (x1.length : Int) := of_decide_eq_true hlt
    obtain ⟨v, hv, hv'⟩ := idx_at h0 hlt
    have hd := drop_cons hv'
    refine Round.at hv (Round.bind (e64 _) (Round.ite (fun hb => ?_) (fun hb => ?_)))
    · have hb : okV v = false := by simpa using hb
      have h3 : fi (fun v => !okV v) x1 0 = i := by rw [h2, hd]; simp [fi, hb]
      rw [h3]
      exact Round.done (Evt.some _)
    · have hb : okV v = true := by simpa using hb
      have hw : wr .i64 (i + 1) = i + 1 := wrap_id (by omega) (by omega)
      refine Round.again _ ⟨⟨rfl, rfl, ?_, ?_, ?_⟩, ?_⟩ <;> simp only [hw]
      · omega
      · omega
      · rw [h2, hd, show (i + 1).toNat = i.toNat + 1 by omega]
        simp [fi, hb]
      · omega
  · have hge : ¬ i < (x1.length : Int) := by simpa using hge
    have : x1.drop i.toNat = [] := List.drop_of_length_le (by omega)
    rw [h2, this]
    exact Round.done (Evt.some _)
/- slices.ContainsFunc[impl.Cam,int16]{impl.ValidCam$1} -/
theorem e63 (l : List Int) (hl : (l.length : Int) ≤ 140737488351232) : Evt (fun n => call T C n 63 (l, ((), ()), ())) ((l.any (fun v => !okV v), ()), ()) := by
  refine Evt.next (Evt.bind (e88 l hl) ((Evt.some _).of_eq fun n => ?_)) (fun n => r63 n l ((), ()))
  simp only [fi_any _ l 0 (Int.le_refl _)]
  rfl
/- impl.ValidCam -/
theorem e36 (l : List Int) (hl : (l.length : Int) ≤ 140737488351232) : Evt (fun n => call T C n 36 (l, ())) ((okC l, ()), ()) := by
  refine Evt.next (Evt.bind (e62 l) (Evt.bind (e61 _) ?_)) (fun n => r36 n l)
  refine Evt.ite (fun h => ?_) (fun h => ?_)
  · refine Evt.bind (e63 l hl) ((Evt.some _).of_eq fun n => ?_)
    have h : inR (l.length : Int) 8 360 = true := h
    have : okC l = !l.any (fun v => !okV v) := by simp [okC, h, List.any_eq_not_all_not]
    rw [this]
    rfl
  · refine (Evt.some _).of_eq fun n => ?_
    have h : inR (l.length : Int) 8 360 = false := by simpa using h
    simp [okC, h]
    rfl
/- slices.Max[impl.Cam,int16] -/
theorem e79 (l : List Int) (hr : Rng l) (h0 : 0 < (l.length : Int)) : Evt (fun n => call T C n 79 (l, ())) ((mxL l, ()), ()) := by
  have hlen := hr.len'
  obtain ⟨v0, hv0⟩ := at_of (l := l) (Int.le_refl 0) h0
  refine Evt.next (Evt.no (by simp; omega) (Evt.at hv0.idx ?_)) (fun n => r79 n l)
  have hh := (head_at hv0).1
  refine for_evt' 1 (l.length : Int) (fun i (_ : Unit) => (l, mxF (l.take i.toNat) v0, i, ())) (fun _ _ => True) (b0 := ()) (by
    have := (head_at hv0).2
    show _ = (l, mxF (l.take 1) v0, 1, ())
    rw [this]; simp [mxF]) (by omega) trivial ?_ ?_
  · intro i _ h2 h3 _
    obtain ⟨v, hv⟩ := at_of (l := l) (show 0 ≤ i by omega) h3
    simp only [wrap_id (x := i + 1) (by omega) (by omega)]
    refine Round.yes (decide_eq_true h3) (Round.at hv.idx (Round.again _ ⟨(), ?_, trivial⟩))
    rw [hv.take, mxF_snoc]
    congr 2
    split <;> omega
  · intro _ _
    have e2 : mxF (l.take (l.length : Int).toNat) v0 = mxL l := by rw [take_all, mxL, hh]
    simp only [e2]
    exact Round.no (by simp) (Round.done (Evt.some _))
/- impl.ValidMachine -/
theorem e48 (m : Mch) (h : RngM m) : Evt (fun n => call T C n 48 (m, ())) ((okM m, ()), ()) := by
  have hx := h.x.len'
  have hy := h.y.len'
  have hp := h.p.len'
  refine Evt.next (Evt.at (x := ([] : List Int)) rfl (Evt.at (x := ([] : List Int)) rfl ?_)) (fun n => r48 n m)
  show Evt (fun n => loopK _ n (m, [m.1, m.2.1], 0, ())) _
  have one : ∀ (c : List Int) (hr : Rng c) (i : Int) (rest : Bool), i = 0 ∨ i = 1 → idx [m.1, m.2.1] i = some c → okM m = (mv c && ((c.length : Int) == (m.2.2.1.length : Int)) && rest) → ∀ {P : (Mch × List (List Int) × Int × Unit) → Prop}, (mv c = true → c.length = m.2.2.1.length → P (m, [m.1, m.2.1], wr .i64 (i + 1), ())) →
      Round (σ := Mch × List (List Int) × Int × Unit) (fun n ag => (idx [m.1, m.2.1] i).bind fun v6 => (call T C n 36 (v6, ())).bind fun r7 => if (!r7.1.1) = true then some ((false, ()), ()) else if (bif false then true else ((v6.length : Int) != (m.2.2.1.length : Int))) = true then some ((false, ()), ()) else (call T C n 79 (v6, ())).bind fun r8 => if (bif false then true else decide (r8.1.1 ≥ 64)) = true then some ((false, ()), ()) else ag (m, [m.1, m.2.1], wr .i64 (i + 1), ())) ((okM m, ()), ()) P := by
    intro c hr i rest _ hi he P hP
    have hc := hr.len'
    refine Round.at hi (Round.bind (e36 c (by omega)) ?_)
    cases hok : okC c with
    | false =>
      have : okM m = false := by rw [he]; simp [mv, hok]
      rw [this]
      exact Round.yes rfl (Round.done (Evt.some _))
    | true =>
      have hl := okC_len hok
      refine Round.no (by simp) (Round.ite (fun hb => ?_) (fun hb => ?_))
      · have hb : ¬ (c.length : Int) = m.2.2.1.length := by simpa using hb
        have : okM m = false := by
          rw [he]
          have : ((c.length : Int) == (m.2.2.1.length : Int)) = false := by simpa using hb
          simp [this]
        rw [this]
        exact Round.done (Evt.some _)
      · have hb : c.length = m.2.2.1.length := by
          have : (c.length : Int) = m.2.2.1.length := by simpa using hb
          omega
        refine Round.bind (e79 c hr (by omega)) (Round.ite (fun hg => ?_) (fun hg => ?_))
        · have hg : mxL c ≥ 64 := of_decide_eq_true hg
          have : okM m = false := by
            rw [he]
            have : mv c = false := by simp [mv]; intro; omega
            simp [this]
          rw [this]
          exact Round.done (Evt.some _)
        · have hg : ¬ mxL c ≥ 64 := by simpa using hg
          exact Round.again _ (hP (by simp [mv, hok]; omega) hb)
  refine for_evt' 0 2 (fun i (_ : Unit) => (m, [m.1, m.2.1], i, ())) (fun i _ => (0 < i → mv m.1 = true ∧ m.1.length = m.2.2.1.length) ∧ (1 < i → mv m.2.1 = true ∧ m.2.1.length = m.2.2.1.length)) (b0 := ()) rfl (by omega) ⟨by omega, by omega⟩ ?_ ?_
  · intro i _ h2 h3 ⟨p1, p2⟩
    refine Round.yes (decide_eq_true h3) ?_
    have hi : i = 0 ∨ i = 1 := by omega
    rcases hi with rfl | rfl
    · refine one m.1 h.x 0 (mv m.2.1 && okC m.2.2.1 && ((m.1.length : Int) == (m.2.1.length : Int))) (.inl rfl) rfl ?_ (fun q1 q2 => ⟨(), rfl, fun _ => ⟨q1, q2⟩, by omega⟩)
      unfold okM
      cases mv m.1 <;> cases mv m.2.1 <;> cases okC m.2.2.1 <;> cases ((m.1.length : Int) == (m.2.1.length : Int)) <;> cases ((m.1.length : Int) == (m.2.2.1.length : Int)) <;> rfl
    · obtain ⟨p3, p4⟩ := p1 (by omega)
      refine one m.2.1 h.y 1 (okC m.2.2.1) (.inr rfl) rfl ?_ (fun q1 q2 => ⟨(), rfl, fun _ => ⟨p3, p4⟩, fun _ => ⟨q1, q2⟩⟩)
      unfold okM
      rw [p3, p4]
      have : ((m.2.2.1.length : Int) == (m.2.1.length : Int)) = ((m.2.1.length : Int) == (m.2.2.1.length : Int)) := BEq.comm
      rw [this]
      cases mv m.2.1 <;> cases okC m.2.2.1 <;> cases ((m.2.1.length : Int) == (m.2.2.1.length : Int)) <;> simp
  · intro _ ⟨p1, p2⟩
    obtain ⟨q1, q2⟩ := p1 (by omega)
    obtain ⟨q3, q4⟩ := p2 (by omega)
    have : okM m = okC m.2.2.1 := by
      unfold okM
      rw [q1, q3, q2, q4]
      simp
    rw [this]
    exact Round.no (by simp) (Round.done (Evt.bind (e36 m.2.2.1 (by omega)) (Evt.some _)))
/- strconv.FormatInt -/
theorem e66 (u : Nat) (h : u ≤ 9223372036854775807) : Evt (fun n => call T C n 66 ((u : Int), 10, ())) ((tx (Lib.decDigits u), ()), ()) := by
  refine Evt.next ?_ (fun n => r66 n u 10)
  dsimp only
  rw [if_pos ⟨rfl, by omega, by omega⟩, Lib.itoa_nonneg]
  exact Evt.some _
/- impl.decimal -/
theorem e37 (u : Nat) (h : u ≤ 9223372036854775807) : Evt (fun n => call T C n 37 ((u : Int), ())) ((tx (Lib.decDigits u), ()), ()) :=
  Evt.next (Evt.bind (e66 u h) (Evt.some _)) (fun n => r37 n u)
/- strings.Join -/
theorem e38 (ws : List (List UInt8)) (s : List UInt8) (h1 : ws.length ≤ 1000000) (h2 : (Lib.join ws s).length ≤ 1000000000) : Evt (fun n => call T C n 38 (ws.map tx, tx s, ())) ((tx (Lib.join ws s), ()), (ws.map tx, ())) := by
  refine Evt.next ?_ (fun n => r38 n (ws.map tx) (tx s))
  have e : (ws.map tx).map (fun s => s.data.toList) = ws := by
    rw [List.map_map]
    exact (List.map_congr_left fun a _ => rfl).trans (List.map_id ws)
  dsimp only
  rw [e]
  show Evt (fun n => if (ws.map tx).length ≤ 140737488355328 ∧ (Lib.join ws s).length ≤ 140737488355328 then some ((tx (Lib.join ws s), ()), (ws.map tx, ())) else none) _
  rw [if_pos ⟨by simp; omega, by omega⟩]
  exact Evt.some _
/- impl.CamText -/
theorem e13 (c : List Int) (hr : Rng c) : Evt (fun n => call T C n 13 (c, ())) ((camT c, ()), ()) := by
  have hcl := hr.len'
  refine Evt.next (Evt.bind (e36 c (by omega)) ?_) (fun n => r13 n c)
  unfold camT
  cases h : okC c with
  | false => exact Evt.yes rfl (Evt.some _)
  | true =>
    have hl := okC_len h
    have hC := okC_el h hr
    have c32 : (⟨#[32]⟩ : ByteArray) = tx [32] := rfl
    have c42 : (⟨#[42]⟩ : ByteArray) = tx [42] := rfl
    refine Evt.no (by simp) ?_
    refine loop_evt (fun x => ∃ (i : Nat) (ws : List (List UInt8)), x = (c, ws.map tx, (i : Int), ()) ∧ i ≤ c.length ∧ ws ++ (rle (c.drop i)).map wordL = (rle c).map wordL ∧ ws.length ≤ i ∧ (∀ w ∈ ws, w.length ≤ 43) ∧ (0 < i → ws ≠ [])) (fun x => c.length - x.2.2.1.toNat) ⟨0, [], rfl, by omega, by simp, by simp, by simp, by simp⟩ ?_
    rintro x ⟨i, ws, rfl, hi, hws, hwl0, hl43, hne0⟩
    have hJ := join_len [32] ws hl43
    simp only [List.length_cons, List.length_nil] at hJ
    have hJ : (Lib.join ws [32]).length ≤ 1000000 := by omega
    by_cases hlt : i < c.length
    · have hlt : (i : Int) < (c.length : Int) := by omega
      refine Round.yes (decide_eq_true hlt) ?_
      refine for_round' (i : Int) (c.length : Int) (fun j (_ : Unit) => (c, ws.map tx, (i : Int), j, ())) (fun j _ => ∀ u : Nat, i ≤ u → (u : Int) < j → g c u = g c i) (b0 := ()) rfl (by omega) (fun u h1 h2 => absurd h2 (by omega)) ?_ ?_
      · intro j' _ h2 h3' hP
        obtain ⟨j, rfl⟩ : ∃ j : Nat, j' = j := ⟨j'.toNat, by omega⟩
        have a1 := g_idx (l := c) (i := (j : Int)) (by omega) (by omega)
        have a2 := g_idx (l := c) (i := (i : Int)) (by omega) (by omega)
        rw [Int.toNat_natCast] at a1 a2
        refine Round.yes (decide_eq_true h3') (Round.at a1.idx (Round.at a2.idx ?_))
        by_cases heq : g c j = g c i
        · refine Round.yes (by simp [heq]) (Round.inr _ ⟨(), by rw [wr_succ (by omega) h3' (by omega)], fun u h1 h2 => ?_⟩)
          by_cases hu : u = j
          · rw [hu, heq]
          · exact hP u h1 (by omega)
        · have hj1 : i < j := by
            apply Classical.byContradiction
            intro h
            exact heq (by rw [show j = i by omega])
          have hj2 : j ≤ c.length := by omega
          have h3 : ∀ u, i ≤ u → u < j → g c u = g c i := fun u h1 h2 => hP u h1 (by omega)
          have h4 : j = c.length ∨ g c j ≠ g c i := .inr heq
          refine Round.no (by simp [heq]) ?_
          have hv := g_idx (l := c) (i := (i : Int)) (by omega) (by omega)
          rw [Int.toNat_natCast] at hv
          have hvb := hC _ hv.mem
          obtain ⟨v, hv2⟩ : ∃ v : Nat, g c i = v := ⟨(g c i).toNat, by omega⟩
          have hd := rle_drop hj1 hj2 h3 h4
          have e1 : wr .i64 (g c i) = (v : Int) := by rw [hv2]; exact wrap_id (by omega) (by omega)
          have e2 : wr .i64 ((j : Int) - (i : Int)) = ((j - i : Nat) : Int) := by rw [wrap_id (by omega) (by omega)]; omega
          have hD1 := e37 v (by omega)
          have hD2 := e37 (j - i) (by omega)
          have z1 := dec_len (u := v) (by omega)
          have z2 := dec_len (u := j - i) (by omega)
          have hw : wordL (g c i, j - i) = if j - i > 1 then Lib.decDigits v ++ 42 :: Lib.decDigits (j - i) else Lib.decDigits v := by unfold wordL; rw [hv2]; rfl
          have hwl := wordL_len (x := (g c i, j - i)) (by show g c i ≤ _; omega) (by show j - i ≤ _; omega)
          have next : ∀ w, w = wordL (g c i, j - i) → (ws ++ [w]) ++ (rle (c.drop j)).map wordL = (rle c).map wordL ∧ (ws ++ [w]).length ≤ j ∧ (∀ u ∈ ws ++ [w], u.length ≤ 43) ∧ (0 < j → ws ++ [w] ≠ []) := fun w hw => by
            refine ⟨?_, by simp; omega, fun u hu => ?_, fun _ => by simp⟩
            · rw [← hws, hd, hw]; simp
            · rcases List.mem_append.1 hu with hu | hu
              · exact hl43 u hu
              · simp at hu; rw [hu, hw]; exact hwl
          refine Round.at hv.idx ?_
          simp only [e1, e2]
          refine Round.bind hD1 ?_
          have hml : (ws.map tx).length = ws.length := by simp
          by_cases hk : j - i > 1
          · refine Round.yes (decide_eq_true (by omega)) (Round.bind hD2 ?_)
            simp only [c42, tx_app]
            refine Round.chk (szT (by simp) (by omega)) (Round.chk (szT (by omega) (by simp; omega)) (Round.chk (by simp; omega) (Round.inl _ ⟨⟨j, ws ++ [wordL (g c i, j - i)], ?_, hj2, next _ rfl⟩, ?_⟩)))
            · rw [hw, if_pos hk]; simp
            · show c.length - (j : Int).toNat < c.length - (i : Int).toNat
              omega
          · refine Round.no (by simp; omega) (Round.chk (by simp; omega) (Round.inl _ ⟨⟨j, ws ++ [wordL (g c i, j - i)], ?_, hj2, next _ rfl⟩, ?_⟩))
            · rw [hw, if_neg hk]; simp
            · show c.length - (j : Int).toNat < c.length - (i : Int).toNat
              omega
      · intro _ hP
        refine Round.no (by simp) ?_
        have hj1 : i < c.length := by omega
        have hj2 : c.length ≤ c.length := Nat.le_refl _
        have h3 : ∀ u, i ≤ u → u < c.length → g c u = g c i := fun u h1 h2 => hP u h1 (by omega)
        have h4 : c.length = c.length ∨ g c c.length ≠ g c i := .inl rfl
        have hv := g_idx (l := c) (i := (i : Int)) (by omega) (by omega)
        rw [Int.toNat_natCast] at hv
        have hvb := hC _ hv.mem
        obtain ⟨v, hv2⟩ : ∃ v : Nat, g c i = v := ⟨(g c i).toNat, by omega⟩
        have hd := rle_drop hj1 hj2 h3 h4
        have e1 : wr .i64 (g c i) = (v : Int) := by rw [hv2]; exact wrap_id (by omega) (by omega)
        have e2 : wr .i64 ((c.length : Int) - (i : Int)) = ((c.length - i : Nat) : Int) := by rw [wrap_id (by omega) (by omega)]; omega
        have hD1 := e37 v (by omega)
        have hD2 := e37 (c.length - i) (by omega)
        have z1 := dec_len (u := v) (by omega)
        have z2 := dec_len (u := c.length - i) (by omega)
        have hw : wordL (g c i, c.length - i) = if c.length - i > 1 then Lib.decDigits v ++ 42 :: Lib.decDigits (c.length - i) else Lib.decDigits v := by unfold wordL; rw [hv2]; rfl
        have hwl := wordL_len (x := (g c i, c.length - i)) (by show g c i ≤ _; omega) (by show c.length - i ≤ _; omega)
        have next : ∀ w, w = wordL (g c i, c.length - i) → (ws ++ [w]) ++ (rle (c.drop c.length)).map wordL = (rle c).map wordL ∧ (ws ++ [w]).length ≤ c.length ∧ (∀ u ∈ ws ++ [w], u.length ≤ 43) ∧ (0 < c.length → ws ++ [w] ≠ []) := fun w hw => by
          refine ⟨?_, by simp; omega, fun u hu => ?_, fun _ => by simp⟩
          · rw [← hws, hd, hw]; simp
          · rcases List.mem_append.1 hu with hu | hu
            · exact hl43 u hu
            · simp at hu; rw [hu, hw]; exact hwl
        refine Round.at hv.idx ?_
        simp only [e1, e2]
        refine Round.bind hD1 ?_
        have hml : (ws.map tx).length = ws.length := by simp
        by_cases hk : c.length - i > 1
        · refine Round.yes (decide_eq_true (by omega)) (Round.bind hD2 ?_)
          simp only [c42, tx_app]
          refine Round.chk (szT (by simp) (by omega)) (Round.chk (szT (by omega) (by simp; omega)) (Round.chk (by simp; omega) (Round.inl _ ⟨⟨c.length, ws ++ [wordL (g c i, c.length - i)], ?_, hj2, next _ rfl⟩, ?_⟩)))
          · rw [hw, if_pos hk]; simp
          · show c.length - (c.length : Int).toNat < c.length - (i : Int).toNat
            omega
        · refine Round.no (by simp; omega) (Round.chk (by simp; omega) (Round.inl _ ⟨⟨c.length, ws ++ [wordL (g c i, c.length - i)], ?_, hj2, next _ rfl⟩, ?_⟩))
          · rw [hw, if_neg hk]; simp
          · show c.length - (c.length : Int).toNat < c.length - (i : Int).toNat
            omega
    · have hi : i = c.length := by omega
      refine Round.no (by simp; omega) (Round.done ?_)
      rw [hi, List.drop_length] at hws
      have hw2 : ws = (rle c).map wordL := by simpa [rle] using hws
      rw [if_pos rfl]
      unfold camJ
      rw [← hw2, c32]
      exact Evt.bind (e38 ws [32] (by omega) (by omega)) (Evt.some _)
/- impl.MachineText -/
theorem e23 (m : Mch) (hR : RngM m) : Evt (fun n => call T C n 23 (m, ())) ((mtR m, ()), ()) := by
  refine Evt.next (Evt.bind (e48 m hR) ?_) (fun n => r23 n m)
  unfold mtR
  cases h : okM m with
  | false => exact Evt.yes rfl (Evt.some _)
  | true =>
    have G := goodM h
    have hx := okC_len G.x
    have hy := okC_len G.y
    have hp := okC_len G.p
    have l1 := camJ_len (c := m.1) (by omega) (okC_el G.x hR.x)
    have l2 := camJ_len (c := m.2.1) (by omega) (okC_el G.y hR.y)
    have l3 := camJ_len (c := m.2.2.1) (by omega) (okC_el G.p hR.p)
    have t1 : camT m.1 = tx (camJ m.1) := if_pos G.x
    have t2 : camT m.2.1 = tx (camJ m.2.1) := if_pos G.y
    have t3 : camT m.2.2.1 = tx (camJ m.2.2.1) := if_pos G.p
    refine Evt.no (by simp) (Evt.bind (e13 m.1 hR.x) ?_)
    simp only [t1, machC, tx_app]
    refine Evt.chk (szT (by simp) (by omega)) (Evt.chk (szT (by simp; omega) (by simp)) (Evt.bind (e13 m.2.1 hR.y) ?_))
    simp only [t2, tx_app]
    refine Evt.chk (szT (by simp; omega) (by omega)) (Evt.chk (szT (by simp; omega) (by simp)) (Evt.bind (e13 m.2.2.1 hR.p) ?_))
    simp only [t3, tx_app]
    exact Evt.chk (szT (by simp; omega) (by omega)) (Evt.chk (szT (by simp; omega) (by simp)) (Evt.some _))
/- laws.eqCam -/
theorem e14 (l : List Int) (hl : (l.length : Int) ≤ 140737488351232) : Evt (fun n => call T C n 14 (l, l, ())) ((true, ()), ()) := by
  refine Evt.next (Evt.no (by simp) ?_) (fun n => r14 n l l)
  refine for_evt 0 (l.length : Int) (fun i (_ : Unit) => (l, l, i, ())) (fun _ _ => True) (b0 := ()) (by omega) trivial ?_ ?_
  · intro i _ h2 h3 _
    obtain ⟨v, hv⟩ := at_of h2 h3
    refine Round.yes (decide_eq_true h3) (Round.at hv.idx (Round.at hv.idx (Round.no (by simp) (Round.again _ ⟨(), ?_, trivial⟩))))
    rw [wr_succ h2 h3 (by omega)]
  · intro _ _
    exact Round.no (by simp) (Round.done (Evt.some _))
/- laws.eqMachine -/
theorem e24 (m : Mch) (hx : (m.1.length : Int) ≤ 140737488351232) (hy : (m.2.1.length : Int) ≤ 140737488351232) (hp : (m.2.2.1.length : Int) ≤ 140737488351232) : Evt (fun n => call T C n 24 (m, m, ())) ((true, ()), ()) :=
  Evt.next (Evt.bind (e14 _ hx) (Evt.no (by simp) (Evt.bind (e14 _ hy) (Evt.no (by simp) (Evt.bind (e14 _ hp) (Evt.no (by simp) (Evt.some _))))))) (fun n => r24 n m m)
/- laws.FnExactMachineText -/
theorem e6 (m : Mch) (hd : DomA (C 6).params (m, ())) : Evt (fun n => call T C n 6 (m, ())) ((true, ()), ()) := by
  have hR : RngM m := rngM_of hd.1
  have hx := hR.x.len'
  have hy := hR.y.len'
  have hp := hR.p.len'
  refine Evt.next (Evt.bind (e20 m 1048576) (Evt.ite (fun _ => Evt.some _) (fun hsz => ?_))) (fun n => r6 n m)
  have hsz := szM_ok hR (by omega) (Int.le_refl _) (by simpa using hsz)
  have to1 := e22 m hR
  refine Evt.bind to1 (Evt.bind (e21 m hR) (Evt.bind to1 (Evt.bind (e23 m hR) (Evt.no (by simp) ?_))))
  exact Evt.bind to1 (Evt.bind (e24 m (by omega) (by omega) (by omega)) (Evt.no (by simp) (Evt.some _)))

end Go.Cams.YtjfkgmidnjiofaaDoorLMachineText
