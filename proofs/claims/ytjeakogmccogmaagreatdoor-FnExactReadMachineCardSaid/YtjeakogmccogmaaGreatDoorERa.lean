/- What the functions that the law reaches come to. -/
import Derived.Test.YtjeakogmccogmaaGreatDoorRRa
import Derived.Test.YtjeakogmccogmaaGreatDoorPuAll
namespace Go.Cams.YtjeakogmccogmaaGreatDoorLRa
open Go Go.Fw Go.Proofs Go.Proofs.YtjeakogmccogmaaGreatDoor.LRa
/- impl.inRange -/
theorem e78 (a b c : Int) : Evt (fun n => call T C n 78 (a, b, c, ())) ((inR a b c, ()), ()) := by
  refine Evt.next ?_ (fun n => r78 n a b c)
  refine Evt.ite (fun h => ?_) (fun h => ?_)
  · refine (Evt.some _).of_eq fun n => ?_
    have h : b ≤ a := of_decide_eq_true h
    simp [inR, h]
    rfl
  · refine (Evt.some _).of_eq fun n => ?_
    have h : ¬ b ≤ a := by simpa using h
    simp [inR, h]
    rfl
/- strings.Split -/
theorem e42 {c : UInt8} {w : List UInt8} {ws : List (List UInt8)} (h : c ∉ w) (hs : ∀ v ∈ ws, c ∉ v) (hl : (Lib.join (w :: ws) [c]).length ≤ 1000000) : Evt (fun n => call T C n 42 (tx (Lib.join (w :: ws) [c]), tx [c], ())) (((w :: ws).map tx, ()), ()) := by
  refine Evt.next ?_ (fun n => r42 n (tx (Lib.join (w :: ws) [c])) (tx [c]))
  dsimp only
  rw [if_pos ⟨by rw [tx_size]; omega, by rw [tx_size]; simp⟩, split_tx h hs]
  exact Evt.some _
theorem e42_2 (c : UInt8) (l : List UInt8) (hl : l.length ≤ 10000000) : Evt (fun n => call T C n 42 (tx l, tx [c], ())) (((splitC c l).map tx, ()), ()) := by
  refine Evt.next ?_ (fun n => r42 n (tx l) (tx [c]))
  dsimp only
  rw [if_pos ⟨by rw [tx_size]; omega, by rw [tx_size]; simp⟩, split_all]
  exact Evt.some _
/- strings.Cut -/
theorem e32 (l s : List UInt8) (hl : l.length ≤ 10000000) : Evt (fun n => call T C n 32 (tx l, tx s, ())) ((tx (Lib.cut l s).1, tx (Lib.cut l s).2.1, (Lib.cut l s).2.2, ()), ()) := by
  refine Evt.next ?_ (fun n => r32 n (tx l) (tx s))
  dsimp only
  rw [if_pos (by rw [tx_size]; omega)]
  exact Evt.some _
/- strconv.ParseInt -/
theorem e57 {u : Nat} (h : u ≤ 9223372036854775807) : Evt (fun n => call T C n 57 (tx (Lib.decDigits u), 10, 64, ())) (((u : Int), false, ()), ()) := by
  have l1 := dec_len h
  refine Evt.next ?_ (fun n => r57 n (tx (Lib.decDigits u)) 10 64)
  dsimp only
  rw [if_pos ⟨by rw [tx_size]; omega, rfl, rfl⟩, tx_list, parse_int h]
  exact Evt.some _
/- strconv.FormatInt -/
theorem e101 (u : Nat) (h : u ≤ 9223372036854775807) : Evt (fun n => call T C n 101 ((u : Int), 10, ())) ((tx (Lib.decDigits u), ()), ()) := by
  refine Evt.next ?_ (fun n => r101 n u 10)
  dsimp only
  rw [if_pos ⟨rfl, by omega, by omega⟩, Lib.itoa_nonneg]
  exact Evt.some _
theorem e101_2 (v : Int) (h0 : -9223372036854775808 ≤ v) (h1 : v ≤ 9223372036854775807) : Evt (fun n => call T C n 101 (v, 10, ())) ((tx (Lib.itoa v), ()), ()) := by
  refine Evt.next ?_ (fun n => r101 n v 10)
  dsimp only
  rw [if_pos ⟨rfl, h0, h1⟩]
  exact Evt.some _
/- impl.decimal -/
theorem e60 (u : Nat) (h : u ≤ 9223372036854775807) : Evt (fun n => call T C n 60 ((u : Int), ())) ((tx (Lib.decDigits u), ()), ()) :=
  Evt.next (Evt.bind (e101 u h) (Evt.some _)) (fun n => r60 n u)
theorem e60_2 (v : Int) (h0 : -9223372036854775808 ≤ v) (h1 : v ≤ 9223372036854775807) : Evt (fun n => call T C n 60 (v, ())) ((tx (Lib.itoa v), ()), ()) :=
  Evt.next (Evt.bind (e101_2 v h0 h1) (Evt.some _)) (fun n => r60 n v)
/- impl.number -/
theorem e77 {u : Nat} (h : u ≤ 9223372036854775807) : Evt (fun n => call T C n 77 (tx (Lib.decDigits u), ())) (((u : Int), true, ()), ()) := by
  refine Evt.next (Evt.bind (e57 h) (Evt.chk rfl (Evt.yes rfl (Evt.bind (e60 u h) ?_)))) (fun n => r77 n (tx (Lib.decDigits u)))
  simp only [beq_self_eq_true, cond_true]
  exact Evt.some _
theorem e77_2 (l : List UInt8) (hl : l.length ≤ 10000000) : Evt (fun n => call T C n 77 (tx l, ())) (((numI l).1, (numI l).2, ()), ()) := by
  have hP : Evt (fun n => call T C n 57 (tx l, 10, 64, ())) (((numI l).1, (match Lib.parseIntB 64 l with | .ok _ => false | _ => true), ()), ()) := by
    refine Evt.next ?_ (fun n => r57 n (tx l) 10 64)
    dsimp only
    rw [if_pos ⟨by rw [tx_size]; omega, rfl, rfl⟩, tx_list]
    unfold numI
    cases Lib.parseIntB 64 l <;> exact Evt.some _
  have hb := numI_bd l
  refine Evt.next (Evt.bind hP (Evt.chk rfl ?_)) (fun n => r77 n (tx l))
  have hd := e60_2 (numI l).1 hb.1 hb.2
  revert hd
  rcases h : Lib.parseIntB 64 l with v | _ | _
  · intro hd
    refine Evt.yes rfl (Evt.bind hd ?_)
    simp only [tx_toList, cond_true]
    have e1 : (numI l).2 = (Lib.itoa (numI l).1 == l) := by unfold numI; rw [h]
    rw [e1]
    exact Evt.some _
  · intro _
    have e1 : (numI l).2 = false := by unfold numI; rw [h]
    rw [e1]
    exact Evt.no (by simp) (Evt.some _)
  · intro _
    have e1 : (numI l).2 = false := by unfold numI; rw [h]
    rw [e1]
    exact Evt.no (by simp) (Evt.some _)
/- impl.isLift -/
theorem e69 (a : Int) : Evt (fun n => call T C n 69 (a, ())) ((inR a 0 10000, ()), ()) := Evt.next (Evt.bind (e78 a 0 10000) (Evt.some _)) (fun n => r69 n a)
/- (impl.Cam).steps -/
theorem e79 (a : List Int) : Evt (fun n => call T C n 79 (a, ())) (((a.length : Int), ()), ()) := Evt.next (Evt.some _) (fun n => r79 n a)
/- slices.Repeat[impl.Cam,int16] -/
theorem e80 (v k : Int) (h1 : 1 ≤ k) (h2 : k ≤ 360) : Evt (fun n => call T C n 80 ([v], k, ())) ((List.replicate k.toNat v, ()), ()) := by
  refine Evt.next ?_ (fun n => r80 n [v] k)
  dsimp only
  rw [if_pos ⟨rfl, h1, h2⟩]
  exact Evt.some _
/- impl.isSteps -/
theorem e117 (a : Int) : Evt (fun n => call T C n 117 (a, ())) ((inR a 8 360, ()), ()) := Evt.next (Evt.bind (e78 a 8 360) (Evt.some _)) (fun n => r117 n a)
/- impl.ValidCam$1 -/
theorem e119 (v : Int) : Evt (fun n => call T C n 119 (v, ())) ((!okV v, ()), ()) := Evt.next (Evt.bind (e69 _) (Evt.some _)) (fun n => r119 n v)
/- slices.IndexFunc[impl.Cam,int16]{impl.ValidCam$1} -/
theorem e149 (l : List Int) (hl : (l.length : Int) ≤ 140737488351232) : Evt (fun n => call T C n 149 (l, ((), ()), ())) ((fi (fun v => !okV v) l 0, ()), ()) := by
  refine Evt.next ?_ (fun n => r149 n l ((), ()))
  refine loop_evt (fun (x : List Int × (Unit × Unit) × Int × Int × Unit) => x.1 = l ∧ x.2.2.1 = (l.length : Int) ∧ 0 ≤ x.2.2.2.1 ∧ x.2.2.2.1 ≤ (l.length : Int) ∧ fi (fun v => !okV v) l 0 = fi (fun v => !okV v) (l.drop x.2.2.2.1.toNat) x.2.2.2.1) (fun (x : List Int × (Unit × Unit) × Int × Int × Unit) => ((l.length : Int) - x.2.2.2.1).toNat) (x := (l, ((), ()), (l.length : Int), 0, ())) ⟨rfl, rfl, Int.le_refl _, by simp, by simp⟩ ?_
  rintro ⟨x1, u, m, i, _⟩ ⟨h', hm, h0, h1, h2⟩
  simp only at h' hm h0 h1 h2
  subst h'; subst hm
  refine Round.ite (fun hlt => ?_) (fun hge => ?_)
  · have hlt : i < (x1.length : Int) := of_decide_eq_true hlt
    obtain ⟨v, hv, hv'⟩ := idx_at h0 hlt
    have hd := drop_cons hv'
    refine Round.at hv (Round.bind (e119 _) (Round.ite (fun hb => ?_) (fun hb => ?_)))
    · have hb : okV v = false := by simpa using hb
      have h3 : fi (fun v => !okV v) x1 0 = i := by rw [h2, hd]; simp [fi, hb]
      rw [h3]
      exact Round.done (Evt.some _)
    · have hb : okV v = true := by simpa using hb
      have hw : wr .i64 (i + 1) = i + 1 := wrap_id (by omega) (by omega)
      refine Round.again _ ⟨⟨rfl, rfl, ?_, ?_, ?_⟩, ?_⟩ <;> simp only [hw]
      · omega
      · omega
      · rw [h2, hd, show (i + 1).toNat = i.toNat + 1 by omega]
        simp [fi, hb]
      · omega
  · have hge : ¬ i < (x1.length : Int) := by simpa using hge
    have : x1.drop i.toNat = [] := List.drop_of_length_le (by omega)
    rw [h2, this]
    exact Round.done (Evt.some _)
/- slices.ContainsFunc[impl.Cam,int16]{impl.ValidCam$1} -/
theorem e118 (l : List Int) (hl : (l.length : Int) ≤ 140737488351232) : Evt (fun n => call T C n 118 (l, ((), ()), ())) ((l.any (fun v => !okV v), ()), ()) := by
  refine Evt.next (Evt.bind (e149 l hl) ((Evt.some _).of_eq fun n => ?_)) (fun n => r118 n l ((), ()))
  simp only [fi_any _ l 0 (Int.le_refl _)]
  rfl
/- impl.ValidCam -/
theorem e81 (l : List Int) (hl : (l.length : Int) ≤ 140737488351232) : Evt (fun n => call T C n 81 (l, ())) ((okC l, ()), ()) := by
  refine Evt.next (Evt.bind (e79 l) (Evt.bind (e117 _) ?_)) (fun n => r81 n l)
  refine Evt.ite (fun h => ?_) (fun h => ?_)
  · refine Evt.bind (e118 l hl) ((Evt.some _).of_eq fun n => ?_)
    have h : inR (l.length : Int) 8 360 = true := h
    have : okC l = !l.any (fun v => !okV v) := by simp [okC, h, List.any_eq_not_all_not]
    rw [this]
    rfl
  · refine (Evt.some _).of_eq fun n => ?_
    have h : inR (l.length : Int) 8 360 = false := by simpa using h
    simp [okC, h]
    rfl
/- strings.Join -/
theorem e120 (ws : List (List UInt8)) (s : List UInt8) (h1 : ws.length ≤ 1000000) (h2 : (Lib.join ws s).length ≤ 1000000000) : Evt (fun n => call T C n 120 (ws.map tx, tx s, ())) ((tx (Lib.join ws s), ()), (ws.map tx, ())) := by
  refine Evt.next ?_ (fun n => r120 n (ws.map tx) (tx s))
  have e : (ws.map tx).map (fun s => s.data.toList) = ws := by
    rw [List.map_map]
    exact (List.map_congr_left fun a _ => rfl).trans (List.map_id ws)
  dsimp only
  rw [e]
  show Evt (fun n => if (ws.map tx).length ≤ 140737488355328 ∧ (Lib.join ws s).length ≤ 140737488355328 then some ((tx (Lib.join ws s), ()), (ws.map tx, ())) else none) _
  rw [if_pos ⟨by simp; omega, by omega⟩]
  exact Evt.some _
/- impl.CamText -/
theorem e82 (c : List Int) (hr : Rng c) : Evt (fun n => call T C n 82 (c, ())) ((camT c, ()), ()) := by
  have hcl := hr.len'
  refine Evt.next (Evt.bind (e81 c (by omega)) ?_) (fun n => r82 n c)
  unfold camT
  cases h : okC c with
  | false => exact Evt.yes rfl (Evt.some _)
  | true =>
    have hl := okC_len h
    have hC := okC_el h hr
    have c32 : (⟨#[32]⟩ : ByteArray) = tx [32] := rfl
    have c42 : (⟨#[42]⟩ : ByteArray) = tx [42] := rfl
    refine Evt.no (by simp) ?_
    refine loop_evt (fun x => ∃ (i : Nat) (ws : List (List UInt8)), x = (c, ws.map tx, (i : Int), ()) ∧ i ≤ c.length ∧ ws ++ (rle (c.drop i)).map wordL = (rle c).map wordL ∧ ws.length ≤ i ∧ (∀ w ∈ ws, w.length ≤ 43) ∧ (0 < i → ws ≠ [])) (fun x => c.length - x.2.2.1.toNat) ⟨0, [], rfl, by omega, by simp, by simp, by simp, by simp⟩ ?_
    rintro x ⟨i, ws, rfl, hi, hws, hwl0, hl43, hne0⟩
    have hJ := join_len [32] ws hl43
    simp only [List.length_cons, List.length_nil] at hJ
    have hJ : (Lib.join ws [32]).length ≤ 1000000 := by omega
    by_cases hlt : i < c.length
    · have hlt : (i : Int) < (c.length : Int) := by omega
      refine Round.yes (decide_eq_true hlt) ?_
      refine for_round' (i : Int) (c.length : Int) (fun j (_ : Unit) => (c, ws.map tx, (i : Int), j, ())) (fun j _ => ∀ u : Nat, i ≤ u → (u : Int) < j → g c u = g c i) (b0 := ()) rfl (by omega) (fun u h1 h2 => absurd h2 (by omega)) ?_ ?_
      · intro j' _ h2 h3' hP
        obtain ⟨j, rfl⟩ : ∃ j : Nat, j' = j := ⟨j'.toNat, by omega⟩
        have a1 := g_idx (l := c) (i := (j : Int)) (by omega) (by omega)
        have a2 := g_idx (l := c) (i := (i : Int)) (by omega) (by omega)
        rw [Int.toNat_natCast] at a1 a2
        refine Round.yes (decide_eq_true h3') (Round.at a1.idx (Round.at a2.idx ?_))
        by_cases heq : g c j = g c i
        · refine Round.yes (by simp [heq]) (Round.inr _ ⟨(), by rw [wr_succ (by omega) h3' (by omega)], fun u h1 h2 => ?_⟩)
          by_cases hu : u = j
          · rw [hu, heq]
          · exact hP u h1 (by omega)
        · have hj1 : i < j := by
            apply Classical.byContradiction
            intro h
            exact heq (by rw [show j = i by omega])
          have hj2 : j ≤ c.length := by omega
          have h3 : ∀ u, i ≤ u → u < j → g c u = g c i := fun u h1 h2 => hP u h1 (by omega)
          have h4 : j = c.length ∨ g c j ≠ g c i := .inr heq
          refine Round.no (by simp [heq]) ?_
          have hv := g_idx (l := c) (i := (i : Int)) (by omega) (by omega)
          rw [Int.toNat_natCast] at hv
          have hvb := hC _ hv.mem
          obtain ⟨v, hv2⟩ : ∃ v : Nat, g c i = v := ⟨(g c i).toNat, by omega⟩
          have hd := rle_drop hj1 hj2 h3 h4
          have e1 : wr .i64 (g c i) = (v : Int) := by rw [hv2]; exact wrap_id (by omega) (by omega)
          have e2 : wr .i64 ((j : Int) - (i : Int)) = ((j - i : Nat) : Int) := by rw [wrap_id (by omega) (by omega)]; omega
          have hD1 := e60 v (by omega)
          have hD2 := e60 (j - i) (by omega)
          have z1 := dec_len (u := v) (by omega)
          have z2 := dec_len (u := j - i) (by omega)
          have hw : wordL (g c i, j - i) = if j - i > 1 then Lib.decDigits v ++ 42 :: Lib.decDigits (j - i) else Lib.decDigits v := by unfold wordL; rw [hv2]; rfl
          have hwl := wordL_len (x := (g c i, j - i)) (by show g c i ≤ _; omega) (by show j - i ≤ _; omega)
          have next : ∀ w, w = wordL (g c i, j - i) → (ws ++ [w]) ++ (rle (c.drop j)).map wordL = (rle c).map wordL ∧ (ws ++ [w]).length ≤ j ∧ (∀ u ∈ ws ++ [w], u.length ≤ 43) ∧ (0 < j → ws ++ [w] ≠ []) := fun w hw => by
            refine ⟨?_, by simp; omega, fun u hu => ?_, fun _ => by simp⟩
            · rw [← hws, hd, hw]; simp
            · rcases List.mem_append.1 hu with hu | hu
              · exact hl43 u hu
              · simp at hu; rw [hu, hw]; exact hwl
          refine Round.at hv.idx ?_
          simp only [e1, e2]
          refine Round.bind hD1 ?_
          have hml : (ws.map tx).length = ws.length := by simp
          by_cases hk : j - i > 1
          · refine Round.yes (decide_eq_true (by omega)) (Round.bind hD2 ?_)
            simp only [c42, tx_app]
            refine Round.chk (szT (by simp) (by omega)) (Round.chk (szT (by omega) (by simp; omega)) (Round.chk (by simp; omega) (Round.inl _ ⟨⟨j, ws ++ [wordL (g c i, j - i)], ?_, hj2, next _ rfl⟩, ?_⟩)))
            · rw [hw, if_pos hk]; simp
            · show c.length - (j : Int).toNat < c.length - (i : Int).toNat
              omega
          · refine Round.no (by simp; omega) (Round.chk (by simp; omega) (Round.inl _ ⟨⟨j, ws ++ [wordL (g c i, j - i)], ?_, hj2, next _ rfl⟩, ?_⟩))
            · rw [hw, if_neg hk]; simp
            · show c.length - (j : Int).toNat < c.length - (i : Int).toNat
              omega
      · intro _ hP
        refine Round.no (by simp) ?_
        have hj1 : i < c.length := by omega
        have hj2 : c.length ≤ c.length := Nat.le_refl _
        have h3 : ∀ u, i ≤ u → u < c.length → g c u = g c i := fun u h1 h2 => hP u h1 (by omega)
        have h4 : c.length = c.length ∨ g c c.length ≠ g c i := .inl rfl
        have hv := g_idx (l := c) (i := (i : Int)) (by omega) (by omega)
        rw [Int.toNat_natCast] at hv
        have hvb := hC _ hv.mem
        obtain ⟨v, hv2⟩ : ∃ v : Nat, g c i = v := ⟨(g c i).toNat, by omega⟩
        have hd := rle_drop hj1 hj2 h3 h4
        have e1 : wr .i64 (g c i) = (v : Int) := by rw [hv2]; exact wrap_id (by omega) (by omega)
        have e2 : wr .i64 ((c.length : Int) - (i : Int)) = ((c.length - i : Nat) : Int) := by rw [wrap_id (by omega) (by omega)]; omega
        have hD1 := e60 v (by omega)
        have hD2 := e60 (c.length - i) (by omega)
        have z1 := dec_len (u := v) (by omega)
        have z2 := dec_len (u := c.length - i) (by omega)
        have hw : wordL (g c i, c.length - i) = if c.length - i > 1 then Lib.decDigits v ++ 42 :: Lib.decDigits (c.length - i) else Lib.decDigits v := by unfold wordL; rw [hv2]; rfl
        have hwl := wordL_len (x := (g c i, c.length - i)) (by show g c i ≤ _; omega) (by show c.length - i ≤ _; omega)
        have next : ∀ w, w = wordL (g c i, c.length - i) → (ws ++ [w]) ++ (rle (c.drop c.length)).map wordL = (rle c).map wordL ∧ (ws ++ [w]).length ≤ c.length ∧ (∀ u ∈ ws ++ [w], u.length ≤ 43) ∧ (0 < c.length → ws ++ [w] ≠ []) := fun w hw => by
          refine ⟨?_, by simp; omega, fun u hu => ?_, fun _ => by simp⟩
          · rw [← hws, hd, hw]; simp
          · rcases List.mem_append.1 hu with hu | hu
            · exact hl43 u hu
            · simp at hu; rw [hu, hw]; exact hwl
        refine Round.at hv.idx ?_
        simp only [e1, e2]
        refine Round.bind hD1 ?_
        have hml : (ws.map tx).length = ws.length := by simp
        by_cases hk : c.length - i > 1
        · refine Round.yes (decide_eq_true (by omega)) (Round.bind hD2 ?_)
          simp only [c42, tx_app]
          refine Round.chk (szT (by simp) (by omega)) (Round.chk (szT (by omega) (by simp; omega)) (Round.chk (by simp; omega) (Round.inl _ ⟨⟨c.length, ws ++ [wordL (g c i, c.length - i)], ?_, hj2, next _ rfl⟩, ?_⟩)))
          · rw [hw, if_pos hk]; simp
          · show c.length - (c.length : Int).toNat < c.length - (i : Int).toNat
            omega
        · refine Round.no (by simp; omega) (Round.chk (by simp; omega) (Round.inl _ ⟨⟨c.length, ws ++ [wordL (g c i, c.length - i)], ?_, hj2, next _ rfl⟩, ?_⟩))
          · rw [hw, if_neg hk]; simp
          · show c.length - (c.length : Int).toNat < c.length - (i : Int).toNat
            omega
    · have hi : i = c.length := by omega
      refine Round.no (by simp; omega) (Round.done ?_)
      rw [hi, List.drop_length] at hws
      have hw2 : ws = (rle c).map wordL := by simpa [rle] using hws
      rw [if_pos rfl]
      unfold camJ
      rw [← hw2, c32]
      exact Evt.bind (e120 ws [32] (by omega) (by omega)) (Evt.some _)
/- slices.Clone[impl.Cam,int16] -/
theorem e53 (l : List Int) (h0 : l.length ≠ 0) (hl : (l.length : Int) ≤ 1000000) : Evt (fun n => call T C n 53 (l, ())) ((l, ()), ()) :=
  Evt.next (Evt.yes (decide_eq_true h0) (Evt.chk (by simp; omega) (Evt.some _))) (fun n => r53 n l)
/- impl.ReadCam -/
theorem e34 (l : List UInt8) (hl : l.length ≤ 1048576) : Evt (fun n => call T C n 34 (tx l, ())) (((rdC l).1, (rdC l).2, ()), ()) := by
  refine Evt.next ?_ (fun n => r34 n (tx l))
  have hS := e42_2 32 l (by omega)
  have hn := splitC_len 32 l
  have hw := splitC_wlen (c := 32) (l := l)
  have hrd := rdC_eq l
  generalize splitC 32 l = ws at hS hn hw hrd
  refine Evt.bind hS ?_
  have hlm : (((ws.map tx).length : Nat) : Int) = (ws.length : Int) := by simp
  refine for_evt' 0 (ws.length : Int) (fun i (c : List Int) => (tx l, c, ws.map tx, (((ws.map tx).length : Nat) : Int), i, ())) (fun i c => foldO irW [] (ws.take i.toNat) = some c) (b0 := []) rfl (by omega) rfl ?_ ?_
  · intro i c i0 i1 hL
    obtain ⟨i, rfl⟩ := Int.eq_ofNat_of_zero_le i0
    rw [Int.toNat_natCast] at hL
    obtain ⟨w, hi⟩ : ∃ w, ws[i]? = some w := ⟨_, List.getElem?_eq_getElem (by omega)⟩
    have hwl := hw w (List.mem_of_getElem? hi)
    have G := irW_fold _ good0 hL
    have hvi : idx (ws.map tx) (i : Int) = some (tx w) := by
      unfold idx
      rw [if_pos (by omega), Int.toNat_natCast, List.getElem?_map, hi]; rfl
    have bad : irW c w = none → ∀ {f : Nat → Option ((List Int × Int × Unit) × Unit)}, Evt f ((([] : List Int), (5 : Int), ()), ()) → Evt f (((rdC l).1, (rdC l).2, ()), ()) := fun h f hf => by
      rw [hrd, foldO_none hL hi h]; exact hf
    have good : ∀ d, irW c w = some d → foldO irW [] (ws.take ((i : Int) + 1).toNat) = some d := fun d h => by
      rw [show ((i : Int) + 1).toNat = i + 1 by omega, foldO_next hL hi, h]
    have hws := wr_succ (i := (i : Int)) i0 i1 (by omega)
    have hC := e32 w [42] (by omega)
    have hcl : (Lib.cut w [42]).1.length ≤ w.length ∧ (Lib.cut w [42]).2.1.length ≤ w.length := by
      unfold Lib.cut
      split
      · exact ⟨by rw [List.length_take]; omega, by rw [List.length_drop]; omega⟩
      · exact ⟨Nat.le_refl _, by simp⟩
    have b1 := numI_bd (Lib.cut w [42]).1
    have b2 := numI_bd (Lib.cut w [42]).2.1
    have hg := G.1
    have hs360 : wr .i64 (360 - (c.length : Int)) = 360 - (c.length : Int) := wrap_id (by omega) (by omega)
    have hir : irW c w = if inR (numI (Lib.cut w [42]).1).1 0 10000 = true ∧ inR (timesI (Lib.cut w [42]).2.1) 1 (360 - c.length) = true then some (c ++ List.replicate (timesI (Lib.cut w [42]).2.1).toNat (numI (Lib.cut w [42]).1).1) else none := rfl
    dsimp only
    refine Round.yes (decide_eq_true (by rw [hlm]; exact i1)) (Round.at hvi (Round.bind hC (Round.bind (e77_2 _ (by omega)) (Round.bind (e77_2 _ (by omega)) ?_))))
    have both : ∀ (t : Int), t = timesI (Lib.cut w [42]).2.1 → inR (numI (Lib.cut w [42]).1).1 0 10000 = true → inR t 1 (360 - (c.length : Int)) = true → 0 ≤ (numI (Lib.cut w [42]).1).1 ∧ (numI (Lib.cut w [42]).1).1 ≤ 10000 ∧ 1 ≤ t ∧ t ≤ 360 - (c.length : Int) ∧ wr .i16 (numI (Lib.cut w [42]).1).1 = (numI (Lib.cut w [42]).1).1 ∧ irW c w = some (c ++ List.replicate t.toNat (numI (Lib.cut w [42]).1).1) := fun t ht h1 h2 => by
      have e1 := inR_iff.1 h1
      have e2 := inR_iff.1 h2
      exact ⟨e1.1, e1.2, e2.1, e2.2, wrap16 (by omega) (by omega), by rw [hir, ← ht, if_pos ⟨h1, h2⟩]⟩
    have h360 := e78
    by_cases c2 : (numI (Lib.cut w [42]).2.1).2 = true
    · have ht : (numI (Lib.cut w [42]).2.1).1 = timesI (Lib.cut w [42]).2.1 := by unfold timesI; rw [if_pos c2]
      refine Round.no (by simp [c2]) (Round.bind (e69 _) ?_)
      by_cases c3 : inR (numI (Lib.cut w [42]).1).1 0 10000 = true
      case neg => exact Round.yes (by simpa using c3) (Round.done (bad (by rw [hir, if_neg (fun h => c3 h.1)]) (Evt.some _)))
      refine Round.no (by simp [c3]) (Round.bind (e79 c) ?_)
      rw [hs360]
      refine Round.bind (e78 _ _ _) ?_
      by_cases c4 : inR (numI (Lib.cut w [42]).2.1).1 1 (360 - (c.length : Int)) = true
      case neg => exact Round.yes (by simpa using c4) (Round.done (bad (by rw [hir, ← ht, if_neg (fun h => c4 h.2)]) (Evt.some _)))
      obtain ⟨d0, d1, d2, d3, d4, d5⟩ := both _ ht c3 c4
      refine Round.no (by simp [c4]) ?_
      rw [d4]
      have dk : (numI (Lib.cut w [42]).2.1).1 ≤ 360 := by omega
      refine Round.bind (e80 _ _ d2 dk) (Round.chk (decide_eq_true (by simp; omega)) (Round.again _ ⟨_, ?_, good _ d5⟩))
      rw [hws]
    · have ht : (1 : Int) = timesI (Lib.cut w [42]).2.1 := by unfold timesI; rw [if_neg c2]
      refine Round.yes (by simp [c2]) (Round.bind (e69 _) ?_)
      by_cases c3 : inR (numI (Lib.cut w [42]).1).1 0 10000 = true
      case neg => exact Round.yes (by simpa using c3) (Round.done (bad (by rw [hir, if_neg (fun h => c3 h.1)]) (Evt.some _)))
      refine Round.no (by simp [c3]) (Round.bind (e79 c) ?_)
      rw [hs360]
      refine Round.bind (e78 _ _ _) ?_
      by_cases c4 : inR 1 1 (360 - (c.length : Int)) = true
      case neg => exact Round.yes (by simpa using c4) (Round.done (bad (by rw [hir, ← ht, if_neg (fun h => c4 h.2)]) (Evt.some _)))
      obtain ⟨d0, d1, d2, d3, d4, d5⟩ := both _ ht c3 c4
      refine Round.no (by simp [c4]) ?_
      rw [d4]
      refine Round.bind (e80 _ _ d2 (by omega)) (Round.chk (decide_eq_true (by simp; omega)) (Round.again _ ⟨_, ?_, good _ d5⟩))
      rw [hws]
  · intro c hL
    rw [Int.toNat_natCast, List.take_length] at hL
    have G := irW_fold _ good0 hL
    have hr := G.rng
    have hg := G.1
    rw [hL] at hrd
    simp only at hrd
    dsimp only
    refine Round.no (by rw [hlm]; simp) (Round.bind (e81 c (by omega)) ?_)
    cases ho : okC c with
    | false =>
      rw [hrd, if_neg (fun h => by rw [ho] at h; cases h.1)]
      exact Round.yes rfl (Round.done (Evt.some _))
    | true =>
      have hct : camT c = tx (camJ c) := if_pos ho
      have hcl := okC_len ho
      refine Round.no (by simp) (Round.bind (e82 c hr) ?_)
      rw [hct]
      simp only [tx_toList]
      by_cases hq : camJ c = l
      · have e9 : rdC l = (c, 0) := by rw [hrd, if_pos ⟨ho, hq⟩]
        rw [e9, hq]
        exact Round.no (by simp) (Round.bind (e53 c (by omega) (by omega)) (Round.done (Evt.some _)))
      · have e9 : rdC l = ([], 5) := by rw [hrd, if_neg (fun h => hq h.2)]
        rw [e9]
        exact Round.yes (by simpa using hq) (Round.done (Evt.some _))
/- slices.Max[impl.Cam,int16] -/
theorem e83 (l : List Int) (hr : Rng l) (h0 : 0 < (l.length : Int)) : Evt (fun n => call T C n 83 (l, ())) ((mxL l, ()), ()) := by
  have hlen := hr.len'
  obtain ⟨v0, hv0⟩ := at_of (l := l) (Int.le_refl 0) h0
  refine Evt.next (Evt.no (by simp; omega) (Evt.at hv0.idx ?_)) (fun n => r83 n l)
  have hh := (head_at hv0).1
  refine for_evt' 1 (l.length : Int) (fun i (_ : Unit) => (l, mxF (l.take i.toNat) v0, i, ())) (fun _ _ => True) (b0 := ()) (by
    have := (head_at hv0).2
    show _ = (l, mxF (l.take 1) v0, 1, ())
    rw [this]; simp [mxF]) (by omega) trivial ?_ ?_
  · intro i _ h2 h3 _
    obtain ⟨v, hv⟩ := at_of (l := l) (show 0 ≤ i by omega) h3
    simp only [wrap_id (x := i + 1) (by omega) (by omega)]
    refine Round.yes (decide_eq_true h3) (Round.at hv.idx (Round.again _ ⟨(), ?_, trivial⟩))
    rw [hv.take, mxF_snoc]
    congr 2
    split <;> omega
  · intro _ _
    have e2 : mxF (l.take (l.length : Int).toNat) v0 = mxL l := by rw [take_all, mxL, hh]
    simp only [e2]
    exact Round.no (by simp) (Round.done (Evt.some _))
/- impl.ValidMachine -/
theorem e35 (m : Mch) (h : RngM m) : Evt (fun n => call T C n 35 (m, ())) ((okM m, ()), ()) := by
  have hx := h.x.len'
  have hy := h.y.len'
  have hp := h.p.len'
  refine Evt.next (Evt.at (x := ([] : List Int)) rfl (Evt.at (x := ([] : List Int)) rfl ?_)) (fun n => r35 n m)
  show Evt (fun n => loopK _ n (m, [m.1, m.2.1], 0, ())) _
  have one : ∀ (c : List Int) (hr : Rng c) (i : Int) (rest : Bool), i = 0 ∨ i = 1 → idx [m.1, m.2.1] i = some c → okM m = (mv c && ((c.length : Int) == (m.2.2.1.length : Int)) && rest) → ∀ {P : (Mch × List (List Int) × Int × Unit) → Prop}, (mv c = true → c.length = m.2.2.1.length → P (m, [m.1, m.2.1], wr .i64 (i + 1), ())) →
      Round (σ := Mch × List (List Int) × Int × Unit) (fun n ag => (idx [m.1, m.2.1] i).bind fun v6 => (call T C n 81 (v6, ())).bind fun r7 => if (!r7.1.1) = true then some ((false, ()), ()) else if (bif false then true else ((v6.length : Int) != (m.2.2.1.length : Int))) = true then some ((false, ()), ()) else (call T C n 83 (v6, ())).bind fun r8 => if (bif false then true else decide (r8.1.1 ≥ 64)) = true then some ((false, ()), ()) else ag (m, [m.1, m.2.1], wr .i64 (i + 1), ())) ((okM m, ()), ()) P := by
    intro c hr i rest _ hi he P hP
    have hc := hr.len'
    refine Round.at hi (Round.bind (e81 c (by omega)) ?_)
    cases hok : okC c with
    | false =>
      have : okM m = false := by rw [he]; simp [mv, hok]
      rw [this]
      exact Round.yes rfl (Round.done (Evt.some _))
    | true =>
      have hl := okC_len hok
      refine Round.no (by simp) (Round.ite (fun hb => ?_) (fun hb => ?_))
      · have hb : ¬ (c.length : Int) = m.2.2.1.length := by simpa using hb
        have : okM m = false := by
          rw [he]
          have : ((c.length : Int) == (m.2.2.1.length : Int)) = false := by simpa using hb
          simp [this]
        rw [this]
        exact Round.done (Evt.some _)
      · have hb : c.length = m.2.2.1.length := by
          have : (c.length : Int) = m.2.2.1.length := by simpa using hb
          omega
        refine Round.bind (e83 c hr (by omega)) (Round.ite (fun hg => ?_) (fun hg => ?_))
        · have hg : mxL c ≥ 64 := of_decide_eq_true hg
          have : okM m = false := by
            rw [he]
            have : mv c = false := by simp [mv]; intro; omega
            simp [this]
          rw [this]
          exact Round.done (Evt.some _)
        · have hg : ¬ mxL c ≥ 64 := by simpa using hg
          exact Round.again _ (hP (by simp [mv, hok]; omega) hb)
  refine for_evt' 0 2 (fun i (_ : Unit) => (m, [m.1, m.2.1], i, ())) (fun i _ => (0 < i → mv m.1 = true ∧ m.1.length = m.2.2.1.length) ∧ (1 < i → mv m.2.1 = true ∧ m.2.1.length = m.2.2.1.length)) (b0 := ()) rfl (by omega) ⟨by omega, by omega⟩ ?_ ?_
  · intro i _ h2 h3 ⟨p1, p2⟩
    refine Round.yes (decide_eq_true h3) ?_
    have hi : i = 0 ∨ i = 1 := by omega
    rcases hi with rfl | rfl
    · refine one m.1 h.x 0 (mv m.2.1 && okC m.2.2.1 && ((m.1.length : Int) == (m.2.1.length : Int))) (.inl rfl) rfl ?_ (fun q1 q2 => ⟨(), rfl, fun _ => ⟨q1, q2⟩, by omega⟩)
      unfold okM
      cases mv m.1 <;> cases mv m.2.1 <;> cases okC m.2.2.1 <;> cases ((m.1.length : Int) == (m.2.1.length : Int)) <;> cases ((m.1.length : Int) == (m.2.2.1.length : Int)) <;> rfl
    · obtain ⟨p3, p4⟩ := p1 (by omega)
      refine one m.2.1 h.y 1 (okC m.2.2.1) (.inr rfl) rfl ?_ (fun q1 q2 => ⟨(), rfl, fun _ => ⟨p3, p4⟩, fun _ => ⟨q1, q2⟩⟩)
      unfold okM
      rw [p3, p4]
      have : ((m.2.2.1.length : Int) == (m.2.1.length : Int)) = ((m.2.1.length : Int) == (m.2.2.1.length : Int)) := BEq.comm
      rw [this]
      cases mv m.2.1 <;> cases okC m.2.2.1 <;> cases ((m.2.1.length : Int) == (m.2.2.1.length : Int)) <;> simp
  · intro _ ⟨p1, p2⟩
    obtain ⟨q1, q2⟩ := p1 (by omega)
    obtain ⟨q3, q4⟩ := p2 (by omega)
    have : okM m = okC m.2.2.1 := by
      unfold okM
      rw [q1, q3, q2, q4]
      simp
    rw [this]
    exact Round.no (by simp) (Round.done (Evt.bind (e81 m.2.2.1 (by omega)) (Evt.some _)))
/- impl.MachineText -/
theorem e36 (m : Mch) (hR : RngM m) : Evt (fun n => call T C n 36 (m, ())) ((mtR m, ()), ()) := by
  refine Evt.next (Evt.bind (e35 m hR) ?_) (fun n => r36 n m)
  unfold mtR
  cases h : okM m with
  | false => exact Evt.yes rfl (Evt.some _)
  | true =>
    have G := goodM h
    have hx := okC_len G.x
    have hy := okC_len G.y
    have hp := okC_len G.p
    have l1 := camJ_len (c := m.1) (by omega) (okC_el G.x hR.x)
    have l2 := camJ_len (c := m.2.1) (by omega) (okC_el G.y hR.y)
    have l3 := camJ_len (c := m.2.2.1) (by omega) (okC_el G.p hR.p)
    have t1 : camT m.1 = tx (camJ m.1) := if_pos G.x
    have t2 : camT m.2.1 = tx (camJ m.2.1) := if_pos G.y
    have t3 : camT m.2.2.1 = tx (camJ m.2.2.1) := if_pos G.p
    refine Evt.no (by simp) (Evt.bind (e82 m.1 hR.x) ?_)
    simp only [t1, machC, tx_app]
    refine Evt.chk (szT (by simp) (by omega)) (Evt.chk (szT (by simp; omega) (by simp)) (Evt.bind (e82 m.2.1 hR.y) ?_))
    simp only [t2, tx_app]
    refine Evt.chk (szT (by simp; omega) (by omega)) (Evt.chk (szT (by simp; omega) (by simp)) (Evt.bind (e82 m.2.2.1 hR.p) ?_))
    simp only [t3, tx_app]
    exact Evt.chk (szT (by simp; omega) (by omega)) (Evt.chk (szT (by simp; omega) (by simp)) (Evt.some _))

end Go.Cams.YtjeakogmccogmaaGreatDoorLRa
