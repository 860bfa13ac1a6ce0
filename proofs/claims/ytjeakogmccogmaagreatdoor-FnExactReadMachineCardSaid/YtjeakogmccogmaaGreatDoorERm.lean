/- What the functions that the law reaches come to. -/
import Derived.Test.YtjeakogmccogmaaGreatDoorRRm
import Derived.Test.YtjeakogmccogmaaGreatDoorPuAll
namespace Go.Cams.YtjeakogmccogmaaGreatDoorLRm
open Go Go.Fw Go.Proofs Go.Proofs.YtjeakogmccogmaaGreatDoor.LRm
/- spec.l01Split -/
theorem e28 (c : UInt8) (l : List UInt8) (hl : l.length ≤ 10000000) : Evt (fun n => call T C n 28 (tx l, (c.toNat : Int), ())) (((splitC c l).map tx, ()), ()) := by
  refine Evt.next ?_ (fun n => r28 n (tx l) (c.toNat : Int))
  have hsz : ((tx l).size : Int) = (l.length : Int) := by rw [tx_size]
  refine for_evt' 0 (l.length : Int) (fun i (b : List ByteArray × Int) => (tx l, (c.toNat : Int), b.1, b.2, i, ())) (fun i b => ∃ (ws : List (List UInt8)) (k : Nat), b = (ws.map tx, (k : Int)) ∧ (k : Int) ≤ i ∧ ws ++ splitC c (l.drop k) = splitC c l ∧ c ∉ (l.drop k).take (i.toNat - k) ∧ (ws.length : Int) ≤ i) (b0 := ([], 0)) rfl (by omega) ⟨[], 0, rfl, by omega, rfl, by simp, by simp⟩ ?_ ?_
  · rintro i _ i0 i1 ⟨ws, k, rfl, hk, hw, hc, hn⟩
    obtain ⟨i, rfl⟩ := Int.eq_ofNat_of_zero_le i0
    rw [Int.toNat_natCast] at hc
    dsimp only
    obtain ⟨d, hd⟩ : ∃ d, l[i]? = some d := ⟨_, List.getElem?_eq_getElem (by omega)⟩
    refine Round.yes (decide_eq_true (by rw [hsz]; exact i1)) (Round.at (nums_at hd) ?_)
    have e1 : wr .i64 ((i : Int) + 1) = (i : Int) + 1 := wr_succ i0 i1 (by omega)
    simp only [byte_eq]
    by_cases hdc : d = c
    · subst hdc
      refine Round.yes (by simp) (Round.chk (decide_eq_true ⟨by omega, by omega, by rw [hsz]; omega⟩) (Round.chk (decide_eq_true ?_) (Round.again _ ⟨(_, _), ?_, ws ++ [(l.drop k).take (i - k)], i + 1, rfl, ?_, ?_, ?_, ?_⟩)))
      · rw [List.length_map]; simp only [List.length_singleton]; omega
      · rw [Int.toNat_natCast, Int.toNat_natCast, tx_ext, e1, List.map_append]
        rfl
      · omega
      · rw [← hw, (congrArg (splitC d) (cut_at (by omega) hd)).trans (splitC_hit hc _)]; simp
      · simp
      · simp; omega
    · refine Round.no (by simpa using hdc) (Round.again _ ⟨(_, _), ?_, ws, k, rfl, ?_, hw, ?_, ?_⟩)
      · rw [e1]
      · omega
      · rw [show ((i : Int) + 1).toNat = i + 1 by omega, take_on (by omega) hd]
        intro h
        rcases List.mem_append.1 h with h | h
        · exact hc h
        · exact hdc (List.mem_singleton.1 h).symm
      · omega
  · rintro _ ⟨ws, k, rfl, hk, hw, hc, hn⟩
    rw [Int.toNat_natCast, take_rest] at hc
    dsimp only
    refine Round.no (by simp [hsz]) (Round.chk (decide_eq_true ⟨by omega, by rw [hsz]; omega, Int.le_refl _⟩) (Round.chk (decide_eq_true ?_) (Round.done ?_)))
    · rw [List.length_map]; simp only [List.length_singleton]; omega
    · rw [Int.toNat_natCast, hsz, Int.toNat_natCast, tx_ext, take_rest, ← hw, splitC_miss hc, List.map_append]
      exact Evt.some _
/- spec.l01Number -/
theorem e84 (l : List UInt8) : Evt (fun n => call T C n 84 (tx l, ())) (((numR l).1, (numR l).2, ()), ()) := by
  refine Evt.next ?_ (fun n => r84 n (tx l))
  have hsz : ((tx l).size : Int) = (l.length : Int) := by rw [tx_size]
  have no : ∀ h : ¬ (l ≠ [] ∧ l.length ≤ 9 ∧ (l.head? = some 48 → l.length ≤ 1) ∧ ∀ c ∈ l, isDg c = true), ∀ {f : Nat → Option ((Int × Bool × Unit) × Unit)}, Evt f (((0 : Int), false, ()), ()) → Evt f (((numR l).1, (numR l).2, ()), ()) := fun h f hf => by rw [numR_no h]; exact hf
  by_cases h0 : l = []
  · subst h0
    exact Evt.yes (beq_self_eq_true (tx []).toList) (no (fun h => h.1 rfl) (Evt.some _))
  refine Evt.no (by show ¬ (((tx l).toList == (tx []).toList) = true); rw [tx_toList, tx_toList, beq_iff_eq]; exact h0) ?_
  by_cases h9 : l.length ≤ 9
  case neg => exact Evt.yes (by simp [hsz]; omega) (no (fun h => h9 h.2.1) (Evt.some _))
  refine Evt.no (by simp [hsz]; omega) ?_
  obtain ⟨c, r, rfl⟩ : ∃ c r, l = c :: r := by cases l with | nil => exact absurd rfl h0 | cons c r => exact ⟨c, r, rfl⟩
  refine Evt.at (nums_at (l := c :: r) (i := 0) rfl) ?_
  refine Evt.ite (fun h => Evt.ite (fun h1 => ?a) (fun h1 => ?b)) (fun h => Evt.no (by simp) ?c)
  case a =>
    have hc : c = 48 := UInt8.toNat_inj.1 (by have := beq_iff_eq.1 h; show c.toNat = 48; omega)
    refine no (fun hh => ?_) (Evt.some _)
    have := hh.2.2.1 (by rw [hc]; rfl)
    simp only [cond_false, cond_true, hsz, decide_eq_true_eq] at h1
    omega
  case' b =>
    have hz : (c :: r).head? = some 48 → (c :: r).length ≤ 1 := fun _ => by
      simp only [cond_false, cond_true, hsz, decide_eq_true_eq] at h1
      omega
  case' c =>
    have hz : (c :: r).head? = some 48 → (c :: r).length ≤ 1 := fun e => by
      simp only [List.head?_cons, Option.some.injEq] at e
      subst e
      exact absurd rfl h
  all_goals
    refine for_evt' 0 ((c :: r).length : Int) (fun i (b : Int) => (tx (c :: r), b, i, ())) (fun i b => b = ((numV ((c :: r).take i.toNat) 0 : Nat) : Int) ∧ ∀ d ∈ (c :: r).take i.toNat, isDg d = true) (b0 := 0) rfl (by omega) ⟨rfl, by simp⟩ ?_ ?_
    · rintro i _ i0 i1 ⟨rfl, hd⟩
      obtain ⟨i, rfl⟩ := Int.eq_ofNat_of_zero_le i0
      rw [Int.toNat_natCast] at hd
      dsimp only
      rw [Int.toNat_natCast]
      obtain ⟨d, hi⟩ : ∃ d, (c :: r)[i]? = some d := ⟨_, List.getElem?_eq_getElem (by omega)⟩
      have ht : (c :: r).take (i + 1) = (c :: r).take i ++ [d] := by rw [List.take_add_one, hi]; rfl
      have bad : isDg d = false → ¬ ((c :: r) ≠ [] ∧ (c :: r).length ≤ 9 ∧ ((c :: r).head? = some 48 → (c :: r).length ≤ 1) ∧ ∀ e ∈ (c :: r), isDg e = true) := fun e hh => by
        have := hh.2.2.2 d (List.mem_of_getElem? hi)
        rw [e] at this; cases this
      refine Round.yes (decide_eq_true (by rw [hsz]; exact i1)) (Round.at (nums_at hi) (Round.ite (fun h2 => ?_) (fun h2 => ?_)))
      · exact Round.done (no (bad (by simp only [decide_eq_true_eq] at h2; unfold isDg; rw [Bool.and_eq_false_iff]; left; exact decide_eq_false (by omega))) (Evt.some _))
      refine Round.at (nums_at hi) (Round.ite (fun h3 => ?_) (fun h3 => ?_))
      · exact Round.done (no (bad (by simp only [cond_false, decide_eq_true_eq] at h3; unfold isDg; rw [Bool.and_eq_false_iff]; right; exact decide_eq_false (by omega))) (Evt.some _))
      simp only [cond_false, decide_eq_true_eq] at h2 h3
      have hg : isDg d = true := isDg_iff.2 ⟨by omega, by omega⟩
      have hb := numV_lt ((c :: r).take i) 0 0 (fun e he => (isDg_iff.1 (hd e he)).2) (by decide)
      have hb9 : 10 ^ (0 + ((c :: r).take i).length) ≤ 10 ^ 9 := Nat.pow_le_pow_right (by omega) (by rw [List.length_take]; omega)
      refine Round.at (nums_at hi) (Round.again _ ⟨_, ?_, rfl, ?_⟩)
      · rw [dig_wr (by omega) hg, wr_succ i0 i1 (by omega), show ((i : Int) + 1).toNat = i + 1 by omega, ht, numV_app]
        rfl
      · rw [show ((i : Int) + 1).toNat = i + 1 by omega, ht]
        intro e he
        rcases List.mem_append.1 he with he | he
        · exact hd e he
        · rw [List.mem_singleton.1 he]; exact hg
    · rintro _ ⟨rfl, hd⟩
      rw [Int.toNat_natCast, List.take_length] at hd
      dsimp only
      rw [Int.toNat_natCast, List.take_length]
      have e : numR (c :: r) = (((numV (c :: r) 0 : Nat) : Int), true) := if_pos ⟨h0, h9, hz, hd⟩
      rw [e]
      exact Round.no (by simp [hsz]) (Round.done (Evt.some _))
/- spec.l00In -/
theorem e85 (a b c : Int) : Evt (fun n => call T C n 85 (a, b, c, ())) ((inR a b c, ()), ()) := by
  refine Evt.next ?_ (fun n => r85 n a b c)
  refine Evt.ite (fun h => ?_) (fun h => ?_)
  · refine (Evt.some _).of_eq fun n => ?_
    have h : b ≤ a := of_decide_eq_true h
    simp [inR, h]
    rfl
  · refine (Evt.some _).of_eq fun n => ?_
    have h : ¬ b ≤ a := by simpa using h
    simp [inR, h]
    rfl
/- spec.l01Lift -/
theorem e108 (a : Int) : Evt (fun n => call T C n 108 (a, ())) ((inR a 0 10000, ()), ()) := Evt.next (Evt.bind (e85 a 0 10000) (Evt.some _)) (fun n => r108 n a)
/- spec.l01Steps -/
theorem e110 (a : Int) : Evt (fun n => call T C n 110 (a, ())) ((inR a 8 360, ()), ()) := Evt.next (Evt.bind (e85 a 8 360) (Evt.some _)) (fun n => r110 n a)
/- spec.l01Ok -/
theorem e73 (l : List Int) (hl : (l.length : Int) ≤ 140737488351232) : Evt (fun n => call T C n 73 (l, ())) ((okC l, ()), ()) := by
  refine Evt.next ?_ (fun n => r73 n l)
  refine Evt.bind (e110 _) ?_
  refine Evt.ite (fun h => ?_) (fun h => ?_)
  · refine (Evt.some _).of_eq fun n => ?_
    have h : inR (l.length : Int) 8 360 = false := by simpa using h
    simp [okC, h]
    rfl
  · have h : inR (l.length : Int) 8 360 = true := by simpa using h
    have he : okC l = l.all okV := by simp [okC, h]
    rw [he]
    refine loop_evt (fun (x : List Int × Int × Unit) => x.1 = l ∧ 0 ≤ x.2.1 ∧ x.2.1 ≤ (l.length : Int) ∧ l.all okV = (l.drop x.2.1.toNat).all okV) (fun (x : List Int × Int × Unit) => ((l.length : Int) - x.2.1).toNat) (x := (l, 0, ())) ⟨rfl, Int.le_refl _, by simp, by simp⟩ ?_
    rintro ⟨x1, i, _⟩ ⟨h', h0, h1, h2⟩
    simp only at h' h0 h1 h2
    subst h'
    refine Round.ite (fun hlt => ?_) (fun hge => ?_)
    · have hlt : i < (x1.length : Int) := of_decide_eq_true hlt
      obtain ⟨v, hv, hv'⟩ := idx_at h0 hlt
      have hd := drop_cons hv'
      refine Round.at hv (Round.bind (e108 _) (Round.ite (fun hb => ?_) (fun hb => ?_)))
      · have hb : okV v = false := by simpa [okV] using hb
        have h3 : x1.all okV = false := by rw [h2, hd]; simp [hb]
        rw [h3]
        exact Round.done (Evt.some _)
      · have hb : okV v = true := by simpa [okV] using hb
        have hw : wr .i64 (i + 1) = i + 1 := wrap_id (by omega) (by omega)
        refine Round.again _ ⟨⟨rfl, ?_, ?_, ?_⟩, ?_⟩ <;> simp only [hw]
        · omega
        · omega
        · rw [h2, hd, show (i + 1).toNat = i.toNat + 1 by omega]
          simp [hb]
        · omega
    · have hge : ¬ i < (x1.length : Int) := by simpa using hge
      have : x1.drop i.toNat = [] := List.drop_of_length_le (by omega)
      rw [h2, this]
      exact Round.done (Evt.some _)
/- spec.l01Read -/
theorem e71_in {α : Type} {y : α} {P : (List ByteArray × List Int × Int × Unit) → Prop} (W : List ByteArray) (out : List Int) (i v k : Int) (ho : out.length ≤ 1000) (hv : 0 ≤ v ∧ v ≤ 10000) (hk : 1 ≤ k ∧ k ≤ 360) (hP : P (W, out ++ List.replicate k.toNat v, wr .i64 (i + 1), ())) :
    Round (fun n (ag : (List ByteArray × List Int × Int × Unit) → Option α) => loopK (fun (x15 : (List ByteArray) × (List Int) × Int × Int × Int × Int × Unit) again16 => (if (decide (x15.2.2.2.2.2.1 < x15.2.2.2.2.1)) = true then chk (decide ((x15.2.1.length + ([(wr .i16 x15.2.2.2.1)] : (List Int)).length) * 2 ≤ 140737488355328)) (again16 (x15.1, (x15.2.1 ++ ([(wr .i16 x15.2.2.2.1)] : (List Int))), x15.2.2.1, x15.2.2.2.1, x15.2.2.2.2.1, (wr .i64 (x15.2.2.2.2.2.1 + (1 : Int))), ())) else ag (x15.1, x15.2.1, (wr .i64 (x15.2.2.1 + (1 : Int))), ()))) n (W, out, i, v, k, (0 : Int), ())) y P := by
  refine for_round' 0 k (fun j (b : List Int) => (W, b, i, v, k, j, ())) (fun j b => b = out ++ List.replicate j.toNat v) (b0 := out) rfl (by omega) (by simp) ?_ ?_
  · rintro j _ j0 j1 rfl
    dsimp only
    refine Round.yes (decide_eq_true j1) (Round.chk (decide_eq_true (by simp; omega)) (Round.again _ ⟨_, ?_, rfl⟩))
    rw [wrap16 (x := v) (by omega) (by omega), wr_succ j0 j1 (by omega), List.append_assoc, show (j + 1).toNat = j.toNat + 1 by omega, List.replicate_succ']
  · rintro _ rfl
    dsimp only
    exact Round.no (by simp) (Round.again _ hP)
theorem e71 (l : List UInt8) (hl : l.length ≤ 1048576) : Evt (fun n => call T C n 71 (tx l, ())) ((match foldO srW [] (splitC 32 l) with | some c => ((if okC c = true then c else c), okC c, ()) | none => (([] : List Int), false, ())), ()) := by
  refine Evt.next ?_ (fun n => r71 n (tx l))
  have hS := e28 32 l (by omega)
  have hn := splitC_len 32 l
  have hw := splitC_wlen (c := 32) (l := l)
  generalize splitC 32 l = ws at hS hn hw
  refine Evt.bind hS ?_
  have hlm : (((ws.map tx).length : Nat) : Int) = (ws.length : Int) := by simp
  refine for_evt' 0 (ws.length : Int) (fun i (c : List Int) => (ws.map tx, c, i, ())) (fun i c => foldO srW [] (ws.take i.toNat) = some c) (b0 := []) rfl (by omega) rfl ?_ ?_
  · intro i c i0 i1 hL
    obtain ⟨i, rfl⟩ := Int.eq_ofNat_of_zero_le i0
    rw [Int.toNat_natCast] at hL
    obtain ⟨w, hi⟩ : ∃ w, ws[i]? = some w := ⟨_, List.getElem?_eq_getElem (by omega)⟩
    have hwl := hw w (List.mem_of_getElem? hi)
    have G := srW_good hL
    have hvi : idx (ws.map tx) (i : Int) = some (tx w) := by
      unfold idx
      rw [if_pos (by omega), Int.toNat_natCast, List.getElem?_map, hi]; rfl
    have bad : srW c w = none → ∀ {f : Nat → Option ((List Int × Bool × Unit) × Unit)}, Evt f ((([] : List Int), false, ()), ()) → Evt f ((match foldO srW [] ws with | some c => ((if okC c = true then c else c), okC c, ()) | none => (([] : List Int), false, ())), ()) := fun h f hf => by
      rw [foldO_none hL hi h]; exact hf
    have good : ∀ d, srW c w = some d → foldO srW [] (ws.take ((i : Int) + 1).toNat) = some d := fun d h => by
      rw [show ((i : Int) + 1).toNat = i + 1 by omega, foldO_next hL hi, h]
    have hws := wr_succ (i := (i : Int)) i0 i1 (by omega)
    have hSw := e28 42 w (by omega)
    obtain ⟨a, rest, e⟩ := splitC_ne 42 w
    have hrl := splitC_len 42 w
    rw [e] at hSw hrl
    simp only [List.length_cons] at hrl
    have ba := numR_bd a
    have hA := e84 a
    dsimp only
    refine Round.yes (decide_eq_true (by rw [hlm]; exact i1)) (Round.at hvi (Round.bind hSw (Round.chk (by simp) (Round.at (v := tx a) rfl (Round.bind hA ?_)))))
    have hcl := G.1
    have lift : Evt (fun n => call T C n 108 ((numR a).1, ())) ((inR (numR a).1 0 10000, ()), ()) := e108 _
    have hll : ((c.length : Nat) : Int) ≤ 360 := by omega
    have hlast : ∀ (u : Int), 0 < c.length → ∃ z, c[c.length - 1]? = some z ∧ (c.getLast? = some z) ∧ 0 ≤ z ∧ z ≤ 10000 := fun _ h => by
      obtain ⟨z, hz⟩ : ∃ z, c[c.length - 1]? = some z := ⟨_, List.getElem?_eq_getElem (by omega)⟩
      exact ⟨z, hz, by rw [List.getLast?_eq_getElem?]; exact hz, (G.2 z (List.mem_of_getElem? hz))⟩
    -- what is the same for both kinds of words: from the lift's check on
    by_cases h2 : rest.length = 1
    · obtain ⟨b, rfl⟩ : ∃ b, rest = [b] := by
        match rest, h2 with
        | [b], _ => exact ⟨b, rfl⟩
      have bb := numR_bd b
      have hB := e84 b
      have hsr : srW c w = if (numR a).2 = true ∧ (numR b).2 = true ∧ 1 < (numR b).1 ∧ (numR a).1 ≤ 10000 ∧ c.length + (numR b).1.toNat ≤ 360 ∧ c.getLast? ≠ some (numR a).1 then some (c ++ List.replicate (numR b).1.toNat (numR a).1) else none := by unfold srW; rw [e]
      refine Round.yes (by simp) (Round.chk (by simp) (Round.at (v := tx b) rfl (Round.bind hB ?_)))
      by_cases c2 : (numR b).2 = true
      case neg =>
        refine Round.no (by simp [c2]) ?_
        by_cases c1 : (numR a).2 = true
        case neg => exact Round.yes (by simp [c1]) (Round.done (bad (by rw [hsr, if_neg (fun h => c1 h.1)]) (Evt.some _)))
        refine Round.no (by simp [c1]) (Round.yes rfl (Round.done (bad (by rw [hsr, if_neg (fun h => c2 h.2.1)]) (Evt.some _))))
      refine Round.yes c2 ?_
      by_cases c1 : (numR a).2 = true
      case neg => exact Round.yes (by simp [c1]) (Round.done (bad (by rw [hsr, if_neg (fun h => c1 h.1)]) (Evt.some _)))
      refine Round.no (by simp [c1]) ?_
      by_cases c3 : 1 < (numR b).1
      case neg => exact Round.yes (by show (!decide ((numR b).1 > 1)) = true; simp; omega) (Round.done (bad (by rw [hsr, if_neg (fun h => c3 h.2.2.1)]) (Evt.some _)))
      refine Round.no (by show ¬ (!decide ((numR b).1 > 1)) = true; simp; omega) (Round.bind lift ?_)
      by_cases c4 : (numR a).1 ≤ 10000
      case neg => exact Round.yes (by show (!inR (numR a).1 0 10000) = true; rw [show inR (numR a).1 0 10000 = false from by rw [← Bool.not_eq_true]; intro h; exact c4 (inR_iff.1 h).2]; rfl) (Round.done (bad (by rw [hsr, if_neg (fun h => c4 h.2.2.2.1)]) (Evt.some _)))
      refine Round.no (by show ¬ (!inR (numR a).1 0 10000) = true; rw [inR_iff.2 ⟨ba.1, c4⟩]; simp) ?_
      by_cases c5 : c.length + (numR b).1.toNat ≤ 360
      case neg =>
        refine Round.ite (fun _ => Round.done (bad (by rw [hsr, if_neg (fun h => c5 h.2.2.2.2.1)]) (Evt.some _))) (fun h => ?_)
        refine Round.yes ?_ (Round.done (bad (by rw [hsr, if_neg (fun h => c5 h.2.2.2.2.1)]) (Evt.some _)))
        show decide (wr .i64 ((c.length : Int) + (numR b).1) > 360) = true
        rw [wrap_id (by omega) (by omega)]
        exact decide_eq_true (by omega)
      refine Round.no (by show ¬ decide ((numR b).1 > 360) = true; rw [decide_eq_true_eq]; omega) (Round.no (by show ¬ decide (wr .i64 ((c.length : Int) + (numR b).1) > 360) = true; rw [wrap_id (by omega) (by omega), decide_eq_true_eq]; omega) ?_)
      by_cases c6 : 0 < c.length
      · obtain ⟨z, hz, hzl, z0, z1⟩ := hlast 0 c6
        have hw1 : wr .i64 ((c.length : Int) - 1) = ((c.length - 1 : Nat) : Int) := by rw [wrap_id (by omega) (by omega)]; omega
        refine Round.yes (decide_eq_true (by show (0 : Int) < (c.length : Int); omega)) (Round.chk (by rw [hw1]; exact decide_eq_true ⟨by omega, by omega⟩) (Round.at (v := z) (by rw [hw1, Int.toNat_natCast]; exact hz) ?_))
        by_cases c7 : z = (numR a).1
        · exact Round.yes (by show (wr .i64 z == (numR a).1) = true; rw [wrap_id (by omega) (by omega), c7]; simp) (Round.done (bad (by rw [hsr, if_neg (fun h => h.2.2.2.2.2 (by rw [hzl, c7]))]) (Evt.some _)))
        · refine Round.no (by show ¬ (wr .i64 z == (numR a).1) = true; rw [wrap_id (by omega) (by omega)]; simpa using c7) (e71_in _ c (i : Int) (numR a).1 (numR b).1 (by omega) (by omega) (by omega) ⟨_, by rw [hws], good _ (by rw [hsr, if_pos ⟨c1, c2, c3, c4, c5, by rw [hzl]; simpa using c7⟩])⟩)
      · have hc0 : c = [] := List.length_eq_zero_iff.1 (by omega)
        subst hc0
        exact Round.no (by simp) (Round.no (by simp) (e71_in _ [] (i : Int) (numR a).1 (numR b).1 (by simp) (by omega) (by omega) ⟨_, by rw [hws], good _ (by rw [hsr, if_pos ⟨c1, c2, c3, c4, c5, by simp⟩])⟩))
    · refine Round.no (by simp; omega) ?_
      have h1n : rest ≠ [] → srW c w = none := fun h => by
        unfold srW
        rw [e]
        match rest, h, h2 with
        | [_], _, h2 => exact absurd rfl h2
        | _ :: _ :: _, _, _ => rfl
      by_cases c1 : (numR a).2 = true
      case neg =>
        refine Round.yes (by simp [c1]) (Round.done (bad ?_ (Evt.some _)))
        by_cases hr : rest = []
        · subst hr
          unfold srW
          rw [e]
          exact if_neg (fun h => c1 h.1)
        · exact h1n hr
      refine Round.no (by simp [c1]) ?_
      by_cases hr : rest = []
      case neg =>
        have : rest.length ≠ 0 := fun h => hr (List.length_eq_zero_iff.1 h)
        exact Round.yes (by simp; omega) (Round.done (bad (h1n hr) (Evt.some _)))
      subst hr
      have hsr : srW c w = if (numR a).2 = true ∧ (numR a).1 ≤ 10000 ∧ c.length + 1 ≤ 360 ∧ c.getLast? ≠ some (numR a).1 then some (c ++ List.replicate 1 (numR a).1) else none := by unfold srW; rw [e]
      refine Round.no (by simp) (Round.bind lift ?_)
      by_cases c4 : (numR a).1 ≤ 10000
      case neg => exact Round.yes (by show (!inR (numR a).1 0 10000) = true; rw [show inR (numR a).1 0 10000 = false from by rw [← Bool.not_eq_true]; intro h; exact c4 (inR_iff.1 h).2]; rfl) (Round.done (bad (by rw [hsr, if_neg (fun h => c4 h.2.1)]) (Evt.some _)))
      refine Round.no (by show ¬ (!inR (numR a).1 0 10000) = true; rw [inR_iff.2 ⟨ba.1, c4⟩]; simp) (Round.no (by decide) ?_)
      by_cases c5 : c.length + 1 ≤ 360
      case neg =>
        refine Round.yes ?_ (Round.done (bad (by rw [hsr, if_neg (fun h => c5 h.2.2.1)]) (Evt.some _)))
        show decide (wr .i64 ((c.length : Int) + 1) > 360) = true
        rw [wrap_id (by omega) (by omega)]
        exact decide_eq_true (by omega)
      refine Round.no (by show ¬ decide (wr .i64 ((c.length : Int) + 1) > 360) = true; rw [wrap_id (by omega) (by omega), decide_eq_true_eq]; omega) ?_
      by_cases c6 : 0 < c.length
      · obtain ⟨z, hz, hzl, z0, z1⟩ := hlast 0 c6
        have hw1 : wr .i64 ((c.length : Int) - 1) = ((c.length - 1 : Nat) : Int) := by rw [wrap_id (by omega) (by omega)]; omega
        refine Round.yes (decide_eq_true (by show (0 : Int) < (c.length : Int); omega)) (Round.chk (by rw [hw1]; exact decide_eq_true ⟨by omega, by omega⟩) (Round.at (v := z) (by rw [hw1, Int.toNat_natCast]; exact hz) ?_))
        by_cases c7 : z = (numR a).1
        · exact Round.yes (by show (wr .i64 z == (numR a).1) = true; rw [wrap_id (by omega) (by omega), c7]; simp) (Round.done (bad (by rw [hsr, if_neg (fun h => h.2.2.2 (by rw [hzl, c7]))]) (Evt.some _)))
        · refine Round.no (by show ¬ (wr .i64 z == (numR a).1) = true; rw [wrap_id (by omega) (by omega)]; simpa using c7) (e71_in _ c (i : Int) (numR a).1 1 (by omega) (by omega) (by omega) ⟨_, by rw [hws], good _ (by rw [hsr, if_pos ⟨c1, c4, c5, by rw [hzl]; simpa using c7⟩]; rfl)⟩)
      · have hc0 : c = [] := List.length_eq_zero_iff.1 (by omega)
        subst hc0
        exact Round.no (by simp) (Round.no (by simp) (e71_in _ [] (i : Int) (numR a).1 1 (by simp) (by omega) (by omega) ⟨_, by rw [hws], good _ (by rw [hsr, if_pos ⟨c1, c4, c5, by simp⟩]; rfl)⟩))
  · intro c hL
    rw [Int.toNat_natCast, List.take_length] at hL
    have G := srW_good hL
    dsimp only
    rw [hL]
    refine Round.no (by rw [hlm]; simp) (Round.bind (e73 c (by have := G.1; omega)) (Round.done ?_))
    simp only [ite_self]
    exact Evt.some _
/- spec.l07Cam -/
theorem e29 (a w : List UInt8) (ha : a.length ≤ 1048576) : Evt (fun n => call T C n 29 (tx a, tx w, ())) ((lcS w a), ()) := by
  refine Evt.next ?_ (fun n => r29 n (tx a) (tx w))
  by_cases hl : a.length < w.length
  · have e : lcS w a = ([], false, ()) := if_neg (fun h => by
      have := (List.isPrefixOf_iff_prefix.1 h).length_le
      omega)
    rw [e]
    exact Evt.yes (decide_eq_true (by rw [tx_size, tx_size]; omega)) (Evt.some _)
  · refine Evt.no (by rw [tx_size, tx_size]; simp; omega) (Evt.chk (decide_eq_true (by rw [tx_size, tx_size]; omega)) ?_)
    have e1 : (tx a).extract (Int.toNat (0 : Int)) (Int.toNat ((tx w).size : Int)) = tx (a.take w.length) := by
      rw [tx_size, Int.toNat_natCast]
      have := tx_ext a 0 w.length
      simpa using this
    have e2 : (tx a).extract (Int.toNat ((tx w).size : Int)) (Int.toNat ((tx a).size : Int)) = tx (a.drop w.length) := by
      rw [tx_size, tx_size, Int.toNat_natCast, Int.toNat_natCast, tx_ext, List.take_of_length_le (by rw [List.length_drop]; exact Nat.le_refl _)]
    rw [e1, e2]
    simp only [tx_toList]
    by_cases hp : a.take w.length = w
    · have e : lcS w a = rdQ (a.drop w.length) := if_pos (List.isPrefixOf_iff_prefix.2 (by rw [← hp]; exact List.take_prefix _ _))
      refine Evt.no (by simp [hp]) (Evt.chk (decide_eq_true (by rw [tx_size, tx_size]; omega)) ?_)
      have hR := e71 (a.drop w.length) (by rw [List.length_drop]; omega)
      have hR2 : Evt (fun n => call T C n 71 (tx (a.drop w.length), ())) (rdQ (a.drop w.length), ()) := by
        unfold rdQ
        cases hf : foldO srW [] (splitC 32 (a.drop w.length)) with
        | none => rw [hf] at hR; exact hR
        | some c => rw [hf] at hR; simp only [ite_self] at hR; exact hR
      rw [e]
      exact Evt.bind hR2 (Evt.some _)
    · have e : lcS w a = ([], false, ()) := if_neg (fun h => by
        obtain ⟨r, hr⟩ := List.isPrefixOf_iff_prefix.1 h
        exact hp (by rw [← hr, List.take_left]))
      rw [e]
      exact Evt.yes (by simpa using hp) (Evt.some _)
/- spec.l00Min -/
theorem e138 (a b : Int) : Evt (fun n => call T C n 138 (a, b, ())) ((min a b, ()), ()) := by
  refine Evt.next (Evt.ite (fun h => ?_) (fun h => ?_)) (fun n => r138 n a b)
  · have h : a < b := of_decide_eq_true h
    rw [show min a b = a by omega]; exact Evt.some _
  · have h : ¬ a < b := by simpa using h
    rw [show min a b = b by omega]; exact Evt.some _
/- spec.l00Max -/
theorem e139 (a b : Int) : Evt (fun n => call T C n 139 (a, b, ())) ((max a b, ()), ()) := by
  refine Evt.next (Evt.ite (fun h => ?_) (fun h => ?_)) (fun n => r139 n a b)
  · have h : a > b := of_decide_eq_true h
    rw [show max a b = a by omega]; exact Evt.some _
  · have h : ¬ a > b := by simpa using h
    rw [show max a b = b by omega]; exact Evt.some _
/- spec.l01Range -/
theorem e109 (l : List Int) (hr : Rng l) (h0 : 0 < (l.length : Int)) : Evt (fun n => call T C n 109 (l, ())) ((mnL l, mxL l, ()), ()) := by
  have hlen := hr.len'
  obtain ⟨v0, hv0⟩ := at_of (l := l) (Int.le_refl 0) h0
  refine Evt.next (Evt.at hv0.idx ?_) (fun n => r109 n l)
  rw [hr.id hv0.mem]
  have hh := (head_at hv0).1
  refine for_evt' 1 (l.length : Int) (fun i (_ : Unit) => (l, mnF (l.take i.toNat) v0, mxF (l.take i.toNat) v0, i, ())) (fun _ _ => True) (b0 := ()) (by
    have := (head_at hv0).2
    show _ = (l, mnF (l.take 1) v0, mxF (l.take 1) v0, 1, ())
    rw [this]; simp [mnF, mxF]) (by omega) trivial ?_ ?_
  · intro i _ h2 h3 _
    obtain ⟨v, hv⟩ := at_of (l := l) (show 0 ≤ i by omega) h3
    simp only [wrap_id (x := i + 1) (by omega) (by omega)]
    refine Round.yes (decide_eq_true h3) (Round.at hv.idx (Round.bind (e138 _ _) (Round.at hv.idx (Round.bind (e139 _ _) (Round.again _ ⟨(), ?_, trivial⟩)))))
    rw [hv.take, mnF_snoc, mxF_snoc, hr.id hv.mem]
  · intro _ _
    have e1 : mnF (l.take (l.length : Int).toNat) v0 = mnL l := by rw [take_all, mnL, hh]
    have e2 : mxF (l.take (l.length : Int).toNat) v0 = mxL l := by rw [take_all, mxL, hh]
    simp only [e1, e2]
    exact Round.no (by simp) (Round.done (Evt.some _))
/- spec.l07Moves -/
theorem e72 (l : List Int) (hr : Rng l) : Evt (fun n => call T C n 72 (l, ())) ((mv l, ()), ()) := by
  have hlen := hr.len'
  refine Evt.next (Evt.bind (e73 l (by omega)) ?_) (fun n => r72 n l)
  unfold mv
  cases hok : okC l with
  | false => exact Evt.yes rfl (Evt.some _)
  | true =>
    have := okC_len hok
    exact Evt.no (by simp) (Evt.bind (e109 l hr (by omega)) (Evt.some _))
/- spec.l07Ok -/
theorem e30 (m : Mch) (h : RngM m) : Evt (fun n => call T C n 30 (m, ())) ((okM m, ()), ()) := by
  have hp := h.p.len'
  refine Evt.next (Evt.bind (e72 m.1 h.x) ?_) (fun n => r30 n m)
  unfold okM
  cases mv m.1 with
  | false => exact Evt.no (by simp) (Evt.some _)
  | true =>
    refine Evt.yes rfl (Evt.bind (e72 m.2.1 h.y) ?_)
    cases mv m.2.1 with
    | false => exact Evt.no (by simp) (Evt.some _)
    | true =>
      refine Evt.yes rfl (Evt.bind (e73 m.2.2.1 (by omega)) ?_)
      cases okC m.2.2.1 with
      | false => exact Evt.no (by simp) (Evt.some _)
      | true =>
        refine Evt.yes rfl ?_
        cases ((m.1.length : Int) == (m.2.1.length : Int)) with
        | false => exact Evt.no (by simp) (Evt.some _)
        | true => exact Evt.yes rfl (Evt.some _)
/- spec.ReadMachine -/
theorem e6 (l : List UInt8) (hl : l.length ≤ 1048576) : Evt (fun n => call T C n 6 (tx l, ())) (((rdMS l).1, (rdMS l).2.1, ()), ()) := by
  have hS := e28 10 l (by omega)
  refine Evt.next (Evt.bind hS ?_) (fun n => r6 n (tx l))
  clear hS
  have hwl : ∀ w ∈ splitC 10 l, w.length ≤ l.length := fun w hw => splitC_wlen w hw
  have hrd : rdMS l = match splitC 10 l with
    | [a, b, c, d] => if d = [] ∧ ((lcS [120, 32] a).2.1 = true ∧ (lcS [121, 32] b).2.1 = true ∧ (lcS [112, 101, 110, 32] c).2.1 = true ∧ okM ((lcS [120, 32] a).1, (lcS [121, 32] b).1, (lcS [112, 101, 110, 32] c).1, ()) = true) then (((lcS [120, 32] a).1, (lcS [121, 32] b).1, (lcS [112, 101, 110, 32] c).1, ()), 0, ()) else errM
    | _ => errM := rfl
  have hbad : rdMS l = errM → Evt (fun (_ : Nat) => some ((((([] : List Int), ([] : List Int), ([] : List Int), ()) : Mch), (5 : Int), ()), ())) (((rdMS l).1, (rdMS l).2.1, ()), ()) := fun h => by
    rw [h]
    exact Evt.some _
  generalize splitC 10 l = ws at hrd hwl ⊢
  dsimp only
  have hlm : (ws.map tx).length = ws.length := by simp
  by_cases h4 : ws.length = 4
  case neg =>
    refine Evt.yes (by rw [hlm]; simp; omega) (hbad ?_)
    rw [hrd]
    split
    · exact absurd rfl h4
    · rfl
  obtain ⟨a, b, c, d, rfl⟩ : ∃ a b c d, ws = [a, b, c, d] := by
    match ws, h4 with
    | [a, b, c, d], _ => exact ⟨a, b, c, d, rfl⟩
  have la := hwl a (by simp)
  have lb := hwl b (by simp)
  have lc := hwl c (by simp)
  simp only at hrd
  refine Evt.no (by simp) (Evt.chk rfl (Evt.at (x := tx d) rfl ?_))
  by_cases hd : d = []
  case neg =>
    refine Evt.yes ?_ (hbad (by rw [hrd, if_neg (fun h => hd h.1)]))
    have : ¬ ((tx d).toList = (⟨#[]⟩ : ByteArray).toList) := by
      rw [show (⟨#[]⟩ : ByteArray) = tx [] from rfl, tx_toList, tx_toList]
      exact hd
    simpa using this
  subst hd
  have c1 : (⟨#[120, 32]⟩ : ByteArray) = tx [120, 32] := rfl
  have c2 : (⟨#[121, 32]⟩ : ByteArray) = tx [121, 32] := rfl
  have c3 : (⟨#[112, 101, 110, 32]⟩ : ByteArray) = tx [112, 101, 110, 32] := rfl
  have h1 := e29 a [120, 32] (by omega)
  have h2 := e29 b [121, 32] (by omega)
  have h3 := e29 c [112, 101, 110, 32] (by omega)
  have k1 := lcS_ok (w := [120, 32]) (a := a)
  have k2 := lcS_ok (w := [121, 32]) (a := b)
  have k3 := lcS_ok (w := [112, 101, 110, 32]) (a := c)
  generalize lcS [120, 32] a = x at *
  generalize lcS [121, 32] b = y at *
  generalize lcS [112, 101, 110, 32] c = p at *
  refine Evt.no (by rw [show (⟨#[]⟩ : ByteArray) = tx [] from rfl]; simp) (Evt.chk rfl (Evt.at (x := tx a) rfl (Evt.bind h1 (Evt.chk rfl (Evt.at (x := tx b) rfl (Evt.bind h2 (Evt.chk rfl (Evt.at (x := tx c) rfl (Evt.bind h3 ?_)))))))))
  dsimp only
  by_cases e1 : x.2.1 = true
  case neg => exact Evt.yes (by simpa using e1) (hbad (by rw [hrd, if_neg (fun h => e1 h.2.1)]))
  refine Evt.no (by simp [e1]) ?_
  by_cases e2 : y.2.1 = true
  case neg => exact Evt.yes (by simpa using e2) (hbad (by rw [hrd, if_neg (fun h => e2 h.2.2.1)]))
  refine Evt.no (by simp [e2]) ?_
  by_cases e3 : p.2.1 = true
  case neg => exact Evt.yes (by simpa using e3) (hbad (by rw [hrd, if_neg (fun h => e3 h.2.2.2.1)]))
  refine Evt.no (by simp [e3]) ?_
  have hr : RngM ((x.1, y.1, p.1, ()) : Mch) := ⟨(k1 e1).2.2, (k2 e2).2.2, (k3 e3).2.2⟩
  refine Evt.bind (e30 (x.1, y.1, p.1, ()) hr) ?_
  dsimp only
  by_cases e4 : okM (x.1, y.1, p.1, ()) = true
  case neg => exact Evt.yes (by simpa using e4) (hbad (by rw [hrd, if_neg (fun h => e4 h.2.2.2.2)]))
  refine Evt.no (by simp [e4]) ?_
  rw [hrd, if_pos ⟨rfl, e1, e2, e3, e4⟩]
  exact Evt.some _
/- impl.ReadMachine -/
theorem e7 (l : List UInt8) (hl : l.length ≤ 1048576) : Evt (fun n => call T C n 7 (tx l, ())) (((rdMI l).1, (rdMI l).2.1, ()), ()) := by
  refine Evt.next ?_ (fun n => r7 n (tx l))
  dsimp only
  rw [if_pos (by rw [tx_size]; exact hl)]
  exact Evt.some _
/- laws.eqCam -/
theorem e37 (l : List Int) (hl : (l.length : Int) ≤ 140737488351232) : Evt (fun n => call T C n 37 (l, l, ())) ((true, ()), ()) := by
  refine Evt.next (Evt.no (by simp) ?_) (fun n => r37 n l l)
  refine for_evt 0 (l.length : Int) (fun i (_ : Unit) => (l, l, i, ())) (fun _ _ => True) (b0 := ()) (by omega) trivial ?_ ?_
  · intro i _ h2 h3 _
    obtain ⟨v, hv⟩ := at_of h2 h3
    refine Round.yes (decide_eq_true h3) (Round.at hv.idx (Round.at hv.idx (Round.no (by simp) (Round.again _ ⟨(), ?_, trivial⟩))))
    rw [wr_succ h2 h3 (by omega)]
  · intro _ _
    exact Round.no (by simp) (Round.done (Evt.some _))
/- laws.eqMachine -/
theorem e8 (m : Mch) (hx : (m.1.length : Int) ≤ 140737488351232) (hy : (m.2.1.length : Int) ≤ 140737488351232) (hp : (m.2.2.1.length : Int) ≤ 140737488351232) : Evt (fun n => call T C n 8 (m, m, ())) ((true, ()), ()) :=
  Evt.next (Evt.bind (e37 _ hx) (Evt.no (by simp) (Evt.bind (e37 _ hy) (Evt.no (by simp) (Evt.bind (e37 _ hp) (Evt.no (by simp) (Evt.some _))))))) (fun n => r8 n m m)
/- laws.markCam -/
theorem e38 (l : List Int) (k : Int) (h0 : 0 ≤ k) (h1 : k + l.length ≤ 4611686018427387904) : Evt (fun n => call T C n 38 (l, k, ())) ((k + l.length, ()), (mkL (wr .i16) l.length k, ())) := by
  refine Evt.next ?_ (fun n => r38 n l k)
  refine for_evt' 0 (l.length : Int) (fun i (b : List Int) => (b, k + i, i, ())) (fun i b => b.length = l.length ∧ b.take i.toNat = mkL (wr .i16) i.toNat k) (b0 := l) (by simp) (by omega) ⟨rfl, by simp [mkL]⟩ ?_ ?_
  · intro i b h2 h3 ⟨hb, ht⟩
    have hi : i < (b.length : Int) := by omega
    obtain ⟨u, hu⟩ := get_of_lt h2 hi
    refine Round.yes (decide_eq_true hi) (Round.chk (chk_at h2 hi) (Round.at hu (Round.again _ ⟨b.set i.toNat (wr .i16 (k + i)), ?_, by simpa using hb, ?_⟩)))
    · rw [wrap_id (x := k + i + 1) (by omega) (by omega), wrap_id (x := i + 1) (by omega) (by omega)]
      simp only [Int.add_assoc, id_eq]
    · rw [take_set_succ h2 hi, ht, show (i + 1).toNat = i.toNat + 1 by omega, mkL_succ, show ((i.toNat : Nat) : Int) = i by omega]
  · intro b ⟨hb, ht⟩
    have e : b = mkL (wr .i16) l.length k := by rw [← take_all b, hb, ht]; simp
    rw [← e]
    exact Round.no (by simp [hb]) (Round.done (Evt.some _))
/- laws.markMachine -/
theorem e9 (m : Mch) (k : Int) (h0 : 0 ≤ k) (h1 : k + totM m ≤ 4611686018427387904) : Evt (fun n => call T C n 9 (m, k, ())) ((k + totM m, ()), (mkM m k, ())) := by
  unfold totM at h1
  refine Evt.next (Evt.bind (e38 m.1 k h0 (by omega)) (Evt.bind (e38 m.2.1 (k + m.1.length) (by omega) (by omega)) (Evt.bind (e38 m.2.2.1 (k + m.1.length + m.2.1.length) (by omega) (by omega)) ((Evt.some _).of_eq fun n => ?_)))) (fun n => r9 n m k)
  simp only [totM, mkM]
  rw [show k + ((m.1.length : Int) + m.2.1.length + m.2.2.1.length) = k + m.1.length + m.2.1.length + m.2.2.1.length by omega]
  rfl
/- laws.heldCam -/
theorem e39 (m : Nat) (k : Int) (h0 : 0 ≤ k) (h1 : k + m ≤ 4611686018427387904) : Evt (fun n => call T C n 39 (mkL (wr .i16) m k, k, ())) ((k + m, ()), ()) := by
  refine Evt.next ?_ (fun n => r39 n _ k)
  refine for_evt' 0 (m : Int) (fun i (_ : Unit) => (mkL (wr .i16) m k, k + i, i, ())) (fun _ _ => True) (b0 := ()) (by simp) (by omega) trivial ?_ ?_
  · intro i _ h2 h3 _
    obtain ⟨v, hv⟩ := at_of (l := mkL (wr .i16) m k) h2 (by rw [mkL_len]; exact h3)
    have e := mkL_at (wr .i16) m k hv h2
    refine Round.yes (by rw [mkL_len]; exact decide_eq_true h3) (Round.at hv.idx (Round.no (by simp [e]) (Round.again _ ⟨(), ?_, trivial⟩)))
    rw [wrap_id (x := k + i + 1) (by omega) (by omega), wrap_id (x := i + 1) (by omega) (by omega)]
    simp only [Int.add_assoc]
  · intro _ _
    exact Round.no (by simp [mkL_len]) (Round.done (Evt.some _))
/- laws.heldMachine -/
theorem e10 (m : Mch) (k : Int) (h0 : 0 ≤ k) (h1 : k + totM m ≤ 4611686018427387904) : Evt (fun n => call T C n 10 (mkM m k, k, ())) ((k + totM m, ()), ()) := by
  unfold totM at h1
  refine Evt.next (Evt.bind (e39 m.1.length k h0 (by omega)) (Evt.no (by simp; omega) (Evt.bind (e39 m.2.1.length (k + m.1.length) (by omega) (by omega)) (Evt.no (by simp; omega) (Evt.bind (e39 m.2.2.1.length (k + m.1.length + m.2.1.length) (by omega) (by omega)) (Evt.no (by simp; omega) ((Evt.some _).of_eq fun n => ?_))))))) (fun n => r10 n (mkM m k) k)
  simp only [totM]
  rw [show k + ((m.1.length : Int) + m.2.1.length + m.2.2.1.length) = k + m.1.length + m.2.1.length + m.2.2.1.length by omega]
  rfl
/- laws.FnExactReadMachine -/
theorem e3 (a : ByteArray) (hd : DomA (C 3).params (a, ())) : Evt (fun n => call T C n 3 (a, ())) ((true, ()), ()) := by
  obtain ⟨l, rfl⟩ := tx_of a
  refine Evt.next (Evt.ite (fun _ => Evt.some _) (fun h => ?_)) (fun n => r3 n (tx l))
  have hl : l.length ≤ 1048576 := by
    simp only [decide_eq_true_eq, tx_size] at h
    omega
  obtain ⟨g1, g2, g3⟩ := rdMI_small l
  have hS := e6 l hl
  have hI := e7 l (by omega)
  rw [rdM_both] at hS
  generalize rdMI l = z at hS hI g1 g2 g3
  obtain ⟨m, c, u⟩ := z
  simp only at g1 g2 g3 hS hI
  have hE := e8 m (by omega) (by omega) (by omega)
  have hM := e9 m 1 (by omega) (by unfold totM; omega)
  have hH := e10 m 1 (by omega) (by unfold totM; omega)
  have pos : 0 ≤ totM m := by unfold totM; omega
  refine Evt.bind hS (Evt.bind hI (Evt.bind hE (Evt.no (by simp) (Evt.no (by simp) (Evt.bind hM (Evt.bind hH (Evt.no (by simp; omega) (Evt.no (by simp) (Evt.bind hI (Evt.bind hE (Evt.no (by simp) (Evt.no (by simp) (Evt.bind hH (Evt.no (by simp; omega) (Evt.no (by simp) (Evt.some _))))))))))))))))

end Go.Cams.YtjeakogmccogmaaGreatDoorLRm
