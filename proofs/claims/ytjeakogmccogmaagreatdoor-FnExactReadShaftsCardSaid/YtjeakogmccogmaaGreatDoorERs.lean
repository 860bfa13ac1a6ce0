/- What the functions that the law reaches come to. -/
import Derived.Test.YtjeakogmccogmaaGreatDoorRRs
import Derived.Test.YtjeakogmccogmaaGreatDoorPuAll
namespace Go.Cams.YtjeakogmccogmaaGreatDoorLRs
open Go Go.Fw Go.Proofs Go.Proofs.YtjeakogmccogmaaGreatDoor.LRs
/- spec.l01Split -/
theorem e28 (c : UInt8) (l : List UInt8) (hl : l.length ≤ 10000000) : Evt (fun n => call T C n 28 (tx l, (c.toNat : Int), ())) (((splitC c l).map tx, ()), ()) := by
  refine Evt.next ?_ (fun n => r28 n (tx l) (c.toNat : Int))
  have hsz : ((tx l).size : Int) = (l.length : Int) := by rw [tx_size]
  refine for_evt' 0 (l.length : Int) (fun i (b : List ByteArray × Int) => (tx l, (c.toNat : Int), b.1, b.2, i, ())) (fun i b => ∃ (ws : List (List UInt8)) (k : Nat), b = (ws.map tx, (k : Int)) ∧ (k : Int) ≤ i ∧ ws ++ splitC c (l.drop k) = splitC c l ∧ c ∉ (l.drop k).take (i.toNat - k) ∧ (ws.length : Int) ≤ i) (b0 := ([], 0)) rfl (by omega) ⟨[], 0, rfl, by omega, rfl, by simp, by simp⟩ ?_ ?_
  · rintro i _ i0 i1 ⟨ws, k, rfl, hk, hw, hc, hn⟩
    obtain ⟨i, rfl⟩ := Int.eq_ofNat_of_zero_le i0
    rw [Int.toNat_natCast] at hc
    dsimp only
    obtain ⟨d, hd⟩ : ∃ d, l[i]? = some d := ⟨_, List.getElem?_eq_getElem (by omega)⟩
    refine Round.yes (decide_eq_true (by rw [hsz]; exact i1)) (Round.at (nums_at hd) ?_)
    have e1 : wr .i64 ((i : Int) + 1) = (i : Int) + 1 := wr_succ i0 i1 (by omega)
    simp only [byte_eq]
    by_cases hdc : d = c
    · subst hdc
      refine Round.yes (by simp) (Round.chk (decide_eq_true ⟨by omega, by omega, by rw [hsz]; omega⟩) (Round.chk (decide_eq_true ?_) (Round.again _ ⟨(_, _), ?_, ws ++ [(l.drop k).take (i - k)], i + 1, rfl, ?_, ?_, ?_, ?_⟩)))
      · rw [List.length_map]; simp only [List.length_singleton]; omega
      · rw [Int.toNat_natCast, Int.toNat_natCast, tx_ext, e1, List.map_append]
        rfl
      · omega
      · rw [← hw, (congrArg (splitC d) (cut_at (by omega) hd)).trans (splitC_hit hc _)]; simp
      · simp
      · simp; omega
    · refine Round.no (by simpa using hdc) (Round.again _ ⟨(_, _), ?_, ws, k, rfl, ?_, hw, ?_, ?_⟩)
      · rw [e1]
      · omega
      · rw [show ((i : Int) + 1).toNat = i + 1 by omega, take_on (by omega) hd]
        intro h
        rcases List.mem_append.1 h with h | h
        · exact hc h
        · exact hdc (List.mem_singleton.1 h).symm
      · omega
  · rintro _ ⟨ws, k, rfl, hk, hw, hc, hn⟩
    rw [Int.toNat_natCast, take_rest] at hc
    dsimp only
    refine Round.no (by simp [hsz]) (Round.chk (decide_eq_true ⟨by omega, by rw [hsz]; omega, Int.le_refl _⟩) (Round.chk (decide_eq_true ?_) (Round.done ?_)))
    · rw [List.length_map]; simp only [List.length_singleton]; omega
    · rw [Int.toNat_natCast, hsz, Int.toNat_natCast, tx_ext, take_rest, ← hw, splitC_miss hc, List.map_append]
      exact Evt.some _
/- spec.l01Number -/
theorem e84 (l : List UInt8) : Evt (fun n => call T C n 84 (tx l, ())) (((numR l).1, (numR l).2, ()), ()) := by
  refine Evt.next ?_ (fun n => r84 n (tx l))
  have hsz : ((tx l).size : Int) = (l.length : Int) := by rw [tx_size]
  have no : ∀ h : ¬ (l ≠ [] ∧ l.length ≤ 9 ∧ (l.head? = some 48 → l.length ≤ 1) ∧ ∀ c ∈ l, isDg c = true), ∀ {f : Nat → Option ((Int × Bool × Unit) × Unit)}, Evt f (((0 : Int), false, ()), ()) → Evt f (((numR l).1, (numR l).2, ()), ()) := fun h f hf => by rw [numR_no h]; exact hf
  by_cases h0 : l = []
  · subst h0
    exact Evt.yes (beq_self_eq_true (tx []).toList) (no (fun h => h.1 rfl) (Evt.some _))
  refine Evt.no (by show ¬ (((tx l).toList == (tx []).toList) = true); rw [tx_toList, tx_toList, beq_iff_eq]; exact h0) ?_
  by_cases h9 : l.length ≤ 9
  case neg => exact Evt.yes (by simp [hsz]; omega) (no (fun h => h9 h.2.1) (Evt.some _))
  refine Evt.no (by simp [hsz]; omega) ?_
  obtain ⟨c, r, rfl⟩ : ∃ c r, l = c :: r := by cases l with | nil => exact absurd rfl h0 | cons c r => exact ⟨c, r, rfl⟩
  refine Evt.at (nums_at (l := c :: r) (i := 0) rfl) ?_
  refine Evt.ite (fun h => Evt.ite (fun h1 => ?a) (fun h1 => ?b)) (fun h => Evt.no (by simp) ?c)
  case a =>
    have hc : c = 48 := UInt8.toNat_inj.1 (by have := beq_iff_eq.1 h; show c.toNat = 48; omega)
    refine no (fun hh => ?_) (Evt.some _)
    have := hh.2.2.1 (by rw [hc]; rfl)
    simp only [cond_false, cond_true, hsz, decide_eq_true_eq] at h1
    omega
  case' b =>
    have hz : (c :: r).head? = some 48 → (c :: r).length ≤ 1 := fun _ => by
      simp only [cond_false, cond_true, hsz, decide_eq_true_eq] at h1
      omega
  case' c =>
    have hz : (c :: r).head? = some 48 → (c :: r).length ≤ 1 := fun e => by
      simp only [List.head?_cons, Option.some.injEq] at e
      subst e
      exact absurd rfl h
  all_goals
    refine for_evt' 0 ((c :: r).length : Int) (fun i (b : Int) => (tx (c :: r), b, i, ())) (fun i b => b = ((numV ((c :: r).take i.toNat) 0 : Nat) : Int) ∧ ∀ d ∈ (c :: r).take i.toNat, isDg d = true) (b0 := 0) rfl (by omega) ⟨rfl, by simp⟩ ?_ ?_
    · rintro i _ i0 i1 ⟨rfl, hd⟩
      obtain ⟨i, rfl⟩ := Int.eq_ofNat_of_zero_le i0
      rw [Int.toNat_natCast] at hd
      dsimp only
      rw [Int.toNat_natCast]
      obtain ⟨d, hi⟩ : ∃ d, (c :: r)[i]? = some d := ⟨_, List.getElem?_eq_getElem (by omega)⟩
      have ht : (c :: r).take (i + 1) = (c :: r).take i ++ [d] := by rw [List.take_add_one, hi]; rfl
      have bad : isDg d = false → ¬ ((c :: r) ≠ [] ∧ (c :: r).length ≤ 9 ∧ ((c :: r).head? = some 48 → (c :: r).length ≤ 1) ∧ ∀ e ∈ (c :: r), isDg e = true) := fun e hh => by
        have := hh.2.2.2 d (List.mem_of_getElem? hi)
        rw [e] at this; cases this
      refine Round.yes (decide_eq_true (by rw [hsz]; exact i1)) (Round.at (nums_at hi) (Round.ite (fun h2 => ?_) (fun h2 => ?_)))
      · exact Round.done (no (bad (by simp only [decide_eq_true_eq] at h2; unfold isDg; rw [Bool.and_eq_false_iff]; left; exact decide_eq_false (by omega))) (Evt.some _))
      refine Round.at (nums_at hi) (Round.ite (fun h3 => ?_) (fun h3 => ?_))
      · exact Round.done (no (bad (by simp only [cond_false, decide_eq_true_eq] at h3; unfold isDg; rw [Bool.and_eq_false_iff]; right; exact decide_eq_false (by omega))) (Evt.some _))
      simp only [cond_false, decide_eq_true_eq] at h2 h3
      have hg : isDg d = true := isDg_iff.2 ⟨by omega, by omega⟩
      have hb := numV_lt ((c :: r).take i) 0 0 (fun e he => (isDg_iff.1 (hd e he)).2) (by decide)
      have hb9 : 10 ^ (0 + ((c :: r).take i).length) ≤ 10 ^ 9 := Nat.pow_le_pow_right (by omega) (by rw [List.length_take]; omega)
      refine Round.at (nums_at hi) (Round.again _ ⟨_, ?_, rfl, ?_⟩)
      · rw [dig_wr (by omega) hg, wr_succ i0 i1 (by omega), show ((i : Int) + 1).toNat = i + 1 by omega, ht, numV_app]
        rfl
      · rw [show ((i : Int) + 1).toNat = i + 1 by omega, ht]
        intro e he
        rcases List.mem_append.1 he with he | he
        · exact hd e he
        · rw [List.mem_singleton.1 he]; exact hg
    · rintro _ ⟨rfl, hd⟩
      rw [Int.toNat_natCast, List.take_length] at hd
      dsimp only
      rw [Int.toNat_natCast, List.take_length]
      have e : numR (c :: r) = (((numV (c :: r) 0 : Nat) : Int), true) := if_pos ⟨h0, h9, hz, hd⟩
      rw [e]
      exact Round.no (by simp [hsz]) (Round.done (Evt.some _))
/- spec.l00In -/
theorem e85 (a b c : Int) : Evt (fun n => call T C n 85 (a, b, c, ())) ((inR a b c, ()), ()) := by
  refine Evt.next ?_ (fun n => r85 n a b c)
  refine Evt.ite (fun h => ?_) (fun h => ?_)
  · refine (Evt.some _).of_eq fun n => ?_
    have h : b ≤ a := of_decide_eq_true h
    simp [inR, h]
    rfl
  · refine (Evt.some _).of_eq fun n => ?_
    have h : ¬ b ≤ a := by simpa using h
    simp [inR, h]
    rfl
/- spec.l01Lift -/
theorem e108 (a : Int) : Evt (fun n => call T C n 108 (a, ())) ((inR a 0 10000, ()), ()) := Evt.next (Evt.bind (e85 a 0 10000) (Evt.some _)) (fun n => r108 n a)
/- spec.l01Steps -/
theorem e110 (a : Int) : Evt (fun n => call T C n 110 (a, ())) ((inR a 8 360, ()), ()) := Evt.next (Evt.bind (e85 a 8 360) (Evt.some _)) (fun n => r110 n a)
/- spec.l01Ok -/
theorem e73 (l : List Int) (hl : (l.length : Int) ≤ 140737488351232) : Evt (fun n => call T C n 73 (l, ())) ((okC l, ()), ()) := by
  refine Evt.next ?_ (fun n => r73 n l)
  refine Evt.bind (e110 _) ?_
  refine Evt.ite (fun h => ?_) (fun h => ?_)
  · refine (Evt.some _).of_eq fun n => ?_
    have h : inR (l.length : Int) 8 360 = false := by simpa using h
    simp [okC, h]
    rfl
  · have h : inR (l.length : Int) 8 360 = true := by simpa using h
    have he : okC l = l.all okV := by simp [okC, h]
    rw [he]
    refine loop_evt (fun (x : List Int × Int × Unit) => x.1 = l ∧ 0 ≤ x.2.1 ∧ x.2.1 ≤ (l.length : Int) ∧ l.all okV = (l.drop x.2.1.toNat).all okV) (fun (x : List Int × Int × Unit) => ((l.length : Int) - x.2.1).toNat) (x := (l, 0, ())) ⟨rfl, Int.le_refl _, by simp, by simp⟩ ?_
    rintro ⟨x1, i, _⟩ ⟨h', h0, h1, h2⟩
    simp only at h' h0 h1 h2
    subst h'
    refine Round.ite (fun hlt => ?_) (fun hge => ?_)
    · have hlt : i < (x1.length : Int) := of_decide_eq_true hlt
      obtain ⟨v, hv, hv'⟩ := idx_at h0 hlt
      have hd := drop_cons hv'
      refine Round.at hv (Round.bind (e108 _) (Round.ite (fun hb => ?_) (fun hb => ?_)))
      · have hb : okV v = false := by simpa [okV] using hb
        have h3 : x1.all okV = false := by rw [h2, hd]; simp [hb]
        rw [h3]
        exact Round.done (Evt.some _)
      · have hb : okV v = true := by simpa [okV] using hb
        have hw : wr .i64 (i + 1) = i + 1 := wrap_id (by omega) (by omega)
        refine Round.again _ ⟨⟨rfl, ?_, ?_, ?_⟩, ?_⟩ <;> simp only [hw]
        · omega
        · omega
        · rw [h2, hd, show (i + 1).toNat = i.toNat + 1 by omega]
          simp [hb]
        · omega
    · have hge : ¬ i < (x1.length : Int) := by simpa using hge
      have : x1.drop i.toNat = [] := List.drop_of_length_le (by omega)
      rw [h2, this]
      exact Round.done (Evt.some _)
/- spec.l01Read -/
theorem e71_in {α : Type} {y : α} {P : (List ByteArray × List Int × Int × Unit) → Prop} (W : List ByteArray) (out : List Int) (i v k : Int) (ho : out.length ≤ 1000) (hv : 0 ≤ v ∧ v ≤ 10000) (hk : 1 ≤ k ∧ k ≤ 360) (hP : P (W, out ++ List.replicate k.toNat v, wr .i64 (i + 1), ())) :
    Round (fun n (ag : (List ByteArray × List Int × Int × Unit) → Option α) => loopK (fun (x15 : (List ByteArray) × (List Int) × Int × Int × Int × Int × Unit) again16 => (if (decide (x15.2.2.2.2.2.1 < x15.2.2.2.2.1)) = true then chk (decide ((x15.2.1.length + ([(wr .i16 x15.2.2.2.1)] : (List Int)).length) * 2 ≤ 140737488355328)) (again16 (x15.1, (x15.2.1 ++ ([(wr .i16 x15.2.2.2.1)] : (List Int))), x15.2.2.1, x15.2.2.2.1, x15.2.2.2.2.1, (wr .i64 (x15.2.2.2.2.2.1 + (1 : Int))), ())) else ag (x15.1, x15.2.1, (wr .i64 (x15.2.2.1 + (1 : Int))), ()))) n (W, out, i, v, k, (0 : Int), ())) y P := by
  refine for_round' 0 k (fun j (b : List Int) => (W, b, i, v, k, j, ())) (fun j b => b = out ++ List.replicate j.toNat v) (b0 := out) rfl (by omega) (by simp) ?_ ?_
  · rintro j _ j0 j1 rfl
    dsimp only
    refine Round.yes (decide_eq_true j1) (Round.chk (decide_eq_true (by simp; omega)) (Round.again _ ⟨_, ?_, rfl⟩))
    rw [wrap16 (x := v) (by omega) (by omega), wr_succ j0 j1 (by omega), List.append_assoc, show (j + 1).toNat = j.toNat + 1 by omega, List.replicate_succ']
  · rintro _ rfl
    dsimp only
    exact Round.no (by simp) (Round.again _ hP)
theorem e71 (l : List UInt8) (hl : l.length ≤ 1048576) : Evt (fun n => call T C n 71 (tx l, ())) ((match foldO srW [] (splitC 32 l) with | some c => ((if okC c = true then c else c), okC c, ()) | none => (([] : List Int), false, ())), ()) := by
  refine Evt.next ?_ (fun n => r71 n (tx l))
  have hS := e28 32 l (by omega)
  have hn := splitC_len 32 l
  have hw := splitC_wlen (c := 32) (l := l)
  generalize splitC 32 l = ws at hS hn hw
  refine Evt.bind hS ?_
  have hlm : (((ws.map tx).length : Nat) : Int) = (ws.length : Int) := by simp
  refine for_evt' 0 (ws.length : Int) (fun i (c : List Int) => (ws.map tx, c, i, ())) (fun i c => foldO srW [] (ws.take i.toNat) = some c) (b0 := []) rfl (by omega) rfl ?_ ?_
  · intro i c i0 i1 hL
    obtain ⟨i, rfl⟩ := Int.eq_ofNat_of_zero_le i0
    rw [Int.toNat_natCast] at hL
    obtain ⟨w, hi⟩ : ∃ w, ws[i]? = some w := ⟨_, List.getElem?_eq_getElem (by omega)⟩
    have hwl := hw w (List.mem_of_getElem? hi)
    have G := srW_good hL
    have hvi : idx (ws.map tx) (i : Int) = some (tx w) := by
      unfold idx
      rw [if_pos (by omega), Int.toNat_natCast, List.getElem?_map, hi]; rfl
    have bad : srW c w = none → ∀ {f : Nat → Option ((List Int × Bool × Unit) × Unit)}, Evt f ((([] : List Int), false, ()), ()) → Evt f ((match foldO srW [] ws with | some c => ((if okC c = true then c else c), okC c, ()) | none => (([] : List Int), false, ())), ()) := fun h f hf => by
      rw [foldO_none hL hi h]; exact hf
    have good : ∀ d, srW c w = some d → foldO srW [] (ws.take ((i : Int) + 1).toNat) = some d := fun d h => by
      rw [show ((i : Int) + 1).toNat = i + 1 by omega, foldO_next hL hi, h]
    have hws := wr_succ (i := (i : Int)) i0 i1 (by omega)
    have hSw := e28 42 w (by omega)
    obtain ⟨a, rest, e⟩ := splitC_ne 42 w
    have hrl := splitC_len 42 w
    rw [e] at hSw hrl
    simp only [List.length_cons] at hrl
    have ba := numR_bd a
    have hA := e84 a
    dsimp only
    refine Round.yes (decide_eq_true (by rw [hlm]; exact i1)) (Round.at hvi (Round.bind hSw (Round.chk (by simp) (Round.at (v := tx a) rfl (Round.bind hA ?_)))))
    have hcl := G.1
    have lift : Evt (fun n => call T C n 108 ((numR a).1, ())) ((inR (numR a).1 0 10000, ()), ()) := e108 _
    have hll : ((c.length : Nat) : Int) ≤ 360 := by omega
    have hlast : ∀ (u : Int), 0 < c.length → ∃ z, c[c.length - 1]? = some z ∧ (c.getLast? = some z) ∧ 0 ≤ z ∧ z ≤ 10000 := fun _ h => by
      obtain ⟨z, hz⟩ : ∃ z, c[c.length - 1]? = some z := ⟨_, List.getElem?_eq_getElem (by omega)⟩
      exact ⟨z, hz, by rw [List.getLast?_eq_getElem?]; exact hz, (G.2 z (List.mem_of_getElem? hz))⟩
    -- what is the same for both kinds of words: from the lift's check on
    by_cases h2 : rest.length = 1
    · obtain ⟨b, rfl⟩ : ∃ b, rest = [b] := by
        match rest, h2 with
        | [b], _ => exact ⟨b, rfl⟩
      have bb := numR_bd b
      have hB := e84 b
      have hsr : srW c w = if (numR a).2 = true ∧ (numR b).2 = true ∧ 1 < (numR b).1 ∧ (numR a).1 ≤ 10000 ∧ c.length + (numR b).1.toNat ≤ 360 ∧ c.getLast? ≠ some (numR a).1 then some (c ++ List.replicate (numR b).1.toNat (numR a).1) else none := by unfold srW; rw [e]
      refine Round.yes (by simp) (Round.chk (by simp) (Round.at (v := tx b) rfl (Round.bind hB ?_)))
      by_cases c2 : (numR b).2 = true
      case neg =>
        refine Round.no (by simp [c2]) ?_
        by_cases c1 : (numR a).2 = true
        case neg => exact Round.yes (by simp [c1]) (Round.done (bad (by rw [hsr, if_neg (fun h => c1 h.1)]) (Evt.some _)))
        refine Round.no (by simp [c1]) (Round.yes rfl (Round.done (bad (by rw [hsr, if_neg (fun h => c2 h.2.1)]) (Evt.some _))))
      refine Round.yes c2 ?_
      by_cases c1 : (numR a).2 = true
      case neg => exact Round.yes (by simp [c1]) (Round.done (bad (by rw [hsr, if_neg (fun h => c1 h.1)]) (Evt.some _)))
      refine Round.no (by simp [c1]) ?_
      by_cases c3 : 1 < (numR b).1
      case neg => exact Round.yes (by show (!decide ((numR b).1 > 1)) = true; simp; omega) (Round.done (bad (by rw [hsr, if_neg (fun h => c3 h.2.2.1)]) (Evt.some _)))
      refine Round.no (by show ¬ (!decide ((numR b).1 > 1)) = true; simp; omega) (Round.bind lift ?_)
      by_cases c4 : (numR a).1 ≤ 10000
      case neg => exact Round.yes (by show (!inR (numR a).1 0 10000) = true; rw [show inR (numR a).1 0 10000 = false from by rw [← Bool.not_eq_true]; intro h; exact c4 (inR_iff.1 h).2]; rfl) (Round.done (bad (by rw [hsr, if_neg (fun h => c4 h.2.2.2.1)]) (Evt.some _)))
      refine Round.no (by show ¬ (!inR (numR a).1 0 10000) = true; rw [inR_iff.2 ⟨ba.1, c4⟩]; simp) ?_
      by_cases c5 : c.length + (numR b).1.toNat ≤ 360
      case neg =>
        refine Round.ite (fun _ => Round.done (bad (by rw [hsr, if_neg (fun h => c5 h.2.2.2.2.1)]) (Evt.some _))) (fun h => ?_)
        refine Round.yes ?_ (Round.done (bad (by rw [hsr, if_neg (fun h => c5 h.2.2.2.2.1)]) (Evt.some _)))
        show decide (wr .i64 ((c.length : Int) + (numR b).1) > 360) = true
        rw [wrap_id (by omega) (by omega)]
        exact decide_eq_true (by omega)
      refine Round.no (by show ¬ decide ((numR b).1 > 360) = true; rw [decide_eq_true_eq]; omega) (Round.no (by show ¬ decide (wr .i64 ((c.length : Int) + (numR b).1) > 360) = true; rw [wrap_id (by omega) (by omega), decide_eq_true_eq]; omega) ?_)
      by_cases c6 : 0 < c.length
      · obtain ⟨z, hz, hzl, z0, z1⟩ := hlast 0 c6
        have hw1 : wr .i64 ((c.length : Int) - 1) = ((c.length - 1 : Nat) : Int) := by rw [wrap_id (by omega) (by omega)]; omega
        refine Round.yes (decide_eq_true (by show (0 : Int) < (c.length : Int); omega)) (Round.chk (by rw [hw1]; exact decide_eq_true ⟨by omega, by omega⟩) (Round.at (v := z) (by rw [hw1, Int.toNat_natCast]; exact hz) ?_))
        by_cases c7 : z = (numR a).1
        · exact Round.yes (by show (wr .i64 z == (numR a).1) = true; rw [wrap_id (by omega) (by omega), c7]; simp) (Round.done (bad (by rw [hsr, if_neg (fun h => h.2.2.2.2.2 (by rw [hzl, c7]))]) (Evt.some _)))
        · refine Round.no (by show ¬ (wr .i64 z == (numR a).1) = true; rw [wrap_id (by omega) (by omega)]; simpa using c7) (e71_in _ c (i : Int) (numR a).1 (numR b).1 (by omega) (by omega) (by omega) ⟨_, by rw [hws], good _ (by rw [hsr, if_pos ⟨c1, c2, c3, c4, c5, by rw [hzl]; simpa using c7⟩])⟩)
      · have hc0 : c = [] := List.length_eq_zero_iff.1 (by omega)
        subst hc0
        exact Round.no (by simp) (Round.no (by simp) (e71_in _ [] (i : Int) (numR a).1 (numR b).1 (by simp) (by omega) (by omega) ⟨_, by rw [hws], good _ (by rw [hsr, if_pos ⟨c1, c2, c3, c4, c5, by simp⟩])⟩))
    · refine Round.no (by simp; omega) ?_
      have h1n : rest ≠ [] → srW c w = none := fun h => by
        unfold srW
        rw [e]
        match rest, h, h2 with
        | [_], _, h2 => exact absurd rfl h2
        | _ :: _ :: _, _, _ => rfl
      by_cases c1 : (numR a).2 = true
      case neg =>
        refine Round.yes (by simp [c1]) (Round.done (bad ?_ (Evt.some _)))
        by_cases hr : rest = []
        · subst hr
          unfold srW
          rw [e]
          exact if_neg (fun h => c1 h.1)
        · exact h1n hr
      refine Round.no (by simp [c1]) ?_
      by_cases hr : rest = []
      case neg =>
        have : rest.length ≠ 0 := fun h => hr (List.length_eq_zero_iff.1 h)
        exact Round.yes (by simp; omega) (Round.done (bad (h1n hr) (Evt.some _)))
      subst hr
      have hsr : srW c w = if (numR a).2 = true ∧ (numR a).1 ≤ 10000 ∧ c.length + 1 ≤ 360 ∧ c.getLast? ≠ some (numR a).1 then some (c ++ List.replicate 1 (numR a).1) else none := by unfold srW; rw [e]
      refine Round.no (by simp) (Round.bind lift ?_)
      by_cases c4 : (numR a).1 ≤ 10000
      case neg => exact Round.yes (by show (!inR (numR a).1 0 10000) = true; rw [show inR (numR a).1 0 10000 = false from by rw [← Bool.not_eq_true]; intro h; exact c4 (inR_iff.1 h).2]; rfl) (Round.done (bad (by rw [hsr, if_neg (fun h => c4 h.2.1)]) (Evt.some _)))
      refine Round.no (by show ¬ (!inR (numR a).1 0 10000) = true; rw [inR_iff.2 ⟨ba.1, c4⟩]; simp) (Round.no (by decide) ?_)
      by_cases c5 : c.length + 1 ≤ 360
      case neg =>
        refine Round.yes ?_ (Round.done (bad (by rw [hsr, if_neg (fun h => c5 h.2.2.1)]) (Evt.some _)))
        show decide (wr .i64 ((c.length : Int) + 1) > 360) = true
        rw [wrap_id (by omega) (by omega)]
        exact decide_eq_true (by omega)
      refine Round.no (by show ¬ decide (wr .i64 ((c.length : Int) + 1) > 360) = true; rw [wrap_id (by omega) (by omega), decide_eq_true_eq]; omega) ?_
      by_cases c6 : 0 < c.length
      · obtain ⟨z, hz, hzl, z0, z1⟩ := hlast 0 c6
        have hw1 : wr .i64 ((c.length : Int) - 1) = ((c.length - 1 : Nat) : Int) := by rw [wrap_id (by omega) (by omega)]; omega
        refine Round.yes (decide_eq_true (by show (0 : Int) < (c.length : Int); omega)) (Round.chk (by rw [hw1]; exact decide_eq_true ⟨by omega, by omega⟩) (Round.at (v := z) (by rw [hw1, Int.toNat_natCast]; exact hz) ?_))
        by_cases c7 : z = (numR a).1
        · exact Round.yes (by show (wr .i64 z == (numR a).1) = true; rw [wrap_id (by omega) (by omega), c7]; simp) (Round.done (bad (by rw [hsr, if_neg (fun h => h.2.2.2 (by rw [hzl, c7]))]) (Evt.some _)))
        · refine Round.no (by show ¬ (wr .i64 z == (numR a).1) = true; rw [wrap_id (by omega) (by omega)]; simpa using c7) (e71_in _ c (i : Int) (numR a).1 1 (by omega) (by omega) (by omega) ⟨_, by rw [hws], good _ (by rw [hsr, if_pos ⟨c1, c4, c5, by rw [hzl]; simpa using c7⟩]; rfl)⟩)
      · have hc0 : c = [] := List.length_eq_zero_iff.1 (by omega)
        subst hc0
        exact Round.no (by simp) (Round.no (by simp) (e71_in _ [] (i : Int) (numR a).1 1 (by simp) (by omega) (by omega) ⟨_, by rw [hws], good _ (by rw [hsr, if_pos ⟨c1, c4, c5, by simp⟩]; rfl)⟩))
  · intro c hL
    rw [Int.toNat_natCast, List.take_length] at hL
    have G := srW_good hL
    dsimp only
    rw [hL]
    refine Round.no (by rw [hlm]; simp) (Round.bind (e73 c (by have := G.1; omega)) (Round.done ?_))
    simp only [ite_self]
    exact Evt.some _
/- spec.l04Read -/
theorem e40 (l : List UInt8) (hl : l.length ≤ 1048576) : Evt (fun n => call T C n 40 (tx l, ())) (srShR l, ()) := by
  refine Evt.next (Evt.bind (e28 32 l (by omega)) ?_) (fun n => r40 n (tx l))
  have hw := splitC_wlen (c := 32) (l := l)
  have hj := (splitC_spec 32 l).1
  have hz : ∀ {f : Nat → Option ((Sft × Bool × Unit) × Unit)}, srSh l = none → Evt f ((((0 : Int), (0 : Int), (0 : Int), ([] : List Int), ()), false, ()), ()) → Evt f (srShR l, ()) := fun h hf => by
    rw [srShR_none h]
    exact hf
  by_cases h4 : (splitC 32 l).length < 4
  · refine Evt.yes (decide_eq_true (by rw [List.length_map]; omega)) (hz ?_ (Evt.some _))
    unfold srSh
    split
    · rename_i e
      rw [e] at h4
      simp at h4
      omega
    · rfl
  refine Evt.no (by rw [List.length_map, decide_eq_true_eq]; omega) ?_
  obtain ⟨a, b, c, d, ws, e⟩ : ∃ a b c d ws, splitC 32 l = a :: b :: c :: d :: ws := by
    match hh : splitC 32 l, h4 with
    | a :: b :: c :: d :: ws, _ => exact ⟨a, b, c, d, ws, rfl⟩
    | [], h4 => simp at h4
    | [_], h4 => simp at h4
    | [_, _], h4 => simp at h4
    | [_, _, _], h4 => simp at h4
  rw [e] at hj hw
  rw [join_cons2, join_cons2, join_cons2] at hj
  have hlen : a.length + b.length + c.length + 3 ≤ l.length := by rw [← hj]; simp; omega
  have hpos : ∀ {A : List UInt8} {k : Nat}, True → True := fun _ => trivial
  have e3 : wr .i64 (wr .i64 (wr .i64 (((tx a).size : Int) + ((tx b).size : Int)) + ((tx c).size : Int)) + 3) = ((a.length + b.length + c.length + 3 : Nat) : Int) := by
    rw [tx_size, tx_size, tx_size, wrap_id (x := (a.length : Int) + (b.length : Int)) (by omega) (by omega), wrap_id (x := (a.length : Int) + (b.length : Int) + (c.length : Int)) (by omega) (by omega), wrap_id (by omega) (by omega)]
    omega
  have hx : (tx l).extract (Int.toNat ((a.length + b.length + c.length + 3 : Nat) : Int)) (Int.toNat ((tx l).size : Int)) = tx (l.drop (a.length + b.length + c.length + 3)) := by
    rw [tx_size, Int.toNat_natCast, Int.toNat_natCast, tx_ext, take_rest]
  have hA := e84 a
  have hB := e84 b
  have hC := e84 c
  have ba := numR_bd a
  have bb := numR_bd b
  have bc := numR_bd c
  have hR := e71 (l.drop (a.length + b.length + c.length + 3)) (by rw [List.length_drop]; omega)
  have hs : srSh l = match foldO srW [] (splitC 32 (l.drop (a.length + b.length + c.length + 3))) with
    | some k => if (numR a).2 = true ∧ (numR b).2 = true ∧ (numR c).2 = true ∧ okC k = true ∧ (numR a).1 ≤ 60 ∧ (numR b).1 ≤ 60 ∧ (numR c).1 ≤ 360 then some ((numR a).1, (numR b).1, (numR c).1, k, ()) else none
    | none => none := by unfold srSh; rw [e]; rfl
  rw [e]
  refine Evt.chk (by simp; omega) (Evt.at (x := tx a) rfl (Evt.bind hA (Evt.chk (decide_eq_true ⟨by omega, by simp; omega⟩) (Evt.at (x := tx b) rfl (Evt.bind hB (Evt.chk (decide_eq_true ⟨by omega, by simp; omega⟩) (Evt.at (x := tx c) rfl (Evt.bind hC ?_))))))))
  refine Evt.chk (by simp; omega) (Evt.at (x := tx a) rfl (Evt.chk (decide_eq_true ⟨by omega, by simp; omega⟩) (Evt.at (x := tx b) rfl (Evt.chk (decide_eq_true ⟨by omega, by simp; omega⟩) (Evt.at (x := tx c) rfl ?_)))))
  rw [e3]
  refine Evt.chk (decide_eq_true ⟨by omega, by rw [tx_size]; omega, Int.le_refl _⟩) ?_
  rw [hx]
  refine Evt.bind hR ?_
  by_cases c1 : (numR a).2 = true
  case neg => exact Evt.yes (by simp [c1]) (hz (by rw [hs]; split; exact if_neg (fun h => c1 h.1); rfl) (Evt.some _))
  refine Evt.no (by simp [c1]) ?_
  by_cases c2 : (numR b).2 = true
  case neg => exact Evt.yes (by simp [c2]) (hz (by rw [hs]; split; exact if_neg (fun h => c2 h.2.1); rfl) (Evt.some _))
  refine Evt.no (by simp [c2]) ?_
  by_cases c3 : (numR c).2 = true
  case neg => exact Evt.yes (by simp [c3]) (hz (by rw [hs]; split; exact if_neg (fun h => c3 h.2.2.1); rfl) (Evt.some _))
  refine Evt.no (by simp [c3]) ?_
  cases hk : foldO srW [] (splitC 32 (l.drop (a.length + b.length + c.length + 3))) with
  | none => exact Evt.yes rfl (hz (by rw [hs, hk]) (Evt.some _))
  | some k =>
    rw [hk] at hs
    simp only at hs
    simp only [ite_self]
    by_cases c4 : okC k = true
    case neg => exact Evt.yes (by simp [c4]) (hz (by rw [hs, if_neg (fun h => c4 h.2.2.2.1)]) (Evt.some _))
    refine Evt.no (by simp [c4]) ?_
    by_cases c5 : (numR a).1 ≤ 60
    case neg => exact Evt.yes (by show decide ((numR a).1 > 60) = true; exact decide_eq_true (by omega)) (hz (by rw [hs, if_neg (fun h => c5 h.2.2.2.2.1)]) (Evt.some _))
    refine Evt.no (by show ¬ decide ((numR a).1 > 60) = true; rw [decide_eq_true_eq]; omega) ?_
    by_cases c6 : (numR b).1 ≤ 60
    case neg => exact Evt.yes (by show decide ((numR b).1 > 60) = true; exact decide_eq_true (by omega)) (hz (by rw [hs, if_neg (fun h => c6 h.2.2.2.2.2.1)]) (Evt.some _))
    refine Evt.no (by show ¬ decide ((numR b).1 > 60) = true; rw [decide_eq_true_eq]; omega) ?_
    by_cases c7 : (numR c).1 ≤ 360
    case neg => exact Evt.yes (by show decide ((numR c).1 > 360) = true; exact decide_eq_true (by omega)) (hz (by rw [hs, if_neg (fun h => c7 h.2.2.2.2.2.2)]) (Evt.some _))
    refine Evt.no (by show ¬ decide ((numR c).1 > 360) = true; rw [decide_eq_true_eq]; omega) ?_
    rw [srShR_some (hs.trans (if_pos ⟨c1, c2, c3, c4, c5, c6, c7⟩)), wrap16 (x := (numR a).1) (by omega) (by omega), wrap16 (x := (numR b).1) (by omega) (by omega), wrap16 (x := (numR c).1) (by omega) (by omega)]
    exact Evt.some _
/- spec.l04Ok -/
theorem e41 (l : List Sft) (hl : Small l) : Evt (fun n => call T C n 41 (l, ())) ((okA l, ()), ()) := by
  refine Evt.next ?_ (fun n => r41 n l)
  refine Evt.bind (e85 _ _ _) ?_
  refine Evt.ite (fun h => ?_) (fun h => ?_)
  · refine (Evt.some _).of_eq fun n => ?_
    have h : inR (l.length : Int) 1 6 = false := by simpa using h
    simp [okA, h]
    rfl
  · have h : inR (l.length : Int) 1 6 = true := by simpa using h
    have he : okA l = l.all okS := by simp [okA, h]
    rw [he]
    have hl1 := hl.1
    refine loop_evt (fun (x : List Sft × Int × Unit) => x.1 = l ∧ 0 ≤ x.2.1 ∧ x.2.1 ≤ (l.length : Int) ∧ l.all okS = (l.drop x.2.1.toNat).all okS) (fun (x : List Sft × Int × Unit) => ((l.length : Int) - x.2.1).toNat) (x := (l, 0, ())) ⟨rfl, Int.le_refl _, by simp, by simp⟩ ?_
    rintro ⟨x1, i, _⟩ ⟨h', h0, h1, h2⟩
    simp only at h' h0 h1 h2
    subst h'
    refine Round.ite (fun hlt => ?_) (fun hge => ?_)
    · have hlt : i < (x1.length : Int) := of_decide_eq_true hlt
      obtain ⟨v, hv, hv'⟩ := idx_at h0 hlt
      have hd := drop_cons hv'
      have bad : okS v = false → x1.all okS = false := fun hb => by rw [h2, hd]; simp [hb]
      refine Round.at hv (Round.bind (e85 _ _ _) (Round.ite (fun hb => ?_) (fun hb1 => ?_)))
      · have hb : inR (wr .i64 v.1) 1 60 = false := by simpa using hb
        rw [bad (by simp [okS, hb])]
        exact Round.done (Evt.some _)
      refine Round.bind (e85 _ _ _) (Round.ite (fun hb => ?_) (fun hb2 => ?_))
      · have hb : inR (wr .i64 v.2.1) 1 60 = false := by simpa using hb
        rw [bad (by simp [okS, hb])]
        exact Round.done (Evt.some _)
      refine Round.bind (e73 _ (hl.get hv')) (Round.ite (fun hb => ?_) (fun hb3 => ?_))
      · have hb : okC v.2.2.2.1 = false := by simpa using hb
        rw [bad (by simp [okS, hb])]
        exact Round.done (Evt.some _)
      refine Round.bind (e85 _ _ _) (Round.ite (fun hb => ?_) (fun hb4 => ?_))
      · have hb : inR (wr .i64 v.2.2.1) 0 (wr .i64 ((v.2.2.2.1.length : Int) - 1)) = false := by simpa using hb
        rw [bad (by simp [okS, hb])]
        exact Round.done (Evt.some _)
      have hb : okS v = true := by
        simp only [Bool.not_eq_true', Bool.not_eq_false, cond_false] at hb1 hb2 hb3 hb4
        simp [okS, hb1, hb2, hb3, hb4]
      have hw : wr .i64 (i + 1) = i + 1 := wrap_id (by omega) (by omega)
      refine Round.again _ ⟨⟨rfl, ?_, ?_, ?_⟩, ?_⟩ <;> simp only [hw]
      · omega
      · omega
      · rw [h2, hd, show (i + 1).toNat = i.toNat + 1 by omega]
        simp [hb]
      · omega
    · have hge : ¬ i < (x1.length : Int) := by simpa using hge
      have : x1.drop i.toNat = [] := List.drop_of_length_le (by omega)
      rw [h2, this]
      exact Round.done (Evt.some _)
/- spec.ReadShafts -/
theorem e11 (l : List UInt8) (hl : l.length ≤ 1048576) : Evt (fun n => call T C n 11 (tx l, ())) (((rdS l).1, (rdS l).2, ()), ()) := by
  refine Evt.next (Evt.bind (e28 10 l (by omega)) ?_) (fun n => r11 n (tx l))
  have hn := splitC_len 10 l
  have hw := splitC_wlen (c := 10) (l := l)
  obtain ⟨w0, ws0, e0⟩ := splitC_ne 10 l
  have hpos : 1 ≤ (splitC 10 l).length := by rw [e0]; simp
  have hrd : rdS l = if (splitC 10 l).getLast? = some [] then match mapO srSh (splitC 10 l).dropLast with
    | some L => if okA L = true then (L, (0 : Int)) else ([], (5 : Int))
    | none => ([], (5 : Int))
  else ([], (5 : Int)) := rfl
  generalize splitC 10 l = ws at hn hw hpos hrd
  obtain ⟨m, hm⟩ : ∃ m, ws.length = m + 1 := ⟨ws.length - 1, by omega⟩
  obtain ⟨z, hz⟩ : ∃ z, ws[m]? = some z := ⟨_, List.getElem?_eq_getElem (by omega)⟩
  have hlast : ws.getLast? = some z := by rw [List.getLast?_eq_getElem?, hm]; exact hz
  have hdl : ws.dropLast = ws.take m := by rw [List.dropLast_eq_take, hm]; rfl
  have hlm : (((ws.map tx).length : Nat) : Int) = (m : Int) + 1 := by rw [List.length_map, hm]; omega
  have hw1 : wr .i64 ((((ws.map tx).length : Nat) : Int) - 1) = (m : Int) := by rw [hlm, wrap_id (by omega) (by omega)]; omega
  rw [hlast, hdl] at hrd
  refine Evt.chk (by rw [hw1, hlm]; exact decide_eq_true ⟨by omega, by omega⟩) (Evt.at (x := tx z) (by rw [hw1, Int.toNat_natCast, List.getElem?_map, hz]; rfl) ?_)
  have hok0 : ((tx z).toList == (⟨#[]⟩ : ByteArray).toList) = decide (z = []) := by
    show ((tx z).toList == (tx []).toList) = _
    rw [tx_toList, tx_toList]
    rw [Bool.eq_iff_iff, beq_iff_eq, decide_eq_true_eq]
  rw [hok0]
  refine for_evt' 0 (m : Int) (fun i (b : List Sft × Bool) => (ws.map tx, b.1, b.2, i, ())) (fun i b => (b.1.length : Int) ≤ i ∧ ((b.2 = true ∧ z = [] ∧ mapO srSh (ws.take i.toNat) = some b.1) ∨ (b.2 = false ∧ rdS l = ([], 5)))) (b0 := ([], decide (z = []))) rfl (by omega) ⟨by simp, by
    by_cases hz0 : z = []
    · left; exact ⟨decide_eq_true hz0, hz0, rfl⟩
    · right; exact ⟨decide_eq_false hz0, by rw [hrd, if_neg (fun h => hz0 (Option.some.inj h))]⟩⟩ ?_ ?_
  · rintro i ⟨L, ok⟩ i0 i1 ⟨hL, hP⟩
    obtain ⟨i, rfl⟩ := Int.eq_ofNat_of_zero_le i0
    have hws := wr_succ (i := (i : Int)) i0 i1 (by omega)
    dsimp only at hL hP ⊢
    refine Round.yes (by rw [hws, hlm]; exact decide_eq_true (by omega)) ?_
    rcases hP with ⟨rfl, hz0, hmap⟩ | ⟨rfl, herr⟩
    · obtain ⟨w, hi⟩ : ∃ w, ws[i]? = some w := ⟨_, List.getElem?_eq_getElem (by omega)⟩
      have hwl := hw w (List.mem_of_getElem? hi)
      rw [Int.toNat_natCast] at hmap
      have hvi : idx (ws.map tx) (i : Int) = some (tx w) := by
        unfold idx
        rw [if_pos (by omega), Int.toNat_natCast, List.getElem?_map, hi]; rfl
      refine Round.yes rfl (Round.at hvi (Round.bind (e40 w (by omega)) ?_))
      cases hs : srSh w with
      | some s =>
        rw [srShR_some hs]
        dsimp only
        refine Round.chk (decide_eq_true (by simp only [List.length_singleton]; omega)) (Round.again _ ⟨(L ++ [s], true), ?_, ?_, ?_⟩)
        · rw [hws]
        · simp; omega
        · left
          refine ⟨rfl, hz0, ?_⟩
          rw [show ((i : Int) + 1).toNat = i + 1 by omega, List.take_add_one, hi]
          exact mapO_snoc hs hmap
      | none =>
        have hbad : rdS l = ([], 5) := by
          rw [hrd]
          split
          · rw [mapO_none hs (show w ∈ ws.take m from by
              have : (ws.take m)[i]? = some w := by rw [List.getElem?_take_of_lt (by omega)]; exact hi
              exact List.mem_of_getElem? this)]
          · rfl
        rw [srShR_none hs]
        dsimp only
        refine Round.chk (decide_eq_true (by simp only [List.length_singleton]; omega)) (Round.again _ ⟨(L ++ [(0, 0, 0, [], ())], false), ?_, ?_, ?_⟩)
        · rw [hws]
        · simp; omega
        · right; exact ⟨rfl, hbad⟩
    · rw [herr]
      exact Round.no (by simp) (Round.yes rfl (Round.done (Evt.some _)))
  · rintro ⟨L, ok⟩ ⟨hL, hP⟩
    dsimp only at hL hP ⊢
    have hws : wr .i64 ((m : Int) + 1) = (m : Int) + 1 := wrap_id (by omega) (by omega)
    refine Round.no (by rw [hws, hlm]; simp) ?_
    rcases hP with ⟨rfl, hz0, hmap⟩ | ⟨rfl, herr⟩
    · rw [Int.toNat_natCast] at hmap
      rw [if_pos (by rw [hz0]), hmap] at hrd
      simp only at hrd
      have hS : Small L := ⟨by omega, fun s hs => by
        obtain ⟨x, _, hx⟩ := (mapO_el hmap).2 s hs
        have := (srSh_rng hx).2
        omega⟩
      refine Round.no (by simp) (Round.bind (e41 L hS) ?_)
      cases ho : okA L with
      | false =>
        rw [hrd, if_neg (show ¬ okA L = true by rw [ho]; simp)]
        exact Round.yes rfl (Round.done (Evt.some _))
      | true =>
        rw [hrd, if_pos ho]
        exact Round.no (by simp) (Round.done (Evt.some _))
    · rw [herr]
      exact Round.yes rfl (Round.done (Evt.some _))
/- strings.TrimSuffix -/
theorem e33 (l s : List UInt8) (hl : l.length ≤ 10000000) : Evt (fun n => call T C n 33 (tx l, tx s, ())) ((tx (Lib.trimSuffix l s), ()), ()) := by
  refine Evt.next ?_ (fun n => r33 n (tx l) (tx s))
  dsimp only
  rw [if_pos (by rw [tx_size]; omega)]
  exact Evt.some _
/- strings.Split -/
theorem e42 {c : UInt8} {w : List UInt8} {ws : List (List UInt8)} (h : c ∉ w) (hs : ∀ v ∈ ws, c ∉ v) (hl : (Lib.join (w :: ws) [c]).length ≤ 1000000) : Evt (fun n => call T C n 42 (tx (Lib.join (w :: ws) [c]), tx [c], ())) (((w :: ws).map tx, ()), ()) := by
  refine Evt.next ?_ (fun n => r42 n (tx (Lib.join (w :: ws) [c])) (tx [c]))
  dsimp only
  rw [if_pos ⟨by rw [tx_size]; omega, by rw [tx_size]; simp⟩, split_tx h hs]
  exact Evt.some _
theorem e42_2 (c : UInt8) (l : List UInt8) (hl : l.length ≤ 10000000) : Evt (fun n => call T C n 42 (tx l, tx [c], ())) (((splitC c l).map tx, ()), ()) := by
  refine Evt.next ?_ (fun n => r42 n (tx l) (tx [c]))
  dsimp only
  rw [if_pos ⟨by rw [tx_size]; omega, by rw [tx_size]; simp⟩, split_all]
  exact Evt.some _
/- strings.SplitN -/
theorem e31 (l : List UInt8) (hl : l.length ≤ 10000000) : Evt (fun n => call T C n 31 (tx l, tx [32], (4 : Int), ())) (((splitN4 l).map tx, ()), ()) := by
  refine Evt.next ?_ (fun n => r31 n (tx l) (tx [32]) 4)
  dsimp only
  rw [if_pos ⟨by rw [tx_size]; omega, by rw [tx_size]; simp, by omega, by omega⟩, show Int.toNat 4 = 4 from rfl, splitN_tx]
  exact Evt.some _
/- strings.Cut -/
theorem e32 (l s : List UInt8) (hl : l.length ≤ 10000000) : Evt (fun n => call T C n 32 (tx l, tx s, ())) ((tx (Lib.cut l s).1, tx (Lib.cut l s).2.1, (Lib.cut l s).2.2, ()), ()) := by
  refine Evt.next ?_ (fun n => r32 n (tx l) (tx s))
  dsimp only
  rw [if_pos (by rw [tx_size]; omega)]
  exact Evt.some _
/- strconv.ParseInt -/
theorem e57 {u : Nat} (h : u ≤ 9223372036854775807) : Evt (fun n => call T C n 57 (tx (Lib.decDigits u), 10, 64, ())) (((u : Int), false, ()), ()) := by
  have l1 := dec_len h
  refine Evt.next ?_ (fun n => r57 n (tx (Lib.decDigits u)) 10 64)
  dsimp only
  rw [if_pos ⟨by rw [tx_size]; omega, rfl, rfl⟩, tx_list, parse_int h]
  exact Evt.some _
/- strconv.FormatInt -/
theorem e101 (u : Nat) (h : u ≤ 9223372036854775807) : Evt (fun n => call T C n 101 ((u : Int), 10, ())) ((tx (Lib.decDigits u), ()), ()) := by
  refine Evt.next ?_ (fun n => r101 n u 10)
  dsimp only
  rw [if_pos ⟨rfl, by omega, by omega⟩, Lib.itoa_nonneg]
  exact Evt.some _
theorem e101_2 (v : Int) (h0 : -9223372036854775808 ≤ v) (h1 : v ≤ 9223372036854775807) : Evt (fun n => call T C n 101 (v, 10, ())) ((tx (Lib.itoa v), ()), ()) := by
  refine Evt.next ?_ (fun n => r101 n v 10)
  dsimp only
  rw [if_pos ⟨rfl, h0, h1⟩]
  exact Evt.some _
/- impl.decimal -/
theorem e60 (u : Nat) (h : u ≤ 9223372036854775807) : Evt (fun n => call T C n 60 ((u : Int), ())) ((tx (Lib.decDigits u), ()), ()) :=
  Evt.next (Evt.bind (e101 u h) (Evt.some _)) (fun n => r60 n u)
theorem e60_2 (v : Int) (h0 : -9223372036854775808 ≤ v) (h1 : v ≤ 9223372036854775807) : Evt (fun n => call T C n 60 (v, ())) ((tx (Lib.itoa v), ()), ()) :=
  Evt.next (Evt.bind (e101_2 v h0 h1) (Evt.some _)) (fun n => r60 n v)
/- impl.number -/
theorem e77 {u : Nat} (h : u ≤ 9223372036854775807) : Evt (fun n => call T C n 77 (tx (Lib.decDigits u), ())) (((u : Int), true, ()), ()) := by
  refine Evt.next (Evt.bind (e57 h) (Evt.chk rfl (Evt.yes rfl (Evt.bind (e60 u h) ?_)))) (fun n => r77 n (tx (Lib.decDigits u)))
  simp only [beq_self_eq_true, cond_true]
  exact Evt.some _
theorem e77_2 (l : List UInt8) (hl : l.length ≤ 10000000) : Evt (fun n => call T C n 77 (tx l, ())) (((numI l).1, (numI l).2, ()), ()) := by
  have hP : Evt (fun n => call T C n 57 (tx l, 10, 64, ())) (((numI l).1, (match Lib.parseIntB 64 l with | .ok _ => false | _ => true), ()), ()) := by
    refine Evt.next ?_ (fun n => r57 n (tx l) 10 64)
    dsimp only
    rw [if_pos ⟨by rw [tx_size]; omega, rfl, rfl⟩, tx_list]
    unfold numI
    cases Lib.parseIntB 64 l <;> exact Evt.some _
  have hb := numI_bd l
  refine Evt.next (Evt.bind hP (Evt.chk rfl ?_)) (fun n => r77 n (tx l))
  have hd := e60_2 (numI l).1 hb.1 hb.2
  revert hd
  rcases h : Lib.parseIntB 64 l with v | _ | _
  · intro hd
    refine Evt.yes rfl (Evt.bind hd ?_)
    simp only [tx_toList, cond_true]
    have e1 : (numI l).2 = (Lib.itoa (numI l).1 == l) := by unfold numI; rw [h]
    rw [e1]
    exact Evt.some _
  · intro _
    have e1 : (numI l).2 = false := by unfold numI; rw [h]
    rw [e1]
    exact Evt.no (by simp) (Evt.some _)
  · intro _
    have e1 : (numI l).2 = false := by unfold numI; rw [h]
    rw [e1]
    exact Evt.no (by simp) (Evt.some _)
/- impl.inRange -/
theorem e78 (a b c : Int) : Evt (fun n => call T C n 78 (a, b, c, ())) ((inR a b c, ()), ()) := by
  refine Evt.next ?_ (fun n => r78 n a b c)
  refine Evt.ite (fun h => ?_) (fun h => ?_)
  · refine (Evt.some _).of_eq fun n => ?_
    have h : b ≤ a := of_decide_eq_true h
    simp [inR, h]
    rfl
  · refine (Evt.some _).of_eq fun n => ?_
    have h : ¬ b ≤ a := by simpa using h
    simp [inR, h]
    rfl
/- impl.isLift -/
theorem e69 (a : Int) : Evt (fun n => call T C n 69 (a, ())) ((inR a 0 10000, ()), ()) := Evt.next (Evt.bind (e78 a 0 10000) (Evt.some _)) (fun n => r69 n a)
/- (impl.Cam).steps -/
theorem e79 (a : List Int) : Evt (fun n => call T C n 79 (a, ())) (((a.length : Int), ()), ()) := Evt.next (Evt.some _) (fun n => r79 n a)
/- slices.Repeat[impl.Cam,int16] -/
theorem e80 (v k : Int) (h1 : 1 ≤ k) (h2 : k ≤ 360) : Evt (fun n => call T C n 80 ([v], k, ())) ((List.replicate k.toNat v, ()), ()) := by
  refine Evt.next ?_ (fun n => r80 n [v] k)
  dsimp only
  rw [if_pos ⟨rfl, h1, h2⟩]
  exact Evt.some _
/- impl.isSteps -/
theorem e117 (a : Int) : Evt (fun n => call T C n 117 (a, ())) ((inR a 8 360, ()), ()) := Evt.next (Evt.bind (e78 a 8 360) (Evt.some _)) (fun n => r117 n a)
/- impl.ValidCam$1 -/
theorem e119 (v : Int) : Evt (fun n => call T C n 119 (v, ())) ((!okV v, ()), ()) := Evt.next (Evt.bind (e69 _) (Evt.some _)) (fun n => r119 n v)
/- slices.IndexFunc[impl.Cam,int16]{impl.ValidCam$1} -/
theorem e149 (l : List Int) (hl : (l.length : Int) ≤ 140737488351232) : Evt (fun n => call T C n 149 (l, ((), ()), ())) ((fi (fun v => !okV v) l 0, ()), ()) := by
  refine Evt.next ?_ (fun n => r149 n l ((), ()))
  refine loop_evt (fun (x : List Int × (Unit × Unit) × Int × Int × Unit) => x.1 = l ∧ x.2.2.1 = (l.length : Int) ∧ 0 ≤ x.2.2.2.1 ∧ x.2.2.2.1 ≤ (l.length : Int) ∧ fi (fun v => !okV v) l 0 = fi (fun v => !okV v) (l.drop x.2.2.2.1.toNat) x.2.2.2.1) (fun (x : List Int × (Unit × Unit) × Int × Int × Unit) => ((l.length : Int) - x.2.2.2.1).toNat) (x := (l, ((), ()), (l.length : Int), 0, ())) ⟨rfl, rfl, Int.le_refl _, by simp, by simp⟩ ?_
  rintro ⟨x1, u, m, i, _⟩ ⟨h', hm, h0, h1, h2⟩
  simp only at h' hm h0 h1 h2
  subst h'; subst hm
  refine Round.ite (fun hlt => ?_) (fun hge => ?_)
  · have hlt : i < (x1.length : Int) := of_decide_eq_true hlt
    obtain ⟨v, hv, hv'⟩ := idx_at h0 hlt
    have hd := drop_cons hv'
    refine Round.at hv (Round.bind (e119 _) (Round.ite (fun hb => ?_) (fun hb => ?_)))
    · have hb : okV v = false := by simpa using hb
      have h3 : fi (fun v => !okV v) x1 0 = i := by rw [h2, hd]; simp [fi, hb]
      rw [h3]
      exact Round.done (Evt.some _)
    · have hb : okV v = true := by simpa using hb
      have hw : wr .i64 (i + 1) = i + 1 := wrap_id (by omega) (by omega)
      refine Round.again _ ⟨⟨rfl, rfl, ?_, ?_, ?_⟩, ?_⟩ <;> simp only [hw]
      · omega
      · omega
      · rw [h2, hd, show (i + 1).toNat = i.toNat + 1 by omega]
        simp [fi, hb]
      · omega
  · have hge : ¬ i < (x1.length : Int) := by simpa using hge
    have : x1.drop i.toNat = [] := List.drop_of_length_le (by omega)
    rw [h2, this]
    exact Round.done (Evt.some _)
/- slices.ContainsFunc[impl.Cam,int16]{impl.ValidCam$1} -/
theorem e118 (l : List Int) (hl : (l.length : Int) ≤ 140737488351232) : Evt (fun n => call T C n 118 (l, ((), ()), ())) ((l.any (fun v => !okV v), ()), ()) := by
  refine Evt.next (Evt.bind (e149 l hl) ((Evt.some _).of_eq fun n => ?_)) (fun n => r118 n l ((), ()))
  simp only [fi_any _ l 0 (Int.le_refl _)]
  rfl
/- impl.ValidCam -/
theorem e81 (l : List Int) (hl : (l.length : Int) ≤ 140737488351232) : Evt (fun n => call T C n 81 (l, ())) ((okC l, ()), ()) := by
  refine Evt.next (Evt.bind (e79 l) (Evt.bind (e117 _) ?_)) (fun n => r81 n l)
  refine Evt.ite (fun h => ?_) (fun h => ?_)
  · refine Evt.bind (e118 l hl) ((Evt.some _).of_eq fun n => ?_)
    have h : inR (l.length : Int) 8 360 = true := h
    have : okC l = !l.any (fun v => !okV v) := by simp [okC, h, List.any_eq_not_all_not]
    rw [this]
    rfl
  · refine (Evt.some _).of_eq fun n => ?_
    have h : inR (l.length : Int) 8 360 = false := by simpa using h
    simp [okC, h]
    rfl
/- strings.Join -/
theorem e120 (ws : List (List UInt8)) (s : List UInt8) (h1 : ws.length ≤ 1000000) (h2 : (Lib.join ws s).length ≤ 1000000000) : Evt (fun n => call T C n 120 (ws.map tx, tx s, ())) ((tx (Lib.join ws s), ()), (ws.map tx, ())) := by
  refine Evt.next ?_ (fun n => r120 n (ws.map tx) (tx s))
  have e : (ws.map tx).map (fun s => s.data.toList) = ws := by
    rw [List.map_map]
    exact (List.map_congr_left fun a _ => rfl).trans (List.map_id ws)
  dsimp only
  rw [e]
  show Evt (fun n => if (ws.map tx).length ≤ 140737488355328 ∧ (Lib.join ws s).length ≤ 140737488355328 then some ((tx (Lib.join ws s), ()), (ws.map tx, ())) else none) _
  rw [if_pos ⟨by simp; omega, by omega⟩]
  exact Evt.some _
/- impl.CamText -/
theorem e82 (c : List Int) (hr : Rng c) : Evt (fun n => call T C n 82 (c, ())) ((camT c, ()), ()) := by
  have hcl := hr.len'
  refine Evt.next (Evt.bind (e81 c (by omega)) ?_) (fun n => r82 n c)
  unfold camT
  cases h : okC c with
  | false => exact Evt.yes rfl (Evt.some _)
  | true =>
    have hl := okC_len h
    have hC := okC_el h hr
    have c32 : (⟨#[32]⟩ : ByteArray) = tx [32] := rfl
    have c42 : (⟨#[42]⟩ : ByteArray) = tx [42] := rfl
    refine Evt.no (by simp) ?_
    refine loop_evt (fun x => ∃ (i : Nat) (ws : List (List UInt8)), x = (c, ws.map tx, (i : Int), ()) ∧ i ≤ c.length ∧ ws ++ (rle (c.drop i)).map wordL = (rle c).map wordL ∧ ws.length ≤ i ∧ (∀ w ∈ ws, w.length ≤ 43) ∧ (0 < i → ws ≠ [])) (fun x => c.length - x.2.2.1.toNat) ⟨0, [], rfl, by omega, by simp, by simp, by simp, by simp⟩ ?_
    rintro x ⟨i, ws, rfl, hi, hws, hwl0, hl43, hne0⟩
    have hJ := join_len [32] ws hl43
    simp only [List.length_cons, List.length_nil] at hJ
    have hJ : (Lib.join ws [32]).length ≤ 1000000 := by omega
    by_cases hlt : i < c.length
    · have hlt : (i : Int) < (c.length : Int) := by omega
      refine Round.yes (decide_eq_true hlt) ?_
      refine for_round' (i : Int) (c.length : Int) (fun j (_ : Unit) => (c, ws.map tx, (i : Int), j, ())) (fun j _ => ∀ u : Nat, i ≤ u → (u : Int) < j → g c u = g c i) (b0 := ()) rfl (by omega) (fun u h1 h2 => absurd h2 (by omega)) ?_ ?_
      · intro j' _ h2 h3' hP
        obtain ⟨j, rfl⟩ : ∃ j : Nat, j' = j := ⟨j'.toNat, by omega⟩
        have a1 := g_idx (l := c) (i := (j : Int)) (by omega) (by omega)
        have a2 := g_idx (l := c) (i := (i : Int)) (by omega) (by omega)
        rw [Int.toNat_natCast] at a1 a2
        refine Round.yes (decide_eq_true h3') (Round.at a1.idx (Round.at a2.idx ?_))
        by_cases heq : g c j = g c i
        · refine Round.yes (by simp [heq]) (Round.inr _ ⟨(), by rw [wr_succ (by omega) h3' (by omega)], fun u h1 h2 => ?_⟩)
          by_cases hu : u = j
          · rw [hu, heq]
          · exact hP u h1 (by omega)
        · have hj1 : i < j := by
            apply Classical.byContradiction
            intro h
            exact heq (by rw [show j = i by omega])
          have hj2 : j ≤ c.length := by omega
          have h3 : ∀ u, i ≤ u → u < j → g c u = g c i := fun u h1 h2 => hP u h1 (by omega)
          have h4 : j = c.length ∨ g c j ≠ g c i := .inr heq
          refine Round.no (by simp [heq]) ?_
          have hv := g_idx (l := c) (i := (i : Int)) (by omega) (by omega)
          rw [Int.toNat_natCast] at hv
          have hvb := hC _ hv.mem
          obtain ⟨v, hv2⟩ : ∃ v : Nat, g c i = v := ⟨(g c i).toNat, by omega⟩
          have hd := rle_drop hj1 hj2 h3 h4
          have e1 : wr .i64 (g c i) = (v : Int) := by rw [hv2]; exact wrap_id (by omega) (by omega)
          have e2 : wr .i64 ((j : Int) - (i : Int)) = ((j - i : Nat) : Int) := by rw [wrap_id (by omega) (by omega)]; omega
          have hD1 := e60 v (by omega)
          have hD2 := e60 (j - i) (by omega)
          have z1 := dec_len (u := v) (by omega)
          have z2 := dec_len (u := j - i) (by omega)
          have hw : wordL (g c i, j - i) = if j - i > 1 then Lib.decDigits v ++ 42 :: Lib.decDigits (j - i) else Lib.decDigits v := by unfold wordL; rw [hv2]; rfl
          have hwl := wordL_len (x := (g c i, j - i)) (by show g c i ≤ _; omega) (by show j - i ≤ _; omega)
          have next : ∀ w, w = wordL (g c i, j - i) → (ws ++ [w]) ++ (rle (c.drop j)).map wordL = (rle c).map wordL ∧ (ws ++ [w]).length ≤ j ∧ (∀ u ∈ ws ++ [w], u.length ≤ 43) ∧ (0 < j → ws ++ [w] ≠ []) := fun w hw => by
            refine ⟨?_, by simp; omega, fun u hu => ?_, fun _ => by simp⟩
            · rw [← hws, hd, hw]; simp
            · rcases List.mem_append.1 hu with hu | hu
              · exact hl43 u hu
              · simp at hu; rw [hu, hw]; exact hwl
          refine Round.at hv.idx ?_
          simp only [e1, e2]
          refine Round.bind hD1 ?_
          have hml : (ws.map tx).length = ws.length := by simp
          by_cases hk : j - i > 1
          · refine Round.yes (decide_eq_true (by omega)) (Round.bind hD2 ?_)
            simp only [c42, tx_app]
            refine Round.chk (szT (by simp) (by omega)) (Round.chk (szT (by omega) (by simp; omega)) (Round.chk (by simp; omega) (Round.inl _ ⟨⟨j, ws ++ [wordL (g c i, j - i)], ?_, hj2, next _ rfl⟩, ?_⟩)))
            · rw [hw, if_pos hk]; simp
            · show c.length - (j : Int).toNat < c.length - (i : Int).toNat
              omega
          · refine Round.no (by simp; omega) (Round.chk (by simp; omega) (Round.inl _ ⟨⟨j, ws ++ [wordL (g c i, j - i)], ?_, hj2, next _ rfl⟩, ?_⟩))
            · rw [hw, if_neg hk]; simp
            · show c.length - (j : Int).toNat < c.length - (i : Int).toNat
              omega
      · intro _ hP
        refine Round.no (by simp) ?_
        have hj1 : i < c.length := by omega
        have hj2 : c.length ≤ c.length := Nat.le_refl _
        have h3 : ∀ u, i ≤ u → u < c.length → g c u = g c i := fun u h1 h2 => hP u h1 (by omega)
        have h4 : c.length = c.length ∨ g c c.length ≠ g c i := .inl rfl
        have hv := g_idx (l := c) (i := (i : Int)) (by omega) (by omega)
        rw [Int.toNat_natCast] at hv
        have hvb := hC _ hv.mem
        obtain ⟨v, hv2⟩ : ∃ v : Nat, g c i = v := ⟨(g c i).toNat, by omega⟩
        have hd := rle_drop hj1 hj2 h3 h4
        have e1 : wr .i64 (g c i) = (v : Int) := by rw [hv2]; exact wrap_id (by omega) (by omega)
        have e2 : wr .i64 ((c.length : Int) - (i : Int)) = ((c.length - i : Nat) : Int) := by rw [wrap_id (by omega) (by omega)]; omega
        have hD1 := e60 v (by omega)
        have hD2 := e60 (c.length - i) (by omega)
        have z1 := dec_len (u := v) (by omega)
        have z2 := dec_len (u := c.length - i) (by omega)
        have hw : wordL (g c i, c.length - i) = if c.length - i > 1 then Lib.decDigits v ++ 42 :: Lib.decDigits (c.length - i) else Lib.decDigits v := by unfold wordL; rw [hv2]; rfl
        have hwl := wordL_len (x := (g c i, c.length - i)) (by show g c i ≤ _; omega) (by show c.length - i ≤ _; omega)
        have next : ∀ w, w = wordL (g c i, c.length - i) → (ws ++ [w]) ++ (rle (c.drop c.length)).map wordL = (rle c).map wordL ∧ (ws ++ [w]).length ≤ c.length ∧ (∀ u ∈ ws ++ [w], u.length ≤ 43) ∧ (0 < c.length → ws ++ [w] ≠ []) := fun w hw => by
          refine ⟨?_, by simp; omega, fun u hu => ?_, fun _ => by simp⟩
          · rw [← hws, hd, hw]; simp
          · rcases List.mem_append.1 hu with hu | hu
            · exact hl43 u hu
            · simp at hu; rw [hu, hw]; exact hwl
        refine Round.at hv.idx ?_
        simp only [e1, e2]
        refine Round.bind hD1 ?_
        have hml : (ws.map tx).length = ws.length := by simp
        by_cases hk : c.length - i > 1
        · refine Round.yes (decide_eq_true (by omega)) (Round.bind hD2 ?_)
          simp only [c42, tx_app]
          refine Round.chk (szT (by simp) (by omega)) (Round.chk (szT (by omega) (by simp; omega)) (Round.chk (by simp; omega) (Round.inl _ ⟨⟨c.length, ws ++ [wordL (g c i, c.length - i)], ?_, hj2, next _ rfl⟩, ?_⟩)))
          · rw [hw, if_pos hk]; simp
          · show c.length - (c.length : Int).toNat < c.length - (i : Int).toNat
            omega
        · refine Round.no (by simp; omega) (Round.chk (by simp; omega) (Round.inl _ ⟨⟨c.length, ws ++ [wordL (g c i, c.length - i)], ?_, hj2, next _ rfl⟩, ?_⟩))
          · rw [hw, if_neg hk]; simp
          · show c.length - (c.length : Int).toNat < c.length - (i : Int).toNat
            omega
    · have hi : i = c.length := by omega
      refine Round.no (by simp; omega) (Round.done ?_)
      rw [hi, List.drop_length] at hws
      have hw2 : ws = (rle c).map wordL := by simpa [rle] using hws
      rw [if_pos rfl]
      unfold camJ
      rw [← hw2, c32]
      exact Evt.bind (e120 ws [32] (by omega) (by omega)) (Evt.some _)
/- slices.Clone[impl.Cam,int16] -/
theorem e53 (l : List Int) (h0 : l.length ≠ 0) (hl : (l.length : Int) ≤ 1000000) : Evt (fun n => call T C n 53 (l, ())) ((l, ()), ()) :=
  Evt.next (Evt.yes (decide_eq_true h0) (Evt.chk (by simp; omega) (Evt.some _))) (fun n => r53 n l)
/- impl.ReadCam -/
theorem e34 (l : List UInt8) (hl : l.length ≤ 1048576) : Evt (fun n => call T C n 34 (tx l, ())) (((rdC l).1, (rdC l).2, ()), ()) := by
  refine Evt.next ?_ (fun n => r34 n (tx l))
  have hS := e42_2 32 l (by omega)
  have hn := splitC_len 32 l
  have hw := splitC_wlen (c := 32) (l := l)
  have hrd := rdC_eq l
  generalize splitC 32 l = ws at hS hn hw hrd
  refine Evt.bind hS ?_
  have hlm : (((ws.map tx).length : Nat) : Int) = (ws.length : Int) := by simp
  refine for_evt' 0 (ws.length : Int) (fun i (c : List Int) => (tx l, c, ws.map tx, (((ws.map tx).length : Nat) : Int), i, ())) (fun i c => foldO irW [] (ws.take i.toNat) = some c) (b0 := []) rfl (by omega) rfl ?_ ?_
  · intro i c i0 i1 hL
    obtain ⟨i, rfl⟩ := Int.eq_ofNat_of_zero_le i0
    rw [Int.toNat_natCast] at hL
    obtain ⟨w, hi⟩ : ∃ w, ws[i]? = some w := ⟨_, List.getElem?_eq_getElem (by omega)⟩
    have hwl := hw w (List.mem_of_getElem? hi)
    have G := irW_fold _ good0 hL
    have hvi : idx (ws.map tx) (i : Int) = some (tx w) := by
      unfold idx
      rw [if_pos (by omega), Int.toNat_natCast, List.getElem?_map, hi]; rfl
    have bad : irW c w = none → ∀ {f : Nat → Option ((List Int × Int × Unit) × Unit)}, Evt f ((([] : List Int), (5 : Int), ()), ()) → Evt f (((rdC l).1, (rdC l).2, ()), ()) := fun h f hf => by
      rw [hrd, foldO_none hL hi h]; exact hf
    have good : ∀ d, irW c w = some d → foldO irW [] (ws.take ((i : Int) + 1).toNat) = some d := fun d h => by
      rw [show ((i : Int) + 1).toNat = i + 1 by omega, foldO_next hL hi, h]
    have hws := wr_succ (i := (i : Int)) i0 i1 (by omega)
    have hC := e32 w [42] (by omega)
    have hcl : (Lib.cut w [42]).1.length ≤ w.length ∧ (Lib.cut w [42]).2.1.length ≤ w.length := by
      unfold Lib.cut
      split
      · exact ⟨by rw [List.length_take]; omega, by rw [List.length_drop]; omega⟩
      · exact ⟨Nat.le_refl _, by simp⟩
    have b1 := numI_bd (Lib.cut w [42]).1
    have b2 := numI_bd (Lib.cut w [42]).2.1
    have hg := G.1
    have hs360 : wr .i64 (360 - (c.length : Int)) = 360 - (c.length : Int) := wrap_id (by omega) (by omega)
    have hir : irW c w = if inR (numI (Lib.cut w [42]).1).1 0 10000 = true ∧ inR (timesI (Lib.cut w [42]).2.1) 1 (360 - c.length) = true then some (c ++ List.replicate (timesI (Lib.cut w [42]).2.1).toNat (numI (Lib.cut w [42]).1).1) else none := rfl
    dsimp only
    refine Round.yes (decide_eq_true (by rw [hlm]; exact i1)) (Round.at hvi (Round.bind hC (Round.bind (e77_2 _ (by omega)) (Round.bind (e77_2 _ (by omega)) ?_))))
    have both : ∀ (t : Int), t = timesI (Lib.cut w [42]).2.1 → inR (numI (Lib.cut w [42]).1).1 0 10000 = true → inR t 1 (360 - (c.length : Int)) = true → 0 ≤ (numI (Lib.cut w [42]).1).1 ∧ (numI (Lib.cut w [42]).1).1 ≤ 10000 ∧ 1 ≤ t ∧ t ≤ 360 - (c.length : Int) ∧ wr .i16 (numI (Lib.cut w [42]).1).1 = (numI (Lib.cut w [42]).1).1 ∧ irW c w = some (c ++ List.replicate t.toNat (numI (Lib.cut w [42]).1).1) := fun t ht h1 h2 => by
      have e1 := inR_iff.1 h1
      have e2 := inR_iff.1 h2
      exact ⟨e1.1, e1.2, e2.1, e2.2, wrap16 (by omega) (by omega), by rw [hir, ← ht, if_pos ⟨h1, h2⟩]⟩
    have h360 := e78
    by_cases c2 : (numI (Lib.cut w [42]).2.1).2 = true
    · have ht : (numI (Lib.cut w [42]).2.1).1 = timesI (Lib.cut w [42]).2.1 := by unfold timesI; rw [if_pos c2]
      refine Round.no (by simp [c2]) (Round.bind (e69 _) ?_)
      by_cases c3 : inR (numI (Lib.cut w [42]).1).1 0 10000 = true
      case neg => exact Round.yes (by simpa using c3) (Round.done (bad (by rw [hir, if_neg (fun h => c3 h.1)]) (Evt.some _)))
      refine Round.no (by simp [c3]) (Round.bind (e79 c) ?_)
      rw [hs360]
      refine Round.bind (e78 _ _ _) ?_
      by_cases c4 : inR (numI (Lib.cut w [42]).2.1).1 1 (360 - (c.length : Int)) = true
      case neg => exact Round.yes (by simpa using c4) (Round.done (bad (by rw [hir, ← ht, if_neg (fun h => c4 h.2)]) (Evt.some _)))
      obtain ⟨d0, d1, d2, d3, d4, d5⟩ := both _ ht c3 c4
      refine Round.no (by simp [c4]) ?_
      rw [d4]
      have dk : (numI (Lib.cut w [42]).2.1).1 ≤ 360 := by omega
      refine Round.bind (e80 _ _ d2 dk) (Round.chk (decide_eq_true (by simp; omega)) (Round.again _ ⟨_, ?_, good _ d5⟩))
      rw [hws]
    · have ht : (1 : Int) = timesI (Lib.cut w [42]).2.1 := by unfold timesI; rw [if_neg c2]
      refine Round.yes (by simp [c2]) (Round.bind (e69 _) ?_)
      by_cases c3 : inR (numI (Lib.cut w [42]).1).1 0 10000 = true
      case neg => exact Round.yes (by simpa using c3) (Round.done (bad (by rw [hir, if_neg (fun h => c3 h.1)]) (Evt.some _)))
      refine Round.no (by simp [c3]) (Round.bind (e79 c) ?_)
      rw [hs360]
      refine Round.bind (e78 _ _ _) ?_
      by_cases c4 : inR 1 1 (360 - (c.length : Int)) = true
      case neg => exact Round.yes (by simpa using c4) (Round.done (bad (by rw [hir, ← ht, if_neg (fun h => c4 h.2)]) (Evt.some _)))
      obtain ⟨d0, d1, d2, d3, d4, d5⟩ := both _ ht c3 c4
      refine Round.no (by simp [c4]) ?_
      rw [d4]
      refine Round.bind (e80 _ _ d2 (by omega)) (Round.chk (decide_eq_true (by simp; omega)) (Round.again _ ⟨_, ?_, good _ d5⟩))
      rw [hws]
  · intro c hL
    rw [Int.toNat_natCast, List.take_length] at hL
    have G := irW_fold _ good0 hL
    have hr := G.rng
    have hg := G.1
    rw [hL] at hrd
    simp only at hrd
    dsimp only
    refine Round.no (by rw [hlm]; simp) (Round.bind (e81 c (by omega)) ?_)
    cases ho : okC c with
    | false =>
      rw [hrd, if_neg (fun h => by rw [ho] at h; cases h.1)]
      exact Round.yes rfl (Round.done (Evt.some _))
    | true =>
      have hct : camT c = tx (camJ c) := if_pos ho
      have hcl := okC_len ho
      refine Round.no (by simp) (Round.bind (e82 c hr) ?_)
      rw [hct]
      simp only [tx_toList]
      by_cases hq : camJ c = l
      · have e9 : rdC l = (c, 0) := by rw [hrd, if_pos ⟨ho, hq⟩]
        rw [e9, hq]
        exact Round.no (by simp) (Round.bind (e53 c (by omega) (by omega)) (Round.done (Evt.some _)))
      · have e9 : rdC l = ([], 5) := by rw [hrd, if_neg (fun h => hq h.2)]
        rw [e9]
        exact Round.yes (by simpa using hq) (Round.done (Evt.some _))
/- impl.short -/
theorem e43 (l : List UInt8) (hl : l.length ≤ 10000000) : Evt (fun n => call T C n 43 (tx l, ())) ((shortI l, ()), ()) := by
  refine Evt.next (Evt.bind (e77_2 l hl) ?_) (fun n => r43 n (tx l))
  unfold shortI
  by_cases h : wr .i64 (wr .i16 (numI l).1) = (numI l).1
  · rw [if_pos h]
    exact Evt.no (by simpa using h) (Evt.some _)
  · rw [if_neg h]
    exact Evt.yes (by simpa using h) (Evt.some _)
/- impl.isPlace -/
theorem e68 (a b : Int) : Evt (fun n => call T C n 68 (a, b, ())) ((inR a 0 (wr .i64 (b - 1)), ()), ()) := Evt.next (Evt.bind (e78 _ _ _) (Evt.some _)) (fun n => r68 n a b)
/- impl.ValidShafts$1 -/
theorem e87 (s : Sft) (hl : (s.2.2.2.1.length : Int) ≤ 140737488351232) : Evt (fun n => call T C n 87 (s, ())) ((!okS s, ()), ()) := by
  refine Evt.next (Evt.bind (e78 _ _ _) ?_) (fun n => r87 n s)
  refine Evt.ite (fun h => ?_) (fun h => ?_)
  · have h : inR (wr .i64 s.1) 1 60 = false := by simpa using h
    have : okS s = false := by simp [okS, h]
    rw [this]; exact Evt.some _
  · have h1 : inR (wr .i64 s.1) 1 60 = true := by simpa using h
    refine Evt.bind (e78 _ _ _) (Evt.ite (fun h => ?_) (fun h => ?_))
    · have h : inR (wr .i64 s.2.1) 1 60 = false := by simpa using h
      have : okS s = false := by simp [okS, h]
      rw [this]; exact Evt.some _
    · have h2 : inR (wr .i64 s.2.1) 1 60 = true := by simpa using h
      refine Evt.bind (e81 _ hl) (Evt.ite (fun h => ?_) (fun h => ?_))
      · have h : okC s.2.2.2.1 = false := by simpa using h
        have : okS s = false := by simp [okS, h]
        rw [this]; exact Evt.some _
      · have h3 : okC s.2.2.2.1 = true := by simpa using h
        refine Evt.bind (e68 _ _) ((Evt.some _).of_eq fun n => ?_)
        have : okS s = inR (wr .i64 s.2.2.1) 0 (wr .i64 ((s.2.2.2.1.length : Int) - 1)) := by simp [okS, h1, h2, h3]
        rw [this]
        rfl
/- slices.IndexFunc[[]impl.Shaft,impl.Shaft]{impl.ValidShafts$1} -/
theorem e121 (l : List Sft) (hl : Small l) : Evt (fun n => call T C n 121 (l, ((), ()), ())) ((fi (fun v => !okS v) l 0, ()), ()) := by
  refine Evt.next ?_ (fun n => r121 n l ((), ()))
  refine loop_evt (fun (x : List Sft × (Unit × Unit) × Int × Int × Unit) => x.1 = l ∧ x.2.2.1 = (l.length : Int) ∧ 0 ≤ x.2.2.2.1 ∧ x.2.2.2.1 ≤ (l.length : Int) ∧ fi (fun v => !okS v) l 0 = fi (fun v => !okS v) (l.drop x.2.2.2.1.toNat) x.2.2.2.1) (fun (x : List Sft × (Unit × Unit) × Int × Int × Unit) => ((l.length : Int) - x.2.2.2.1).toNat) (x := (l, ((), ()), (l.length : Int), 0, ())) ⟨rfl, rfl, Int.le_refl _, by simp, by simp⟩ ?_
  rintro ⟨x1, u, m, i, _⟩ ⟨h', hm, h0, h1, h2⟩
  simp only at h' hm h0 h1 h2
  subst h'; subst hm
  have hl1 := hl.1
  refine Round.ite (fun hlt => ?_) (fun hge => ?_)
  · have hlt : i < (x1.length : Int) := of_decide_eq_true hlt
    obtain ⟨v, hv, hv'⟩ := idx_at h0 hlt
    have hd := drop_cons hv'
    refine Round.at hv (Round.bind (e87 _ (hl.get hv')) (Round.ite (fun hb => ?_) (fun hb => ?_)))
    · have hb : okS v = false := by simpa using hb
      have h3 : fi (fun v => !okS v) x1 0 = i := by rw [h2, hd]; simp [fi, hb]
      rw [h3]
      exact Round.done (Evt.some _)
    · have hb : okS v = true := by simpa using hb
      have hw : wr .i64 (i + 1) = i + 1 := wrap_id (by omega) (by omega)
      refine Round.again _ ⟨⟨rfl, rfl, ?_, ?_, ?_⟩, ?_⟩ <;> simp only [hw]
      · omega
      · omega
      · rw [h2, hd, show (i + 1).toNat = i.toNat + 1 by omega]
        simp [fi, hb]
      · omega
  · have hge : ¬ i < (x1.length : Int) := by simpa using hge
    have : x1.drop i.toNat = [] := List.drop_of_length_le (by omega)
    rw [h2, this]
    exact Round.done (Evt.some _)
/- slices.ContainsFunc[[]impl.Shaft,impl.Shaft]{impl.ValidShafts$1} -/
theorem e86 (l : List Sft) (hl : Small l) : Evt (fun n => call T C n 86 (l, ((), ()), ())) ((l.any (fun v => !okS v), ()), ()) := by
  refine Evt.next (Evt.bind (e121 l hl) ((Evt.some _).of_eq fun n => ?_)) (fun n => r86 n l ((), ()))
  simp only [fi_any _ l 0 (Int.le_refl _)]
  rfl
/- impl.ValidShafts -/
theorem e44 (l : List Sft) (hl : Small l) : Evt (fun n => call T C n 44 (l, ())) ((okA l, ()), ()) := by
  refine Evt.next (Evt.bind (e78 _ _ _) ?_) (fun n => r44 n l)
  refine Evt.ite (fun h => ?_) (fun h => ?_)
  · refine Evt.bind (e86 l hl) ((Evt.some _).of_eq fun n => ?_)
    have h : inR (l.length : Int) 1 6 = true := h
    have : okA l = !l.any (fun v => !okS v) := by simp [okA, h, List.any_eq_not_all_not]
    rw [this]
    rfl
  · refine (Evt.some _).of_eq fun n => ?_
    have h : inR (l.length : Int) 1 6 = false := by simpa using h
    simp [okA, h]
    rfl
/- (*strings.Builder).WriteString -/
theorem e59 (x s : List UInt8) (h : x.length + s.length ≤ 1000000000) : Evt (fun n => call T C n 59 (tx x, tx s, ())) ((((s.length : Nat) : Int), false, ()), (tx (x ++ s), ())) := by
  refine Evt.next ?_ (fun n => r59 n (tx x) (tx s))
  dsimp only
  rw [if_pos (by rw [tx_size, tx_size]; omega), tx_app, tx_size]
  exact Evt.some _
/- (*strings.Builder).String -/
theorem e61 (x : ByteArray) : Evt (fun n => call T C n 61 (x, ())) ((x, ()), ()) :=
  Evt.next (Evt.some _) (fun n => r61 n x)
/- impl.ShaftsText -/
theorem e45 (l : List Sft) (hS : Small l) (hr : ∀ s ∈ l, RngSf s) : Evt (fun n => call T C n 45 (l, ())) ((shR l, ()), ()) := by
  refine Evt.next (Evt.bind (e44 l hS) ?_) (fun n => r45 n l)
  unfold shR
  cases h : okA l with
  | false => exact Evt.yes rfl (Evt.some _)
  | true =>
    obtain ⟨h1, h2, h3⟩ := okA_el h
    have hg : ∀ s ∈ l, GoodSf s := fun s hs => goodSf (hr s hs) (h3 s hs)
    have c32 : (⟨#[32]⟩ : ByteArray) = tx [32] := rfl
    have c10 : (⟨#[10]⟩ : ByteArray) = tx [10] := rfl
    refine Evt.no (by simp) ?_
    refine for_evt' 0 (l.length : Int) (fun i (_ : Unit) => (tx (shT (l.take i.toNat)), l, (l.length : Int), i, ())) (fun _ _ => True) (b0 := ()) rfl (by omega) trivial ?_ ?_
    · intro i _ i0 i1 _
      obtain ⟨s, hs⟩ := at_of i0 i1
      have G := hg s hs.mem
      have R := hr s hs.mem
      have g1 := G.n
      have g2 := G.d
      have g3 := G.p
      have hc := okC_len G.c
      obtain ⟨a, ea⟩ : ∃ a : Nat, s.1 = a := ⟨s.1.toNat, by omega⟩
      obtain ⟨b, eb⟩ : ∃ b : Nat, s.2.1 = b := ⟨s.2.1.toNat, by omega⟩
      obtain ⟨p, ep⟩ : ∃ p : Nat, s.2.2.1 = p := ⟨s.2.2.1.toNat, by omega⟩
      have hA := e60 a (by omega)
      have hB := e60 b (by omega)
      have hP := e60 p (by omega)
      have hT := e82 s.2.2.2.1 R.c
      rw [show camT s.2.2.2.1 = tx (camJ s.2.2.2.1) from if_pos G.c] at hT
      have z1 := dec_len (u := a) (by omega)
      have z2 := dec_len (u := b) (by omega)
      have z3 := dec_len (u := p) (by omega)
      have z4 := camJ_len (c := s.2.2.2.1) (by omega) (okC_el G.c R.c)
      have zt := shT_len (l := l.take i.toNat) (fun x hx => hr x (List.mem_of_mem_take hx)) fun x hx => hg x (List.mem_of_mem_take hx)
      have zl : (l.take i.toNat).length ≤ 6 := by rw [List.length_take]; omega
      dsimp only
      refine Round.yes (decide_eq_true i1) (Round.at hs.idx ?_)
      rw [wrap_id (x := s.1) (by omega) (by omega), wrap_id (x := s.2.1) (by omega) (by omega), wrap_id (x := s.2.2.1) (by omega) (by omega), ea, eb, ep]
      refine Round.bind hA ?_
      simp only [c32, c10, tx_app]
      refine Round.chk (szT (by omega) (by simp)) (Round.bind hB ?_)
      simp only [tx_app]
      refine Round.chk (szT (by simp; omega) (by omega)) (Round.chk (szT (by simp; omega) (by simp)) (Round.bind hP ?_))
      simp only [tx_app]
      refine Round.chk (szT (by simp; omega) (by omega)) (Round.chk (szT (by simp; omega) (by simp)) (Round.bind hT ?_))
      simp only [tx_app]
      refine Round.chk (szT (by simp; omega) (by omega)) (Round.chk (szT (by simp; omega) (by simp)) (Round.bind (e59 _ _ (by simp; omega)) (Round.again _ ⟨(), ?_, trivial⟩)))
      rw [hs.take, shT_snoc, wr_succ i0 i1 (by omega)]
      unfold shL
      rw [ea, eb, ep, Int.toNat_natCast, Int.toNat_natCast, Int.toNat_natCast]
    · intro _ _
      dsimp only
      rw [take_all]
      exact Round.no (by simp) (Round.bind (e61 _) (Round.done (Evt.some _)))
/- impl.ReadShafts -/
theorem e12 (l : List UInt8) (hl : l.length ≤ 1048576) : Evt (fun n => call T C n 12 (tx l, ())) (((rdS l).1, (rdS l).2, ()), ()) := by
  have htl : (Lib.trimSuffix l [10]).length ≤ l.length := by
    unfold Lib.trimSuffix
    split
    · rw [List.length_take]; omega
    · exact Nat.le_refl _
  refine Evt.next (Evt.bind (e33 l [10] (by omega)) (Evt.bind (e42_2 10 (Lib.trimSuffix l [10]) (by omega)) ?_)) (fun n => r12 n (tx l))
  have hn := splitC_len 10 (Lib.trimSuffix l [10])
  have hw := splitC_wlen (c := 10) (l := Lib.trimSuffix l [10])
  have hrd := rdS_eq l
  generalize splitC 10 (Lib.trimSuffix l [10]) = ws at hn hw hrd
  have hlm : (((ws.map tx).length : Nat) : Int) = (ws.length : Int) := by simp
  refine for_evt' 0 (ws.length : Int) (fun i (L : List Sft) => (tx l, L, ws.map tx, (((ws.map tx).length : Nat) : Int), i, ())) (fun i L => mapO irSh (ws.take i.toNat) = some L) (b0 := []) rfl (by omega) rfl ?_ ?_
  · intro i L i0 i1 hL
    obtain ⟨i, rfl⟩ := Int.eq_ofNat_of_zero_le i0
    rw [Int.toNat_natCast] at hL
    obtain ⟨w, hi⟩ : ∃ w, ws[i]? = some w := ⟨_, List.getElem?_eq_getElem (by omega)⟩
    have hwl := hw w (List.mem_of_getElem? hi)
    have hvi : idx (ws.map tx) (i : Int) = some (tx w) := by
      unfold idx
      rw [if_pos (by omega), Int.toNat_natCast, List.getElem?_map, hi]; rfl
    have bad : irSh w = none → ∀ {f : Nat → Option ((List Sft × Int × Unit) × Unit)}, Evt f ((([] : List Sft), (5 : Int), ()), ()) → Evt f (((rdS l).1, (rdS l).2, ()), ()) := fun h f hf => by
      have : rdS l = ([], 5) := by rw [hrd, mapO_none h (List.mem_of_getElem? hi)]
      rw [this]; exact hf
    have hws := wr_succ (i := (i : Int)) i0 i1 (by omega)
    have hll := (mapO_el hL).1
    have htk : (ws.take i).length ≤ i := by rw [List.length_take]; omega
    have h4 := splitN4_len w
    have hSN := e31 w (by omega)
    have hwr : ∀ v ∈ splitN4 w, v.length ≤ w.length := fun v hv => splitK_wlen _ _ v hv
    have hir : irSh w = match splitN4 w with
      | [a, b, c, r] => if (rdC r).2 = 0 then some (shortI a, shortI b, shortI c, (rdC r).1, ()) else none
      | _ => none := rfl
    generalize splitN4 w = ps at h4 hSN hwr hir
    dsimp only
    refine Round.yes (decide_eq_true (by rw [hlm]; exact i1)) (Round.at hvi (Round.bind hSN ?_))
    by_cases hp : ps.length = 4
    case neg =>
      refine Round.yes (by simp; omega) (Round.done (bad ?_ (Evt.some _)))
      rw [hir]
      match ps, hp with
      | [a, b, c, r], hp => exact absurd rfl hp
      | [], _ => rfl
      | [_], _ => rfl
      | [_, _], _ => rfl
      | [_, _, _], _ => rfl
      | _ :: _ :: _ :: _ :: _ :: _, _ => rfl
    obtain ⟨a, b, c, r, rfl⟩ : ∃ a b c r, ps = [a, b, c, r] := by
      match ps, hp with
      | [a, b, c, r], _ => exact ⟨a, b, c, r, rfl⟩
    have la := hwr a (by simp)
    have lb := hwr b (by simp)
    have lc := hwr c (by simp)
    have lr := hwr r (by simp)
    refine Round.no (by simp) (Round.chk (by simp) (Round.at (v := tx r) rfl (Round.bind (e34 r (by omega)) ?_)))
    by_cases hc : (rdC r).2 = 0
    case neg => exact Round.yes (by simpa using hc) (Round.done (bad (by rw [hir]; exact if_neg hc) (Evt.some _)))
    refine Round.no (by simpa using hc) (Round.chk (by simp) (Round.at (v := tx a) rfl (Round.bind (e43 a (by omega)) (Round.chk (by simp) (Round.at (v := tx b) rfl (Round.bind (e43 b (by omega)) (Round.chk (by simp) (Round.at (v := tx c) rfl (Round.bind (e43 c (by omega)) ?_)))))))))
    refine Round.chk (decide_eq_true (by simp only [List.length_singleton]; omega)) (Round.again _ ⟨L ++ [(shortI a, shortI b, shortI c, (rdC r).1, ())], ?_, ?_⟩)
    · rw [hws]
    · rw [show ((i : Int) + 1).toNat = i + 1 by omega, List.take_add_one, hi]
      exact mapO_snoc (by rw [hir]; exact if_pos hc) hL
  · intro L hL
    rw [Int.toNat_natCast, List.take_length] at hL
    have hel := (mapO_el hL).1
    have hS : Small L := ⟨by omega, fun s hs => by
      obtain ⟨x, _, hx⟩ := (mapO_el hL).2 s hs
      have := (irSh_rng hx).2
      omega⟩
    have hr : ∀ s ∈ L, RngSf s := fun s hs => by
      obtain ⟨x, _, hx⟩ := (mapO_el hL).2 s hs
      exact (irSh_rng hx).1
    rw [hL] at hrd
    simp only at hrd
    dsimp only
    refine Round.no (by rw [hlm]; simp) (Round.bind (e44 L hS) ?_)
    cases ho : okA L with
    | false =>
      rw [hrd, if_neg (fun h => by rw [ho] at h; cases h.1)]
      exact Round.yes rfl (Round.done (Evt.some _))
    | true =>
      have hst : shR L = tx (shT L) := if_pos ho
      refine Round.no (by simp) (Round.bind (e45 L hS hr) ?_)
      rw [hst]
      simp only [tx_toList]
      by_cases hq : shT L = l
      · have e9 : rdS l = (L, 0) := by rw [hrd, if_pos ⟨ho, hq⟩]
        rw [e9, hq]
        exact Round.no (by simp) (Round.done (Evt.some _))
      · have e9 : rdS l = ([], 5) := by rw [hrd, if_neg (fun h => hq h.2)]
        rw [e9]
        exact Round.yes (by simpa using hq) (Round.done (Evt.some _))
/- laws.eqCam -/
theorem e37 (l : List Int) (hl : (l.length : Int) ≤ 140737488351232) : Evt (fun n => call T C n 37 (l, l, ())) ((true, ()), ()) := by
  refine Evt.next (Evt.no (by simp) ?_) (fun n => r37 n l l)
  refine for_evt 0 (l.length : Int) (fun i (_ : Unit) => (l, l, i, ())) (fun _ _ => True) (b0 := ()) (by omega) trivial ?_ ?_
  · intro i _ h2 h3 _
    obtain ⟨v, hv⟩ := at_of h2 h3
    refine Round.yes (decide_eq_true h3) (Round.at hv.idx (Round.at hv.idx (Round.no (by simp) (Round.again _ ⟨(), ?_, trivial⟩))))
    rw [wr_succ h2 h3 (by omega)]
  · intro _ _
    exact Round.no (by simp) (Round.done (Evt.some _))
/- laws.eqShaft -/
theorem e46 (s : Sft) (hl : (s.2.2.2.1.length : Int) ≤ 140737488351232) : Evt (fun n => call T C n 46 (s, s, ())) ((true, ()), ()) :=
  Evt.next (Evt.no (by simp) (Evt.no (by simp) (Evt.no (by simp) (Evt.bind (e37 _ hl) (Evt.no (by simp) (Evt.some _)))))) (fun n => r46 n s s)
/- laws.eqShaftS -/
theorem e13 (l : List Sft) (hl : Small l) : Evt (fun n => call T C n 13 (l, l, ())) ((true, ()), ()) := by
  have hl1 := hl.1
  refine Evt.next (Evt.no (by simp) ?_) (fun n => r13 n l l)
  refine loop_evt (fun (x : List Sft × List Sft × Int × Unit) => x.1 = l ∧ x.2.1 = l ∧ 0 ≤ x.2.2.1 ∧ x.2.2.1 ≤ (l.length : Int)) (fun (x : List Sft × List Sft × Int × Unit) => ((l.length : Int) - x.2.2.1).toNat) (x := (l, l, 0, ())) ⟨rfl, rfl, Int.le_refl _, by simp⟩ ?_
  rintro ⟨x1, x2, i, _⟩ ⟨h', h'', h0, h1⟩
  simp only at h' h'' h0 h1
  subst h'; subst h''
  refine Round.ite (fun hlt => ?_) (fun hge => ?_)
  · have hlt : i < (x2.length : Int) := of_decide_eq_true hlt
    obtain ⟨v, hv, hv'⟩ := idx_at h0 hlt
    have hw : wr .i64 (i + 1) = i + 1 := wrap_id (by omega) (by omega)
    refine Round.at hv (Round.at hv (Round.bind (e46 v (hl.get hv')) (Round.no (by simp) (Round.again _ ⟨⟨rfl, rfl, ?_, ?_⟩, ?_⟩)))) <;> simp only [hw] <;> omega
  · exact Round.done (Evt.some _)
/- laws.markCam -/
theorem e38 (l : List Int) (k : Int) (h0 : 0 ≤ k) (h1 : k + l.length ≤ 4611686018427387904) : Evt (fun n => call T C n 38 (l, k, ())) ((k + l.length, ()), (mkL (wr .i16) l.length k, ())) := by
  refine Evt.next ?_ (fun n => r38 n l k)
  refine for_evt' 0 (l.length : Int) (fun i (b : List Int) => (b, k + i, i, ())) (fun i b => b.length = l.length ∧ b.take i.toNat = mkL (wr .i16) i.toNat k) (b0 := l) (by simp) (by omega) ⟨rfl, by simp [mkL]⟩ ?_ ?_
  · intro i b h2 h3 ⟨hb, ht⟩
    have hi : i < (b.length : Int) := by omega
    obtain ⟨u, hu⟩ := get_of_lt h2 hi
    refine Round.yes (decide_eq_true hi) (Round.chk (chk_at h2 hi) (Round.at hu (Round.again _ ⟨b.set i.toNat (wr .i16 (k + i)), ?_, by simpa using hb, ?_⟩)))
    · rw [wrap_id (x := k + i + 1) (by omega) (by omega), wrap_id (x := i + 1) (by omega) (by omega)]
      simp only [Int.add_assoc, id_eq]
    · rw [take_set_succ h2 hi, ht, show (i + 1).toNat = i.toNat + 1 by omega, mkL_succ, show ((i.toNat : Nat) : Int) = i by omega]
  · intro b ⟨hb, ht⟩
    have e : b = mkL (wr .i16) l.length k := by rw [← take_all b, hb, ht]; simp
    rw [← e]
    exact Round.no (by simp [hb]) (Round.done (Evt.some _))
/- laws.markShaftS -/
theorem e14 (l : List Sft) (k : Int) (h0 : 0 ≤ k) (h1 : k + totS l ≤ 4611686018427387904) : ∃ b, Evt (fun n => call T C n 14 (l, k, ())) ((k + totS l, ()), (b, ())) ∧ heldS b k = some (k + totS l) := by
  have hlen : ∀ m : List Sft, (m.length : Int) ≤ totS m := by
    intro m
    induction m with
    | nil => simp [totS]
    | cons s r ih => rw [totS_cons]; simp only [List.length_cons]; omega
  have hll := hlen l
  suffices h : ∃ b : List Sft, heldS b k = some (k + totS l) ∧ Evt (fun n => call T C n 14 (l, k, ())) ((k + totS l, ()), (b, ())) by
    obtain ⟨b, h1, h2⟩ := h; exact ⟨b, h2, h1⟩
  refine ⟨markS l k, markS_held l k, ?_⟩
  refine Evt.next ?_ (fun n => r14 n l k)
  refine for_evt' 0 (l.length : Int) (fun i (b : List Sft) => (b, k + totS (l.take i.toNat), i, ())) (fun i b => b.length = l.length ∧ b.drop i.toNat = l.drop i.toNat ∧ b.take i.toNat = markS (l.take i.toNat) k) (b0 := l) (by simp [totS]) (by omega) ⟨rfl, rfl, by simp [markS]⟩ ?_ ?_
  · intro i b h2 h3 ⟨hb, hd, ht⟩
    have hi : i < (b.length : Int) := by omega
    obtain ⟨s, hs⟩ := at_of h2 h3
    have hbs : b[i.toNat]? = some s := by
      have : (b.drop i.toNat)[0]? = (l.drop i.toNat)[0]? := by rw [hd]
      rw [List.getElem?_drop, List.getElem?_drop] at this
      rw [show i.toNat + 0 = i.toNat by omega] at this
      rw [this, hs.get]
    have hset : ∀ v : Sft, (b.set i.toNat v)[i.toNat]? = some v := fun v => List.getElem?_set_self (by omega)
    have hsl : ∀ v : Sft, i < (((b.set i.toNat v).length : Nat) : Int) := fun v => by rw [List.length_set]; exact hi
    have htk := totS_take l (i + 1).toNat
    rw [hs.take, totS_append] at htk
    have ht1 : totS [s] = 3 + s.2.2.2.1.length := by rw [totS_cons]; simp [totS]
    have hp := totS_nonneg (l.take i.toNat)
    have hq := totS_nonneg (l.drop (i + 1).toNat)
    generalize hK : k + totS (l.take i.toNat) = K
    have w1 : wr .i64 (K + 1) = K + 1 := wrap_id (by omega) (by omega)
    have w2 : wr .i64 (K + 1 + 1) = K + 1 + 1 := wrap_id (by omega) (by omega)
    have w3 : wr .i64 (K + 1 + 1 + 1) = K + 1 + 1 + 1 := wrap_id (by omega) (by omega)
    simp only [w1, w2, w3, List.set_set]
    refine Round.yes (decide_eq_true hi) (Round.chk (chk_at h2 hi) (Round.at hbs (Round.chk (chk_at h2 (hsl _)) (Round.at (hset _) (Round.chk (chk_at h2 (hsl _)) (Round.at (hset _) (Round.chk (chk_at h2 (hsl _)) (Round.at (hset _) (Round.bind (e38 s.2.2.2.1 (K + 1 + 1 + 1) (by omega) (by omega)) (Round.at (hset _) (Round.again _ ⟨b.set i.toNat (markOne s K), ?_, ?_, ?_, ?_⟩)))))))))))
    · rw [hs.take, totS_append, ht1, wr_succ h2 h3 (by omega)]
      simp only [Prod.mk.injEq, and_true]
      refine ⟨rfl, ?_⟩
      show K + 1 + 1 + 1 + (s.2.2.2.1.length : Int) = _
      omega
    · simpa using hb
    · rw [drop_set_succ h2]
      have : (b.drop i.toNat).drop 1 = (l.drop i.toNat).drop 1 := by rw [hd]
      rw [List.drop_drop, List.drop_drop] at this
      rw [show (i + 1).toNat = i.toNat + 1 by omega]
      exact this
    · rw [take_set_succ h2 hi, ht, hs.take, markS_append, hK]
  · intro b ⟨hb, _, ht⟩
    have e : b = markS l k := by
      have h1 := take_all l
      rw [h1, ← hb, take_all] at ht
      exact ht
    rw [← e, take_all]
    exact Round.no (by simp [hb]) (Round.done (Evt.some _))
/- laws.heldCam -/
theorem e39 (m : Nat) (k : Int) (h0 : 0 ≤ k) (h1 : k + m ≤ 4611686018427387904) : Evt (fun n => call T C n 39 (mkL (wr .i16) m k, k, ())) ((k + m, ()), ()) := by
  refine Evt.next ?_ (fun n => r39 n _ k)
  refine for_evt' 0 (m : Int) (fun i (_ : Unit) => (mkL (wr .i16) m k, k + i, i, ())) (fun _ _ => True) (b0 := ()) (by simp) (by omega) trivial ?_ ?_
  · intro i _ h2 h3 _
    obtain ⟨v, hv⟩ := at_of (l := mkL (wr .i16) m k) h2 (by rw [mkL_len]; exact h3)
    have e := mkL_at (wr .i16) m k hv h2
    refine Round.yes (by rw [mkL_len]; exact decide_eq_true h3) (Round.at hv.idx (Round.no (by simp [e]) (Round.again _ ⟨(), ?_, trivial⟩)))
    rw [wrap_id (x := k + i + 1) (by omega) (by omega), wrap_id (x := i + 1) (by omega) (by omega)]
    simp only [Int.add_assoc]
  · intro _ _
    exact Round.no (by simp [mkL_len]) (Round.done (Evt.some _))
/- laws.heldShaftS -/
theorem e15 (b : List Sft) (k kk : Int) (h0 : 0 ≤ k) (h : heldS b k = some kk) (h1 : kk ≤ 4611686018427387904) (hb : (b.length : Int) ≤ 4611686018427387904) : Evt (fun n => call T C n 15 (b, k, ())) ((kk, ()), ()) := by
  refine Evt.next ?_ (fun n => r15 n b k)
  refine for_evt 0 (b.length : Int) (fun i (c : Int) => (b, c, i, ())) (fun i c => 0 ≤ c ∧ heldS (b.drop i.toNat) c = some kk) (b0 := k) (by omega) ⟨h0, by simpa using h⟩ ?_ ?_
  · intro i c h2 h3 ⟨hc0, hc⟩
    obtain ⟨s, hs⟩ := at_of h2 h3
    rw [hs.drop] at hc
    have hge := heldS_ge _ _ _ hc
    unfold heldS at hc
    split at hc
    · rename_i hx
      obtain ⟨x1, x2, x3, x4⟩ := hx
      rw [totS_cons] at hge
      have hn := totS_nonneg (b.drop (i + 1).toNat)
      have w1 : wr .i64 (c + 1) = c + 1 := wrap_id (by omega) (by omega)
      have w2 : wr .i64 (c + 1 + 1) = c + 1 + 1 := wrap_id (by omega) (by omega)
      have w3 : wr .i64 (c + 1 + 1 + 1) = c + 1 + 1 + 1 := wrap_id (by omega) (by omega)
      simp only [w1, w2, w3]
      have hm := e39 s.2.2.2.1.length (c + 1 + 1 + 1) (by omega) (by omega)
      rw [← x4] at hm
      refine Round.yes (decide_eq_true h3) (Round.at hs.idx (Round.no (by simp [x1]) (Round.at hs.idx (Round.no (by simp [x2]) (Round.at hs.idx (Round.no (by simp [x3]) (Round.at hs.idx (Round.bind hm (Round.no (by simp; omega) (Round.again _ ⟨c + 1 + 1 + 1 + s.2.2.2.1.length, ?_, by omega, hc⟩))))))))))
      rw [wr_succ h2 h3 (by omega)]
    · cases hc
  · intro c ⟨_, hc⟩
    rw [drop_all] at hc
    simp only [heldS, Option.some.injEq] at hc
    rw [hc]
    exact Round.no (by simp) (Round.done (Evt.some _))
/- laws.FnExactReadShafts -/
theorem e4 (a : ByteArray) (hd : DomA (C 4).params (a, ())) : Evt (fun n => call T C n 4 (a, ())) ((true, ()), ()) := by
  obtain ⟨l, rfl⟩ := tx_of a
  refine Evt.next (Evt.ite (fun _ => Evt.some _) (fun h => ?_)) (fun n => r4 n (tx l))
  have hl : l.length ≤ 1048576 := by
    simp only [decide_eq_true_eq, tx_size] at h
    omega
  obtain ⟨hg1, hg2⟩ := rdS_good l
  have hS := e11 l hl
  have hI := e12 l hl
  generalize rdS l = z at hS hI hg1 hg2
  obtain ⟨L, c⟩ := z
  simp only at hg1 hg2
  have hSm : Small L := ⟨by omega, fun s hs => by have := hg2 s hs; omega⟩
  have ht : 0 ≤ totS L ∧ totS L ≤ 3000 := totS_bd hg1 hg2
  have hE := e13 L hSm
  obtain ⟨b, hM, hb⟩ := e14 L 1 (by omega) (by omega)
  have hbl : (b.length : Int) ≤ 4611686018427387904 := by have := heldS_len b _ _ hb; omega
  have hH := e15 b 1 (1 + totS L) (by omega) hb (by omega) hbl
  refine Evt.bind hS (Evt.bind hI (Evt.bind hE (Evt.no (by simp) (Evt.no (by simp) (Evt.bind hM (Evt.bind hH (Evt.no (by simp; omega) (Evt.no (by simp) (Evt.bind hI (Evt.bind hE (Evt.no (by simp) (Evt.no (by simp) (Evt.bind hH (Evt.no (by simp; omega) (Evt.no (by simp) (Evt.some _))))))))))))))))

end Go.Cams.YtjeakogmccogmaaGreatDoorLRs
