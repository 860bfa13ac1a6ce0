/- What the functions that the law reaches come to. -/
import Derived.Test.YtjeakogmccogmaaDoorRRc
import Derived.Test.YtjeakogmccogmaaDoorPuAll
namespace Go.Cams.YtjeakogmccogmaaDoorLRc
open Go Go.Fw Go.Proofs Go.Proofs.YtjeakogmccogmaaDoor.LRc
/- spec.l01Split -/
theorem e19 (c : UInt8) (l : List UInt8) (hl : l.length ≤ 10000000) : Evt (fun n => call T C n 19 (tx l, (c.toNat : Int), ())) (((splitC c l).map tx, ()), ()) := by
  refine Evt.next ?_ (fun n => r19 n (tx l) (c.toNat : Int))
  have hsz : ((tx l).size : Int) = (l.length : Int) := by rw [tx_size]
  refine for_evt' 0 (l.length : Int) (fun i (b : List ByteArray × Int) => (tx l, (c.toNat : Int), b.1, b.2, i, ())) (fun i b => ∃ (ws : List (List UInt8)) (k : Nat), b = (ws.map tx, (k : Int)) ∧ (k : Int) ≤ i ∧ ws ++ splitC c (l.drop k) = splitC c l ∧ c ∉ (l.drop k).take (i.toNat - k) ∧ (ws.length : Int) ≤ i) (b0 := ([], 0)) rfl (by omega) ⟨[], 0, rfl, by omega, rfl, by simp, by simp⟩ ?_ ?_
  · rintro i _ i0 i1 ⟨ws, k, rfl, hk, hw, hc, hn⟩
    obtain ⟨i, rfl⟩ := Int.eq_ofNat_of_zero_le i0
    rw [Int.toNat_natCast] at hc
    dsimp only
    obtain ⟨d, hd⟩ : ∃ d, l[i]? = some d := ⟨_, List.getElem?_eq_getElem (by omega)⟩
    refine Round.yes (decide_eq_true (by rw [hsz]; exact i1)) (Round.at (nums_at hd) ?_)
    have e1 : wr .i64 ((i : Int) + 1) = (i : Int) + 1 := wr_succ i0 i1 (by omega)
    simp only [byte_eq]
    by_cases hdc : d = c
    · subst hdc
      refine Round.yes (by simp) (Round.chk (decide_eq_true ⟨by omega, by omega, by rw [hsz]; omega⟩) (Round.chk (decide_eq_true ?_) (Round.again _ ⟨(_, _), ?_, ws ++ [(l.drop k).take (i - k)], i + 1, rfl, ?_, ?_, ?_, ?_⟩)))
      · rw [List.length_map]; simp only [List.length_singleton]; omega
      · rw [Int.toNat_natCast, Int.toNat_natCast, tx_ext, e1, List.map_append]
        rfl
      · omega
      · rw [← hw, (congrArg (splitC d) (cut_at (by omega) hd)).trans (splitC_hit hc _)]; simp
      · simp
      · simp; omega
    · refine Round.no (by simpa using hdc) (Round.again _ ⟨(_, _), ?_, ws, k, rfl, ?_, hw, ?_, ?_⟩)
      · rw [e1]
      · omega
      · rw [show ((i : Int) + 1).toNat = i + 1 by omega, take_on (by omega) hd]
        intro h
        rcases List.mem_append.1 h with h | h
        · exact hc h
        · exact hdc (List.mem_singleton.1 h).symm
      · omega
  · rintro _ ⟨ws, k, rfl, hk, hw, hc, hn⟩
    rw [Int.toNat_natCast, take_rest] at hc
    dsimp only
    refine Round.no (by simp [hsz]) (Round.chk (decide_eq_true ⟨by omega, by rw [hsz]; omega, Int.le_refl _⟩) (Round.chk (decide_eq_true ?_) (Round.done ?_)))
    · rw [List.length_map]; simp only [List.length_singleton]; omega
    · rw [Int.toNat_natCast, hsz, Int.toNat_natCast, tx_ext, take_rest, ← hw, splitC_miss hc, List.map_append]
      exact Evt.some _
/- spec.l01Number -/
theorem e34 (l : List UInt8) : Evt (fun n => call T C n 34 (tx l, ())) (((numR l).1, (numR l).2, ()), ()) := by
  refine Evt.next ?_ (fun n => r34 n (tx l))
  have hsz : ((tx l).size : Int) = (l.length : Int) := by rw [tx_size]
  have no : ∀ h : ¬ (l ≠ [] ∧ l.length ≤ 9 ∧ (l.head? = some 48 → l.length ≤ 1) ∧ ∀ c ∈ l, isDg c = true), ∀ {f : Nat → Option ((Int × Bool × Unit) × Unit)}, Evt f (((0 : Int), false, ()), ()) → Evt f (((numR l).1, (numR l).2, ()), ()) := fun h f hf => by rw [numR_no h]; exact hf
  by_cases h0 : l = []
  · subst h0
    exact Evt.yes (beq_self_eq_true (tx []).toList) (no (fun h => h.1 rfl) (Evt.some _))
  refine Evt.no (by show ¬ (((tx l).toList == (tx []).toList) = true); rw [tx_toList, tx_toList, beq_iff_eq]; exact h0) ?_
  by_cases h9 : l.length ≤ 9
  case neg => exact Evt.yes (by simp [hsz]; omega) (no (fun h => h9 h.2.1) (Evt.some _))
  refine Evt.no (by simp [hsz]; omega) ?_
  obtain ⟨c, r, rfl⟩ : ∃ c r, l = c :: r := by cases l with | nil => exact absurd rfl h0 | cons c r => exact ⟨c, r, rfl⟩
  refine Evt.at (nums_at (l := c :: r) (i := 0) rfl) ?_
  refine Evt.ite (fun h => Evt.ite (fun h1 => ?a) (fun h1 => ?b)) (fun h => Evt.no (by simp) ?c)
  case a =>
    have hc : c = 48 := UInt8.toNat_inj.1 (by have := beq_iff_eq.1 h; show c.toNat = 48; omega)
    refine no (fun hh => ?_) (Evt.some _)
    have := hh.2.2.1 (by rw [hc]; rfl)
    simp only [cond_false, cond_true, hsz, decide_eq_true_eq] at h1
    omega
  case' b =>
    have hz : (c :: r).head? = some 48 → (c :: r).length ≤ 1 := fun _ => by
      simp only [cond_false, cond_true, hsz, decide_eq_true_eq] at h1
      omega
  case' c =>
    have hz : (c :: r).head? = some 48 → (c :: r).length ≤ 1 := fun e => by
      simp only [List.head?_cons, Option.some.injEq] at e
      subst e
      exact absurd rfl h
  all_goals
    refine for_evt' 0 ((c :: r).length : Int) (fun i (b : Int) => (tx (c :: r), b, i, ())) (fun i b => b = ((numV ((c :: r).take i.toNat) 0 : Nat) : Int) ∧ ∀ d ∈ (c :: r).take i.toNat, isDg d = true) (b0 := 0) rfl (by omega) ⟨rfl, by simp⟩ ?_ ?_
    · rintro i _ i0 i1 ⟨rfl, hd⟩
      obtain ⟨i, rfl⟩ := Int.eq_ofNat_of_zero_le i0
      rw [Int.toNat_natCast] at hd
      dsimp only
      rw [Int.toNat_natCast]
      obtain ⟨d, hi⟩ : ∃ d, (c :: r)[i]? = some d := ⟨_, List.getElem?_eq_getElem (by omega)⟩
      have ht : (c :: r).take (i + 1) = (c :: r).take i ++ [d] := by rw [List.take_add_one, hi]; rfl
      have bad : isDg d = false → ¬ ((c :: r) ≠ [] ∧ (c :: r).length ≤ 9 ∧ ((c :: r).head? = some 48 → (c :: r).length ≤ 1) ∧ ∀ e ∈ (c :: r), isDg e = true) := fun e hh => by
        have := hh.2.2.2 d (List.mem_of_getElem? hi)
        rw [e] at this; cases this
      refine Round.yes (decide_eq_true (by rw [hsz]; exact i1)) (Round.at (nums_at hi) (Round.ite (fun h2 => ?_) (fun h2 => ?_)))
      · exact Round.done (no (bad (by simp only [decide_eq_true_eq] at h2; unfold isDg; rw [Bool.and_eq_false_iff]; left; exact decide_eq_false (by omega))) (Evt.some _))
      refine Round.at (nums_at hi) (Round.ite (fun h3 => ?_) (fun h3 => ?_))
      · exact Round.done (no (bad (by simp only [cond_false, decide_eq_true_eq] at h3; unfold isDg; rw [Bool.and_eq_false_iff]; right; exact decide_eq_false (by omega))) (Evt.some _))
      simp only [cond_false, decide_eq_true_eq] at h2 h3
      have hg : isDg d = true := isDg_iff.2 ⟨by omega, by omega⟩
      have hb := numV_lt ((c :: r).take i) 0 0 (fun e he => (isDg_iff.1 (hd e he)).2) (by decide)
      have hb9 : 10 ^ (0 + ((c :: r).take i).length) ≤ 10 ^ 9 := Nat.pow_le_pow_right (by omega) (by rw [List.length_take]; omega)
      refine Round.at (nums_at hi) (Round.again _ ⟨_, ?_, rfl, ?_⟩)
      · rw [dig_wr (by omega) hg, wr_succ i0 i1 (by omega), show ((i : Int) + 1).toNat = i + 1 by omega, ht, numV_app]
        rfl
      · rw [show ((i : Int) + 1).toNat = i + 1 by omega, ht]
        intro e he
        rcases List.mem_append.1 he with he | he
        · exact hd e he
        · rw [List.mem_singleton.1 he]; exact hg
    · rintro _ ⟨rfl, hd⟩
      rw [Int.toNat_natCast, List.take_length] at hd
      dsimp only
      rw [Int.toNat_natCast, List.take_length]
      have e : numR (c :: r) = (((numV (c :: r) 0 : Nat) : Int), true) := if_pos ⟨h0, h9, hz, hd⟩
      rw [e]
      exact Round.no (by simp [hsz]) (Round.done (Evt.some _))
/- spec.l00In -/
theorem e58 (a b c : Int) : Evt (fun n => call T C n 58 (a, b, c, ())) ((inR a b c, ()), ()) := by
  refine Evt.next ?_ (fun n => r58 n a b c)
  refine Evt.ite (fun h => ?_) (fun h => ?_)
  · refine (Evt.some _).of_eq fun n => ?_
    have h : b ≤ a := of_decide_eq_true h
    simp [inR, h]
    rfl
  · refine (Evt.some _).of_eq fun n => ?_
    have h : ¬ b ≤ a := by simpa using h
    simp [inR, h]
    rfl
/- spec.l01Lift -/
theorem e35 (a : Int) : Evt (fun n => call T C n 35 (a, ())) ((inR a 0 10000, ()), ()) := Evt.next (Evt.bind (e58 a 0 10000) (Evt.some _)) (fun n => r35 n a)
/- spec.l01Steps -/
theorem e61 (a : Int) : Evt (fun n => call T C n 61 (a, ())) ((inR a 8 360, ()), ()) := Evt.next (Evt.bind (e58 a 8 360) (Evt.some _)) (fun n => r61 n a)
/- spec.l01Ok -/
theorem e49 (l : List Int) (hl : (l.length : Int) ≤ 140737488351232) : Evt (fun n => call T C n 49 (l, ())) ((okC l, ()), ()) := by
  refine Evt.next ?_ (fun n => r49 n l)
  refine Evt.bind (e61 _) ?_
  refine Evt.ite (fun h => ?_) (fun h => ?_)
  · refine (Evt.some _).of_eq fun n => ?_
    have h : inR (l.length : Int) 8 360 = false := by simpa using h
    simp [okC, h]
    rfl
  · have h : inR (l.length : Int) 8 360 = true := by simpa using h
    have he : okC l = l.all okV := by simp [okC, h]
    rw [he]
    refine loop_evt (fun (x : List Int × Int × Unit) => x.1 = l ∧ 0 ≤ x.2.1 ∧ x.2.1 ≤ (l.length : Int) ∧ l.all okV = (l.drop x.2.1.toNat).all okV) (fun (x : List Int × Int × Unit) => ((l.length : Int) - x.2.1).toNat) (x := (l, 0, ())) ⟨rfl, Int.le_refl _, by simp, by simp⟩ ?_
    rintro ⟨x1, i, _⟩ ⟨h', h0, h1, h2⟩
    simp only at h' h0 h1 h2
    subst h'
    refine Round.ite (fun hlt => ?_) (fun hge => ?_)
    · have hlt : i < (x1.length : Int) := of_decide_eq_true hlt
      obtain ⟨v, hv, hv'⟩ := idx_at h0 hlt
      have hd := drop_cons hv'
      refine Round.at hv (Round.bind (e35 _) (Round.ite (fun hb => ?_) (fun hb => ?_)))
      · have hb : okV v = false := by simpa [okV] using hb
        have h3 : x1.all okV = false := by rw [h2, hd]; simp [hb]
        rw [h3]
        exact Round.done (Evt.some _)
      · have hb : okV v = true := by simpa [okV] using hb
        have hw : wr .i64 (i + 1) = i + 1 := wrap_id (by omega) (by omega)
        refine Round.again _ ⟨⟨rfl, ?_, ?_, ?_⟩, ?_⟩ <;> simp only [hw]
        · omega
        · omega
        · rw [h2, hd, show (i + 1).toNat = i.toNat + 1 by omega]
          simp [hb]
        · omega
    · have hge : ¬ i < (x1.length : Int) := by simpa using hge
      have : x1.drop i.toNat = [] := List.drop_of_length_le (by omega)
      rw [h2, this]
      exact Round.done (Evt.some _)
/- spec.l01Read -/
theorem e24_in {α : Type} {y : α} {P : (List ByteArray × List Int × Int × Unit) → Prop} (W : List ByteArray) (out : List Int) (i v k : Int) (ho : out.length ≤ 1000) (hv : 0 ≤ v ∧ v ≤ 10000) (hk : 1 ≤ k ∧ k ≤ 360) (hP : P (W, out ++ List.replicate k.toNat v, wr .i64 (i + 1), ())) :
    Round (fun n (ag : (List ByteArray × List Int × Int × Unit) → Option α) => loopK (fun (x15 : (List ByteArray) × (List Int) × Int × Int × Int × Int × Unit) again16 => (if (decide (x15.2.2.2.2.2.1 < x15.2.2.2.2.1)) = true then chk (decide ((x15.2.1.length + ([(wr .i16 x15.2.2.2.1)] : (List Int)).length) * 2 ≤ 140737488355328)) (again16 (x15.1, (x15.2.1 ++ ([(wr .i16 x15.2.2.2.1)] : (List Int))), x15.2.2.1, x15.2.2.2.1, x15.2.2.2.2.1, (wr .i64 (x15.2.2.2.2.2.1 + (1 : Int))), ())) else ag (x15.1, x15.2.1, (wr .i64 (x15.2.2.1 + (1 : Int))), ()))) n (W, out, i, v, k, (0 : Int), ())) y P := by
  refine for_round' 0 k (fun j (b : List Int) => (W, b, i, v, k, j, ())) (fun j b => b = out ++ List.replicate j.toNat v) (b0 := out) rfl (by omega) (by simp) ?_ ?_
  · rintro j _ j0 j1 rfl
    dsimp only
    refine Round.yes (decide_eq_true j1) (Round.chk (decide_eq_true (by simp; omega)) (Round.again _ ⟨_, ?_, rfl⟩))
    rw [wrap16 (x := v) (by omega) (by omega), wr_succ j0 j1 (by omega), List.append_assoc, show (j + 1).toNat = j.toNat + 1 by omega, List.replicate_succ']
  · rintro _ rfl
    dsimp only
    exact Round.no (by simp) (Round.again _ hP)
theorem e24 (l : List UInt8) (hl : l.length ≤ 1048576) : Evt (fun n => call T C n 24 (tx l, ())) ((match foldO srW [] (splitC 32 l) with | some c => ((if okC c = true then c else c), okC c, ()) | none => (([] : List Int), false, ())), ()) := by
  refine Evt.next ?_ (fun n => r24 n (tx l))
  have hS := e19 32 l (by omega)
  have hn := splitC_len 32 l
  have hw := splitC_wlen (c := 32) (l := l)
  generalize splitC 32 l = ws at hS hn hw
  refine Evt.bind hS ?_
  have hlm : (((ws.map tx).length : Nat) : Int) = (ws.length : Int) := by simp
  refine for_evt' 0 (ws.length : Int) (fun i (c : List Int) => (ws.map tx, c, i, ())) (fun i c => foldO srW [] (ws.take i.toNat) = some c) (b0 := []) rfl (by omega) rfl ?_ ?_
  · intro i c i0 i1 hL
    obtain ⟨i, rfl⟩ := Int.eq_ofNat_of_zero_le i0
    rw [Int.toNat_natCast] at hL
    obtain ⟨w, hi⟩ : ∃ w, ws[i]? = some w := ⟨_, List.getElem?_eq_getElem (by omega)⟩
    have hwl := hw w (List.mem_of_getElem? hi)
    have G := srW_good hL
    have hvi : idx (ws.map tx) (i : Int) = some (tx w) := by
      unfold idx
      rw [if_pos (by omega), Int.toNat_natCast, List.getElem?_map, hi]; rfl
    have bad : srW c w = none → ∀ {f : Nat → Option ((List Int × Bool × Unit) × Unit)}, Evt f ((([] : List Int), false, ()), ()) → Evt f ((match foldO srW [] ws with | some c => ((if okC c = true then c else c), okC c, ()) | none => (([] : List Int), false, ())), ()) := fun h f hf => by
      rw [foldO_none hL hi h]; exact hf
    have good : ∀ d, srW c w = some d → foldO srW [] (ws.take ((i : Int) + 1).toNat) = some d := fun d h => by
      rw [show ((i : Int) + 1).toNat = i + 1 by omega, foldO_next hL hi, h]
    have hws := wr_succ (i := (i : Int)) i0 i1 (by omega)
    have hSw := e19 42 w (by omega)
    obtain ⟨a, rest, e⟩ := splitC_ne 42 w
    have hrl := splitC_len 42 w
    rw [e] at hSw hrl
    simp only [List.length_cons] at hrl
    have ba := numR_bd a
    have hA := e34 a
    dsimp only
    refine Round.yes (decide_eq_true (by rw [hlm]; exact i1)) (Round.at hvi (Round.bind hSw (Round.chk (by simp) (Round.at (v := tx a) rfl (Round.bind hA ?_)))))
    have hcl := G.1
    have lift : Evt (fun n => call T C n 35 ((numR a).1, ())) ((inR (numR a).1 0 10000, ()), ()) := e35 _
    have hll : ((c.length : Nat) : Int) ≤ 360 := by omega
    have hlast : ∀ (u : Int), 0 < c.length → ∃ z, c[c.length - 1]? = some z ∧ (c.getLast? = some z) ∧ 0 ≤ z ∧ z ≤ 10000 := fun _ h => by
      obtain ⟨z, hz⟩ : ∃ z, c[c.length - 1]? = some z := ⟨_, List.getElem?_eq_getElem (by omega)⟩
      exact ⟨z, hz, by rw [List.getLast?_eq_getElem?]; exact hz, (G.2 z (List.mem_of_getElem? hz))⟩
    -- what is the same for both kinds of words: from the lift's check on
    by_cases h2 : rest.length = 1
    · obtain ⟨b, rfl⟩ : ∃ b, rest = [b] := by
        match rest, h2 with
        | [b], _ => exact ⟨b, rfl⟩
      have bb := numR_bd b
      have hB := e34 b
      have hsr : srW c w = if (numR a).2 = true ∧ (numR b).2 = true ∧ 1 < (numR b).1 ∧ (numR a).1 ≤ 10000 ∧ c.length + (numR b).1.toNat ≤ 360 ∧ c.getLast? ≠ some (numR a).1 then some (c ++ List.replicate (numR b).1.toNat (numR a).1) else none := by unfold srW; rw [e]
      refine Round.yes (by simp) (Round.chk (by simp) (Round.at (v := tx b) rfl (Round.bind hB ?_)))
      by_cases c2 : (numR b).2 = true
      case neg =>
        refine Round.no (by simp [c2]) ?_
        by_cases c1 : (numR a).2 = true
        case neg => exact Round.yes (by simp [c1]) (Round.done (bad (by rw [hsr, if_neg (fun h => c1 h.1)]) (Evt.some _)))
        refine Round.no (by simp [c1]) (Round.yes rfl (Round.done (bad (by rw [hsr, if_neg (fun h => c2 h.2.1)]) (Evt.some _))))
      refine Round.yes c2 ?_
      by_cases c1 : (numR a).2 = true
      case neg => exact Round.yes (by simp [c1]) (Round.done (bad (by rw [hsr, if_neg (fun h => c1 h.1)]) (Evt.some _)))
      refine Round.no (by simp [c1]) ?_
      by_cases c3 : 1 < (numR b).1
      case neg => exact Round.yes (by show (!decide ((numR b).1 > 1)) = true; simp; omega) (Round.done (bad (by rw [hsr, if_neg (fun h => c3 h.2.2.1)]) (Evt.some _)))
      refine Round.no (by show ¬ (!decide ((numR b).1 > 1)) = true; simp; omega) (Round.bind lift ?_)
      by_cases c4 : (numR a).1 ≤ 10000
      case neg => exact Round.yes (by show (!inR (numR a).1 0 10000) = true; rw [show inR (numR a).1 0 10000 = false from by rw [← Bool.not_eq_true]; intro h; exact c4 (inR_iff.1 h).2]; rfl) (Round.done (bad (by rw [hsr, if_neg (fun h => c4 h.2.2.2.1)]) (Evt.some _)))
      refine Round.no (by show ¬ (!inR (numR a).1 0 10000) = true; rw [inR_iff.2 ⟨ba.1, c4⟩]; simp) ?_
      by_cases c5 : c.length + (numR b).1.toNat ≤ 360
      case neg =>
        refine Round.ite (fun _ => Round.done (bad (by rw [hsr, if_neg (fun h => c5 h.2.2.2.2.1)]) (Evt.some _))) (fun h => ?_)
        refine Round.yes ?_ (Round.done (bad (by rw [hsr, if_neg (fun h => c5 h.2.2.2.2.1)]) (Evt.some _)))
        show decide (wr .i64 ((c.length : Int) + (numR b).1) > 360) = true
        rw [wrap_id (by omega) (by omega)]
        exact decide_eq_true (by omega)
      refine Round.no (by show ¬ decide ((numR b).1 > 360) = true; rw [decide_eq_true_eq]; omega) (Round.no (by show ¬ decide (wr .i64 ((c.length : Int) + (numR b).1) > 360) = true; rw [wrap_id (by omega) (by omega), decide_eq_true_eq]; omega) ?_)
      by_cases c6 : 0 < c.length
      · obtain ⟨z, hz, hzl, z0, z1⟩ := hlast 0 c6
        have hw1 : wr .i64 ((c.length : Int) - 1) = ((c.length - 1 : Nat) : Int) := by rw [wrap_id (by omega) (by omega)]; omega
        refine Round.yes (decide_eq_true (by show (0 : Int) < (c.length : Int); omega)) (Round.chk (by rw [hw1]; exact decide_eq_true ⟨by omega, by omega⟩) (Round.at (v := z) (by rw [hw1, Int.toNat_natCast]; exact hz) ?_))
        by_cases c7 : z = (numR a).1
        · exact Round.yes (by show (wr .i64 z == (numR a).1) = true; rw [wrap_id (by omega) (by omega), c7]; simp) (Round.done (bad (by rw [hsr, if_neg (fun h => h.2.2.2.2.2 (by rw [hzl, c7]))]) (Evt.some _)))
        · refine Round.no (by show ¬ (wr .i64 z == (numR a).1) = true; rw [wrap_id (by omega) (by omega)]; simpa using c7) (e24_in _ c (i : Int) (numR a).1 (numR b).1 (by omega) (by omega) (by omega) ⟨_, by rw [hws], good _ (by rw [hsr, if_pos ⟨c1, c2, c3, c4, c5, by rw [hzl]; simpa using c7⟩])⟩)
      · have hc0 : c = [] := List.length_eq_zero_iff.1 (by omega)
        subst hc0
        exact Round.no (by simp) (Round.no (by simp) (e24_in _ [] (i : Int) (numR a).1 (numR b).1 (by simp) (by omega) (by omega) ⟨_, by rw [hws], good _ (by rw [hsr, if_pos ⟨c1, c2, c3, c4, c5, by simp⟩])⟩))
    · refine Round.no (by simp; omega) ?_
      have h1n : rest ≠ [] → srW c w = none := fun h => by
        unfold srW
        rw [e]
        match rest, h, h2 with
        | [_], _, h2 => exact absurd rfl h2
        | _ :: _ :: _, _, _ => rfl
      by_cases c1 : (numR a).2 = true
      case neg =>
        refine Round.yes (by simp [c1]) (Round.done (bad ?_ (Evt.some _)))
        by_cases hr : rest = []
        · subst hr
          unfold srW
          rw [e]
          exact if_neg (fun h => c1 h.1)
        · exact h1n hr
      refine Round.no (by simp [c1]) ?_
      by_cases hr : rest = []
      case neg =>
        have : rest.length ≠ 0 := fun h => hr (List.length_eq_zero_iff.1 h)
        exact Round.yes (by simp; omega) (Round.done (bad (h1n hr) (Evt.some _)))
      subst hr
      have hsr : srW c w = if (numR a).2 = true ∧ (numR a).1 ≤ 10000 ∧ c.length + 1 ≤ 360 ∧ c.getLast? ≠ some (numR a).1 then some (c ++ List.replicate 1 (numR a).1) else none := by unfold srW; rw [e]
      refine Round.no (by simp) (Round.bind lift ?_)
      by_cases c4 : (numR a).1 ≤ 10000
      case neg => exact Round.yes (by show (!inR (numR a).1 0 10000) = true; rw [show inR (numR a).1 0 10000 = false from by rw [← Bool.not_eq_true]; intro h; exact c4 (inR_iff.1 h).2]; rfl) (Round.done (bad (by rw [hsr, if_neg (fun h => c4 h.2.1)]) (Evt.some _)))
      refine Round.no (by show ¬ (!inR (numR a).1 0 10000) = true; rw [inR_iff.2 ⟨ba.1, c4⟩]; simp) (Round.no (by decide) ?_)
      by_cases c5 : c.length + 1 ≤ 360
      case neg =>
        refine Round.yes ?_ (Round.done (bad (by rw [hsr, if_neg (fun h => c5 h.2.2.1)]) (Evt.some _)))
        show decide (wr .i64 ((c.length : Int) + 1) > 360) = true
        rw [wrap_id (by omega) (by omega)]
        exact decide_eq_true (by omega)
      refine Round.no (by show ¬ decide (wr .i64 ((c.length : Int) + 1) > 360) = true; rw [wrap_id (by omega) (by omega), decide_eq_true_eq]; omega) ?_
      by_cases c6 : 0 < c.length
      · obtain ⟨z, hz, hzl, z0, z1⟩ := hlast 0 c6
        have hw1 : wr .i64 ((c.length : Int) - 1) = ((c.length - 1 : Nat) : Int) := by rw [wrap_id (by omega) (by omega)]; omega
        refine Round.yes (decide_eq_true (by show (0 : Int) < (c.length : Int); omega)) (Round.chk (by rw [hw1]; exact decide_eq_true ⟨by omega, by omega⟩) (Round.at (v := z) (by rw [hw1, Int.toNat_natCast]; exact hz) ?_))
        by_cases c7 : z = (numR a).1
        · exact Round.yes (by show (wr .i64 z == (numR a).1) = true; rw [wrap_id (by omega) (by omega), c7]; simp) (Round.done (bad (by rw [hsr, if_neg (fun h => h.2.2.2 (by rw [hzl, c7]))]) (Evt.some _)))
        · refine Round.no (by show ¬ (wr .i64 z == (numR a).1) = true; rw [wrap_id (by omega) (by omega)]; simpa using c7) (e24_in _ c (i : Int) (numR a).1 1 (by omega) (by omega) (by omega) ⟨_, by rw [hws], good _ (by rw [hsr, if_pos ⟨c1, c4, c5, by rw [hzl]; simpa using c7⟩]; rfl)⟩)
      · have hc0 : c = [] := List.length_eq_zero_iff.1 (by omega)
        subst hc0
        exact Round.no (by simp) (Round.no (by simp) (e24_in _ [] (i : Int) (numR a).1 1 (by simp) (by omega) (by omega) ⟨_, by rw [hws], good _ (by rw [hsr, if_pos ⟨c1, c4, c5, by simp⟩]; rfl)⟩))
  · intro c hL
    rw [Int.toNat_natCast, List.take_length] at hL
    have G := srW_good hL
    dsimp only
    rw [hL]
    refine Round.no (by rw [hlm]; simp) (Round.bind (e49 c (by have := G.1; omega)) (Round.done ?_))
    simp only [ite_self]
    exact Evt.some _
/- spec.ReadCam -/
theorem e9 (l : List UInt8) (hl : l.length ≤ 1048576) : Evt (fun n => call T C n 9 (tx l, ())) (((rdC l).1, (rdC l).2, ()), ()) := by
  refine Evt.next (Evt.bind (e24 l hl) ?_) (fun n => r9 n (tx l))
  unfold rdC
  cases h : foldO srW [] (splitC 32 l) with
  | none => exact Evt.yes rfl (Evt.some _)
  | some c =>
    simp only [ite_self]
    cases ho : okC c with
    | false => exact Evt.yes rfl (Evt.some _)
    | true => exact Evt.no (by simp) (Evt.some _)
/- strings.Split -/
theorem e21 {c : UInt8} {w : List UInt8} {ws : List (List UInt8)} (h : c ∉ w) (hs : ∀ v ∈ ws, c ∉ v) (hl : (Lib.join (w :: ws) [c]).length ≤ 1000000) : Evt (fun n => call T C n 21 (tx (Lib.join (w :: ws) [c]), tx [c], ())) (((w :: ws).map tx, ()), ()) := by
  refine Evt.next ?_ (fun n => r21 n (tx (Lib.join (w :: ws) [c])) (tx [c]))
  dsimp only
  rw [if_pos ⟨by rw [tx_size]; omega, by rw [tx_size]; simp⟩, split_tx h hs]
  exact Evt.some _
theorem e21_2 (c : UInt8) (l : List UInt8) (hl : l.length ≤ 10000000) : Evt (fun n => call T C n 21 (tx l, tx [c], ())) (((splitC c l).map tx, ()), ()) := by
  refine Evt.next ?_ (fun n => r21 n (tx l) (tx [c]))
  dsimp only
  rw [if_pos ⟨by rw [tx_size]; omega, by rw [tx_size]; simp⟩, split_all]
  exact Evt.some _
/- strings.Cut -/
theorem e25 (l s : List UInt8) (hl : l.length ≤ 10000000) : Evt (fun n => call T C n 25 (tx l, tx s, ())) ((tx (Lib.cut l s).1, tx (Lib.cut l s).2.1, (Lib.cut l s).2.2, ()), ()) := by
  refine Evt.next ?_ (fun n => r25 n (tx l) (tx s))
  dsimp only
  rw [if_pos (by rw [tx_size]; omega)]
  exact Evt.some _
/- strconv.ParseInt -/
theorem e51 {u : Nat} (h : u ≤ 9223372036854775807) : Evt (fun n => call T C n 51 (tx (Lib.decDigits u), 10, 64, ())) (((u : Int), false, ()), ()) := by
  have l1 := dec_len h
  refine Evt.next ?_ (fun n => r51 n (tx (Lib.decDigits u)) 10 64)
  dsimp only
  rw [if_pos ⟨by rw [tx_size]; omega, rfl, rfl⟩, tx_list, parse_int h]
  exact Evt.some _
/- strconv.FormatInt -/
theorem e78 (u : Nat) (h : u ≤ 9223372036854775807) : Evt (fun n => call T C n 78 ((u : Int), 10, ())) ((tx (Lib.decDigits u), ()), ()) := by
  refine Evt.next ?_ (fun n => r78 n u 10)
  dsimp only
  rw [if_pos ⟨rfl, by omega, by omega⟩, Lib.itoa_nonneg]
  exact Evt.some _
theorem e78_2 (v : Int) (h0 : -9223372036854775808 ≤ v) (h1 : v ≤ 9223372036854775807) : Evt (fun n => call T C n 78 (v, 10, ())) ((tx (Lib.itoa v), ()), ()) := by
  refine Evt.next ?_ (fun n => r78 n v 10)
  dsimp only
  rw [if_pos ⟨rfl, h0, h1⟩]
  exact Evt.some _
/- impl.decimal -/
theorem e52 (u : Nat) (h : u ≤ 9223372036854775807) : Evt (fun n => call T C n 52 ((u : Int), ())) ((tx (Lib.decDigits u), ()), ()) :=
  Evt.next (Evt.bind (e78 u h) (Evt.some _)) (fun n => r52 n u)
theorem e52_2 (v : Int) (h0 : -9223372036854775808 ≤ v) (h1 : v ≤ 9223372036854775807) : Evt (fun n => call T C n 52 (v, ())) ((tx (Lib.itoa v), ()), ()) :=
  Evt.next (Evt.bind (e78_2 v h0 h1) (Evt.some _)) (fun n => r52 n v)
/- impl.number -/
theorem e26 {u : Nat} (h : u ≤ 9223372036854775807) : Evt (fun n => call T C n 26 (tx (Lib.decDigits u), ())) (((u : Int), true, ()), ()) := by
  refine Evt.next (Evt.bind (e51 h) (Evt.chk rfl (Evt.yes rfl (Evt.bind (e52 u h) ?_)))) (fun n => r26 n (tx (Lib.decDigits u)))
  simp only [beq_self_eq_true, cond_true]
  exact Evt.some _
theorem e26_2 (l : List UInt8) (hl : l.length ≤ 10000000) : Evt (fun n => call T C n 26 (tx l, ())) (((numI l).1, (numI l).2, ()), ()) := by
  have hP : Evt (fun n => call T C n 51 (tx l, 10, 64, ())) (((numI l).1, (match Lib.parseIntB 64 l with | .ok _ => false | _ => true), ()), ()) := by
    refine Evt.next ?_ (fun n => r51 n (tx l) 10 64)
    dsimp only
    rw [if_pos ⟨by rw [tx_size]; omega, rfl, rfl⟩, tx_list]
    unfold numI
    cases Lib.parseIntB 64 l <;> exact Evt.some _
  have hb := numI_bd l
  refine Evt.next (Evt.bind hP (Evt.chk rfl ?_)) (fun n => r26 n (tx l))
  have hd := e52_2 (numI l).1 hb.1 hb.2
  revert hd
  rcases h : Lib.parseIntB 64 l with v | _ | _
  · intro hd
    refine Evt.yes rfl (Evt.bind hd ?_)
    simp only [tx_toList, cond_true]
    have e1 : (numI l).2 = (Lib.itoa (numI l).1 == l) := by unfold numI; rw [h]
    rw [e1]
    exact Evt.some _
  · intro _
    have e1 : (numI l).2 = false := by unfold numI; rw [h]
    rw [e1]
    exact Evt.no (by simp) (Evt.some _)
  · intro _
    have e1 : (numI l).2 = false := by unfold numI; rw [h]
    rw [e1]
    exact Evt.no (by simp) (Evt.some _)
/- impl.inRange -/
theorem e28 (a b c : Int) : Evt (fun n => call T C n 28 (a, b, c, ())) ((inR a b c, ()), ()) := by
  refine Evt.next ?_ (fun n => r28 n a b c)
  refine Evt.ite (fun h => ?_) (fun h => ?_)
  · refine (Evt.some _).of_eq fun n => ?_
    have h : b ≤ a := of_decide_eq_true h
    simp [inR, h]
    rfl
  · refine (Evt.some _).of_eq fun n => ?_
    have h : ¬ b ≤ a := by simpa using h
    simp [inR, h]
    rfl
/- impl.isLift -/
theorem e27 (a : Int) : Evt (fun n => call T C n 27 (a, ())) ((inR a 0 10000, ()), ()) := Evt.next (Evt.bind (e28 a 0 10000) (Evt.some _)) (fun n => r27 n a)
/- (impl.Cam).steps -/
theorem e29 (a : List Int) : Evt (fun n => call T C n 29 (a, ())) (((a.length : Int), ()), ()) := Evt.next (Evt.some _) (fun n => r29 n a)
/- slices.Repeat[impl.Cam,int16] -/
theorem e30 (v k : Int) (h1 : 1 ≤ k) (h2 : k ≤ 360) : Evt (fun n => call T C n 30 ([v], k, ())) ((List.replicate k.toNat v, ()), ()) := by
  refine Evt.next ?_ (fun n => r30 n [v] k)
  dsimp only
  rw [if_pos ⟨rfl, h1, h2⟩]
  exact Evt.some _
/- impl.isSteps -/
theorem e54 (a : Int) : Evt (fun n => call T C n 54 (a, ())) ((inR a 8 360, ()), ()) := Evt.next (Evt.bind (e28 a 8 360) (Evt.some _)) (fun n => r54 n a)
/- impl.ValidCam$1 -/
theorem e56 (v : Int) : Evt (fun n => call T C n 56 (v, ())) ((!okV v, ()), ()) := Evt.next (Evt.bind (e27 _) (Evt.some _)) (fun n => r56 n v)
/- slices.IndexFunc[impl.Cam,int16]{impl.ValidCam$1} -/
theorem e81 (l : List Int) (hl : (l.length : Int) ≤ 140737488351232) : Evt (fun n => call T C n 81 (l, ((), ()), ())) ((fi (fun v => !okV v) l 0, ()), ()) := by
  refine Evt.next ?_ (fun n => r81 n l ((), ()))
  refine loop_evt (fun (x : List Int × (Unit × Unit) × Int × Int × Unit) => x.1 = l ∧ x.2.2.1 = (l.length : Int) ∧ 0 ≤ x.2.2.2.1 ∧ x.2.2.2.1 ≤ (l.length : Int) ∧ fi (fun v => !okV v) l 0 = fi (fun v => !okV v) (l.drop x.2.2.2.1.toNat) x.2.2.2.1) (fun (x : List Int × (Unit × Unit) × Int × Int × Unit) => ((l.length : Int) - x.2.2.2.1).toNat) (x := (l, ((), ()), (l.length : Int), 0, ())) ⟨rfl, rfl, Int.le_refl _, by simp, by simp⟩ ?_
  rintro ⟨x1, u, m, i, _⟩ ⟨h', hm, h0, h1, h2⟩
  simp only at h' hm h0 h1 h2
  subst h'; subst hm
  refine Round.ite (fun hlt => ?_) (fun hge => ?_)
  · have hlt : i < (x1.length : Int) := of_decide_eq_true hlt
    obtain ⟨v, hv, hv'⟩ := idx_at h0 hlt
    have hd := drop_cons hv'
    refine Round.at hv (Round.bind (e56 _) (Round.ite (fun hb => ?_) (fun hb => ?_)))
    · have hb : okV v = false := by simpa using hb
      have h3 : fi (fun v => !okV v) x1 0 = i := by rw [h2, hd]; simp [fi, hb]
      rw [h3]
      exact Round.done (Evt.some _)
    · have hb : okV v = true := by simpa using hb
      have hw : wr .i64 (i + 1) = i + 1 := wrap_id (by omega) (by omega)
      refine Round.again _ ⟨⟨rfl, rfl, ?_, ?_, ?_⟩, ?_⟩ <;> simp only [hw]
      · omega
      · omega
      · rw [h2, hd, show (i + 1).toNat = i.toNat + 1 by omega]
        simp [fi, hb]
      · omega
  · have hge : ¬ i < (x1.length : Int) := by simpa using hge
    have : x1.drop i.toNat = [] := List.drop_of_length_le (by omega)
    rw [h2, this]
    exact Round.done (Evt.some _)
/- slices.ContainsFunc[impl.Cam,int16]{impl.ValidCam$1} -/
theorem e55 (l : List Int) (hl : (l.length : Int) ≤ 140737488351232) : Evt (fun n => call T C n 55 (l, ((), ()), ())) ((l.any (fun v => !okV v), ()), ()) := by
  refine Evt.next (Evt.bind (e81 l hl) ((Evt.some _).of_eq fun n => ?_)) (fun n => r55 n l ((), ()))
  simp only [fi_any _ l 0 (Int.le_refl _)]
  rfl
/- impl.ValidCam -/
theorem e31 (l : List Int) (hl : (l.length : Int) ≤ 140737488351232) : Evt (fun n => call T C n 31 (l, ())) ((okC l, ()), ()) := by
  refine Evt.next (Evt.bind (e29 l) (Evt.bind (e54 _) ?_)) (fun n => r31 n l)
  refine Evt.ite (fun h => ?_) (fun h => ?_)
  · refine Evt.bind (e55 l hl) ((Evt.some _).of_eq fun n => ?_)
    have h : inR (l.length : Int) 8 360 = true := h
    have : okC l = !l.any (fun v => !okV v) := by simp [okC, h, List.any_eq_not_all_not]
    rw [this]
    rfl
  · refine (Evt.some _).of_eq fun n => ?_
    have h : inR (l.length : Int) 8 360 = false := by simpa using h
    simp [okC, h]
    rfl
/- strings.Join -/
theorem e57 (ws : List (List UInt8)) (s : List UInt8) (h1 : ws.length ≤ 1000000) (h2 : (Lib.join ws s).length ≤ 1000000000) : Evt (fun n => call T C n 57 (ws.map tx, tx s, ())) ((tx (Lib.join ws s), ()), (ws.map tx, ())) := by
  refine Evt.next ?_ (fun n => r57 n (ws.map tx) (tx s))
  have e : (ws.map tx).map (fun s => s.data.toList) = ws := by
    rw [List.map_map]
    exact (List.map_congr_left fun a _ => rfl).trans (List.map_id ws)
  dsimp only
  rw [e]
  show Evt (fun n => if (ws.map tx).length ≤ 140737488355328 ∧ (Lib.join ws s).length ≤ 140737488355328 then some ((tx (Lib.join ws s), ()), (ws.map tx, ())) else none) _
  rw [if_pos ⟨by simp; omega, by omega⟩]
  exact Evt.some _
/- impl.CamText -/
theorem e32 (c : List Int) (hr : Rng c) : Evt (fun n => call T C n 32 (c, ())) ((camT c, ()), ()) := by
  have hcl := hr.len'
  refine Evt.next (Evt.bind (e31 c (by omega)) ?_) (fun n => r32 n c)
  unfold camT
  cases h : okC c with
  | false => exact Evt.yes rfl (Evt.some _)
  | true =>
    have hl := okC_len h
    have hC := okC_el h hr
    have c32 : (⟨#[32]⟩ : ByteArray) = tx [32] := rfl
    have c42 : (⟨#[42]⟩ : ByteArray) = tx [42] := rfl
    refine Evt.no (by simp) ?_
    refine loop_evt (fun x => ∃ (i : Nat) (ws : List (List UInt8)), x = (c, ws.map tx, (i : Int), ()) ∧ i ≤ c.length ∧ ws ++ (rle (c.drop i)).map wordL = (rle c).map wordL ∧ ws.length ≤ i ∧ (∀ w ∈ ws, w.length ≤ 43) ∧ (0 < i → ws ≠ [])) (fun x => c.length - x.2.2.1.toNat) ⟨0, [], rfl, by omega, by simp, by simp, by simp, by simp⟩ ?_
    rintro x ⟨i, ws, rfl, hi, hws, hwl0, hl43, hne0⟩
    have hJ := join_len [32] ws hl43
    simp only [List.length_cons, List.length_nil] at hJ
    have hJ : (Lib.join ws [32]).length ≤ 1000000 := by omega
    by_cases hlt : i < c.length
    · have hlt : (i : Int) < (c.length : Int) := by omega
      refine Round.yes (decide_eq_true hlt) ?_
      refine for_round' (i : Int) (c.length : Int) (fun j (_ : Unit) => (c, ws.map tx, (i : Int), j, ())) (fun j _ => ∀ u : Nat, i ≤ u → (u : Int) < j → g c u = g c i) (b0 := ()) rfl (by omega) (fun u h1 h2 => absurd h2 (by omega)) ?_ ?_
      · intro j' _ h2 h3' hP
        obtain ⟨j, rfl⟩ : ∃ j : Nat, j' = j := ⟨j'.toNat, by omega⟩
        have a1 := g_idx (l := c) (i := (j : Int)) (by omega) (by omega)
        have a2 := g_idx (l := c) (i := (i : Int)) (by omega) (by omega)
        rw [Int.toNat_natCast] at a1 a2
        refine Round.yes (decide_eq_true h3') (Round.at a1.idx (Round.at a2.idx ?_))
        by_cases heq : g c j = g c i
        · refine Round.yes (by simp [heq]) (Round.inr _ ⟨(), by rw [wr_succ (by omega) h3' (by omega)], fun u h1 h2 => ?_⟩)
          by_cases hu : u = j
          · rw [hu, heq]
          · exact hP u h1 (by omega)
        · have hj1 : i < j := by
            apply Classical.byContradiction
            intro h
            exact heq (by rw [show j = i by omega])
          have hj2 : j ≤ c.length := by omega
          have h3 : ∀ u, i ≤ u → u < j → g c u = g c i := fun u h1 h2 => hP u h1 (by omega)
          have h4 : j = c.length ∨ g c j ≠ g c i := .inr heq
          refine Round.no (by simp [heq]) ?_
          have hv := g_idx (l := c) (i := (i : Int)) (by omega) (by omega)
          rw [Int.toNat_natCast] at hv
          have hvb := hC _ hv.mem
          obtain ⟨v, hv2⟩ : ∃ v : Nat, g c i = v := ⟨(g c i).toNat, by omega⟩
          have hd := rle_drop hj1 hj2 h3 h4
          have e1 : wr .i64 (g c i) = (v : Int) := by rw [hv2]; exact wrap_id (by omega) (by omega)
          have e2 : wr .i64 ((j : Int) - (i : Int)) = ((j - i : Nat) : Int) := by rw [wrap_id (by omega) (by omega)]; omega
          have hD1 := e52 v (by omega)
          have hD2 := e52 (j - i) (by omega)
          have z1 := dec_len (u := v) (by omega)
          have z2 := dec_len (u := j - i) (by omega)
          have hw : wordL (g c i, j - i) = if j - i > 1 then Lib.decDigits v ++ 42 :: Lib.decDigits (j - i) else Lib.decDigits v := by unfold wordL; rw [hv2]; rfl
          have hwl := wordL_len (x := (g c i, j - i)) (by show g c i ≤ _; omega) (by show j - i ≤ _; omega)
          have next : ∀ w, w = wordL (g c i, j - i) → (ws ++ [w]) ++ (rle (c.drop j)).map wordL = (rle c).map wordL ∧ (ws ++ [w]).length ≤ j ∧ (∀ u ∈ ws ++ [w], u.length ≤ 43) ∧ (0 < j → ws ++ [w] ≠ []) := fun w hw => by
            refine ⟨?_, by simp; omega, fun u hu => ?_, fun _ => by simp⟩
            · rw [← hws, hd, hw]; simp
            · rcases List.mem_append.1 hu with hu | hu
              · exact hl43 u hu
              · simp at hu; rw [hu, hw]; exact hwl
          refine Round.at hv.idx ?_
          simp only [e1, e2]
          refine Round.bind hD1 ?_
          have hml : (ws.map tx).length = ws.length := by simp
          by_cases hk : j - i > 1
          · refine Round.yes (decide_eq_true (by omega)) (Round.bind hD2 ?_)
            simp only [c42, tx_app]
            refine Round.chk (szT (by simp) (by omega)) (Round.chk (szT (by omega) (by simp; omega)) (Round.chk (by simp; omega) (Round.inl _ ⟨⟨j, ws ++ [wordL (g c i, j - i)], ?_, hj2, next _ rfl⟩, ?_⟩)))
            · rw [hw, if_pos hk]; simp
            · show c.length - (j : Int).toNat < c.length - (i : Int).toNat
              omega
          · refine Round.no (by simp; omega) (Round.chk (by simp; omega) (Round.inl _ ⟨⟨j, ws ++ [wordL (g c i, j - i)], ?_, hj2, next _ rfl⟩, ?_⟩))
            · rw [hw, if_neg hk]; simp
            · show c.length - (j : Int).toNat < c.length - (i : Int).toNat
              omega
      · intro _ hP
        refine Round.no (by simp) ?_
        have hj1 : i < c.length := by omega
        have hj2 : c.length ≤ c.length := Nat.le_refl _
        have h3 : ∀ u, i ≤ u → u < c.length → g c u = g c i := fun u h1 h2 => hP u h1 (by omega)
        have h4 : c.length = c.length ∨ g c c.length ≠ g c i := .inl rfl
        have hv := g_idx (l := c) (i := (i : Int)) (by omega) (by omega)
        rw [Int.toNat_natCast] at hv
        have hvb := hC _ hv.mem
        obtain ⟨v, hv2⟩ : ∃ v : Nat, g c i = v := ⟨(g c i).toNat, by omega⟩
        have hd := rle_drop hj1 hj2 h3 h4
        have e1 : wr .i64 (g c i) = (v : Int) := by rw [hv2]; exact wrap_id (by omega) (by omega)
        have e2 : wr .i64 ((c.length : Int) - (i : Int)) = ((c.length - i : Nat) : Int) := by rw [wrap_id (by omega) (by omega)]; omega
        have hD1 := e52 v (by omega)
        have hD2 := e52 (c.length - i) (by omega)
        have z1 := dec_len (u := v) (by omega)
        have z2 := dec_len (u := c.length - i) (by omega)
        have hw : wordL (g c i, c.length - i) = if c.length - i > 1 then Lib.decDigits v ++ 42 :: Lib.decDigits (c.length - i) else Lib.decDigits v := by unfold wordL; rw [hv2]; rfl
        have hwl := wordL_len (x := (g c i, c.length - i)) (by show g c i ≤ _; omega) (by show c.length - i ≤ _; omega)
        have next : ∀ w, w = wordL (g c i, c.length - i) → (ws ++ [w]) ++ (rle (c.drop c.length)).map wordL = (rle c).map wordL ∧ (ws ++ [w]).length ≤ c.length ∧ (∀ u ∈ ws ++ [w], u.length ≤ 43) ∧ (0 < c.length → ws ++ [w] ≠ []) := fun w hw => by
          refine ⟨?_, by simp; omega, fun u hu => ?_, fun _ => by simp⟩
          · rw [← hws, hd, hw]; simp
          · rcases List.mem_append.1 hu with hu | hu
            · exact hl43 u hu
            · simp at hu; rw [hu, hw]; exact hwl
        refine Round.at hv.idx ?_
        simp only [e1, e2]
        refine Round.bind hD1 ?_
        have hml : (ws.map tx).length = ws.length := by simp
        by_cases hk : c.length - i > 1
        · refine Round.yes (decide_eq_true (by omega)) (Round.bind hD2 ?_)
          simp only [c42, tx_app]
          refine Round.chk (szT (by simp) (by omega)) (Round.chk (szT (by omega) (by simp; omega)) (Round.chk (by simp; omega) (Round.inl _ ⟨⟨c.length, ws ++ [wordL (g c i, c.length - i)], ?_, hj2, next _ rfl⟩, ?_⟩)))
          · rw [hw, if_pos hk]; simp
          · show c.length - (c.length : Int).toNat < c.length - (i : Int).toNat
            omega
        · refine Round.no (by simp; omega) (Round.chk (by simp; omega) (Round.inl _ ⟨⟨c.length, ws ++ [wordL (g c i, c.length - i)], ?_, hj2, next _ rfl⟩, ?_⟩))
          · rw [hw, if_neg hk]; simp
          · show c.length - (c.length : Int).toNat < c.length - (i : Int).toNat
            omega
    · have hi : i = c.length := by omega
      refine Round.no (by simp; omega) (Round.done ?_)
      rw [hi, List.drop_length] at hws
      have hw2 : ws = (rle c).map wordL := by simpa [rle] using hws
      rw [if_pos rfl]
      unfold camJ
      rw [← hw2, c32]
      exact Evt.bind (e57 ws [32] (by omega) (by omega)) (Evt.some _)
/- slices.Clone[impl.Cam,int16] -/
theorem e33 (l : List Int) (h0 : l.length ≠ 0) (hl : (l.length : Int) ≤ 1000000) : Evt (fun n => call T C n 33 (l, ())) ((l, ()), ()) :=
  Evt.next (Evt.yes (decide_eq_true h0) (Evt.chk (by simp; omega) (Evt.some _))) (fun n => r33 n l)
/- impl.ReadCam -/
theorem e10 (l : List UInt8) (hl : l.length ≤ 1048576) : Evt (fun n => call T C n 10 (tx l, ())) (((rdC l).1, (rdC l).2, ()), ()) := by
  refine Evt.next ?_ (fun n => r10 n (tx l))
  have hS := e21_2 32 l (by omega)
  have hn := splitC_len 32 l
  have hw := splitC_wlen (c := 32) (l := l)
  have hrd := rdC_eq l
  generalize splitC 32 l = ws at hS hn hw hrd
  refine Evt.bind hS ?_
  have hlm : (((ws.map tx).length : Nat) : Int) = (ws.length : Int) := by simp
  refine for_evt' 0 (ws.length : Int) (fun i (c : List Int) => (tx l, c, ws.map tx, (((ws.map tx).length : Nat) : Int), i, ())) (fun i c => foldO irW [] (ws.take i.toNat) = some c) (b0 := []) rfl (by omega) rfl ?_ ?_
  · intro i c i0 i1 hL
    obtain ⟨i, rfl⟩ := Int.eq_ofNat_of_zero_le i0
    rw [Int.toNat_natCast] at hL
    obtain ⟨w, hi⟩ : ∃ w, ws[i]? = some w := ⟨_, List.getElem?_eq_getElem (by omega)⟩
    have hwl := hw w (List.mem_of_getElem? hi)
    have G := irW_fold _ good0 hL
    have hvi : idx (ws.map tx) (i : Int) = some (tx w) := by
      unfold idx
      rw [if_pos (by omega), Int.toNat_natCast, List.getElem?_map, hi]; rfl
    have bad : irW c w = none → ∀ {f : Nat → Option ((List Int × Int × Unit) × Unit)}, Evt f ((([] : List Int), (5 : Int), ()), ()) → Evt f (((rdC l).1, (rdC l).2, ()), ()) := fun h f hf => by
      rw [hrd, foldO_none hL hi h]; exact hf
    have good : ∀ d, irW c w = some d → foldO irW [] (ws.take ((i : Int) + 1).toNat) = some d := fun d h => by
      rw [show ((i : Int) + 1).toNat = i + 1 by omega, foldO_next hL hi, h]
    have hws := wr_succ (i := (i : Int)) i0 i1 (by omega)
    have hC := e25 w [42] (by omega)
    have hcl : (Lib.cut w [42]).1.length ≤ w.length ∧ (Lib.cut w [42]).2.1.length ≤ w.length := by
      unfold Lib.cut
      split
      · exact ⟨by rw [List.length_take]; omega, by rw [List.length_drop]; omega⟩
      · exact ⟨Nat.le_refl _, by simp⟩
    have b1 := numI_bd (Lib.cut w [42]).1
    have b2 := numI_bd (Lib.cut w [42]).2.1
    have hg := G.1
    have hs360 : wr .i64 (360 - (c.length : Int)) = 360 - (c.length : Int) := wrap_id (by omega) (by omega)
    have hir : irW c w = if inR (numI (Lib.cut w [42]).1).1 0 10000 = true ∧ inR (timesI (Lib.cut w [42]).2.1) 1 (360 - c.length) = true then some (c ++ List.replicate (timesI (Lib.cut w [42]).2.1).toNat (numI (Lib.cut w [42]).1).1) else none := rfl
    dsimp only
    refine Round.yes (decide_eq_true (by rw [hlm]; exact i1)) (Round.at hvi (Round.bind hC (Round.bind (e26_2 _ (by omega)) (Round.bind (e26_2 _ (by omega)) ?_))))
    have both : ∀ (t : Int), t = timesI (Lib.cut w [42]).2.1 → inR (numI (Lib.cut w [42]).1).1 0 10000 = true → inR t 1 (360 - (c.length : Int)) = true → 0 ≤ (numI (Lib.cut w [42]).1).1 ∧ (numI (Lib.cut w [42]).1).1 ≤ 10000 ∧ 1 ≤ t ∧ t ≤ 360 - (c.length : Int) ∧ wr .i16 (numI (Lib.cut w [42]).1).1 = (numI (Lib.cut w [42]).1).1 ∧ irW c w = some (c ++ List.replicate t.toNat (numI (Lib.cut w [42]).1).1) := fun t ht h1 h2 => by
      have e1 := inR_iff.1 h1
      have e2 := inR_iff.1 h2
      exact ⟨e1.1, e1.2, e2.1, e2.2, wrap16 (by omega) (by omega), by rw [hir, ← ht, if_pos ⟨h1, h2⟩]⟩
    have h360 := e28
    by_cases c2 : (numI (Lib.cut w [42]).2.1).2 = true
    · have ht : (numI (Lib.cut w [42]).2.1).1 = timesI (Lib.cut w [42]).2.1 := by unfold timesI; rw [if_pos c2]
      refine Round.no (by simp [c2]) (Round.bind (e27 _) ?_)
      by_cases c3 : inR (numI (Lib.cut w [42]).1).1 0 10000 = true
      case neg => exact Round.yes (by simpa using c3) (Round.done (bad (by rw [hir, if_neg (fun h => c3 h.1)]) (Evt.some _)))
      refine Round.no (by simp [c3]) (Round.bind (e29 c) ?_)
      rw [hs360]
      refine Round.bind (e28 _ _ _) ?_
      by_cases c4 : inR (numI (Lib.cut w [42]).2.1).1 1 (360 - (c.length : Int)) = true
      case neg => exact Round.yes (by simpa using c4) (Round.done (bad (by rw [hir, ← ht, if_neg (fun h => c4 h.2)]) (Evt.some _)))
      obtain ⟨d0, d1, d2, d3, d4, d5⟩ := both _ ht c3 c4
      refine Round.no (by simp [c4]) ?_
      rw [d4]
      have dk : (numI (Lib.cut w [42]).2.1).1 ≤ 360 := by omega
      refine Round.bind (e30 _ _ d2 dk) (Round.chk (decide_eq_true (by simp; omega)) (Round.again _ ⟨_, ?_, good _ d5⟩))
      rw [hws]
    · have ht : (1 : Int) = timesI (Lib.cut w [42]).2.1 := by unfold timesI; rw [if_neg c2]
      refine Round.yes (by simp [c2]) (Round.bind (e27 _) ?_)
      by_cases c3 : inR (numI (Lib.cut w [42]).1).1 0 10000 = true
      case neg => exact Round.yes (by simpa using c3) (Round.done (bad (by rw [hir, if_neg (fun h => c3 h.1)]) (Evt.some _)))
      refine Round.no (by simp [c3]) (Round.bind (e29 c) ?_)
      rw [hs360]
      refine Round.bind (e28 _ _ _) ?_
      by_cases c4 : inR 1 1 (360 - (c.length : Int)) = true
      case neg => exact Round.yes (by simpa using c4) (Round.done (bad (by rw [hir, ← ht, if_neg (fun h => c4 h.2)]) (Evt.some _)))
      obtain ⟨d0, d1, d2, d3, d4, d5⟩ := both _ ht c3 c4
      refine Round.no (by simp [c4]) ?_
      rw [d4]
      refine Round.bind (e30 _ _ d2 (by omega)) (Round.chk (decide_eq_true (by simp; omega)) (Round.again _ ⟨_, ?_, good _ d5⟩))
      rw [hws]
  · intro c hL
    rw [Int.toNat_natCast, List.take_length] at hL
    have G := irW_fold _ good0 hL
    have hr := G.rng
    have hg := G.1
    rw [hL] at hrd
    simp only at hrd
    dsimp only
    refine Round.no (by rw [hlm]; simp) (Round.bind (e31 c (by omega)) ?_)
    cases ho : okC c with
    | false =>
      rw [hrd, if_neg (fun h => by rw [ho] at h; cases h.1)]
      exact Round.yes rfl (Round.done (Evt.some _))
    | true =>
      have hct : camT c = tx (camJ c) := if_pos ho
      have hcl := okC_len ho
      refine Round.no (by simp) (Round.bind (e32 c hr) ?_)
      rw [hct]
      simp only [tx_toList]
      by_cases hq : camJ c = l
      · have e9 : rdC l = (c, 0) := by rw [hrd, if_pos ⟨ho, hq⟩]
        rw [e9, hq]
        exact Round.no (by simp) (Round.bind (e33 c (by omega) (by omega)) (Round.done (Evt.some _)))
      · have e9 : rdC l = ([], 5) := by rw [hrd, if_neg (fun h => hq h.2)]
        rw [e9]
        exact Round.yes (by simpa using hq) (Round.done (Evt.some _))
/- laws.eqCam -/
theorem e11 (l : List Int) (hl : (l.length : Int) ≤ 140737488351232) : Evt (fun n => call T C n 11 (l, l, ())) ((true, ()), ()) := by
  refine Evt.next (Evt.no (by simp) ?_) (fun n => r11 n l l)
  refine for_evt 0 (l.length : Int) (fun i (_ : Unit) => (l, l, i, ())) (fun _ _ => True) (b0 := ()) (by omega) trivial ?_ ?_
  · intro i _ h2 h3 _
    obtain ⟨v, hv⟩ := at_of h2 h3
    refine Round.yes (decide_eq_true h3) (Round.at hv.idx (Round.at hv.idx (Round.no (by simp) (Round.again _ ⟨(), ?_, trivial⟩))))
    rw [wr_succ h2 h3 (by omega)]
  · intro _ _
    exact Round.no (by simp) (Round.done (Evt.some _))
/- laws.markCam -/
theorem e12 (l : List Int) (k : Int) (h0 : 0 ≤ k) (h1 : k + l.length ≤ 4611686018427387904) : Evt (fun n => call T C n 12 (l, k, ())) ((k + l.length, ()), (mkL (wr .i16) l.length k, ())) := by
  refine Evt.next ?_ (fun n => r12 n l k)
  refine for_evt' 0 (l.length : Int) (fun i (b : List Int) => (b, k + i, i, ())) (fun i b => b.length = l.length ∧ b.take i.toNat = mkL (wr .i16) i.toNat k) (b0 := l) (by simp) (by omega) ⟨rfl, by simp [mkL]⟩ ?_ ?_
  · intro i b h2 h3 ⟨hb, ht⟩
    have hi : i < (b.length : Int) := by omega
    obtain ⟨u, hu⟩ := get_of_lt h2 hi
    refine Round.yes (decide_eq_true hi) (Round.chk (chk_at h2 hi) (Round.at hu (Round.again _ ⟨b.set i.toNat (wr .i16 (k + i)), ?_, by simpa using hb, ?_⟩)))
    · rw [wrap_id (x := k + i + 1) (by omega) (by omega), wrap_id (x := i + 1) (by omega) (by omega)]
      simp only [Int.add_assoc, id_eq]
    · rw [take_set_succ h2 hi, ht, show (i + 1).toNat = i.toNat + 1 by omega, mkL_succ, show ((i.toNat : Nat) : Int) = i by omega]
  · intro b ⟨hb, ht⟩
    have e : b = mkL (wr .i16) l.length k := by rw [← take_all b, hb, ht]; simp
    rw [← e]
    exact Round.no (by simp [hb]) (Round.done (Evt.some _))
/- laws.heldCam -/
theorem e13 (m : Nat) (k : Int) (h0 : 0 ≤ k) (h1 : k + m ≤ 4611686018427387904) : Evt (fun n => call T C n 13 (mkL (wr .i16) m k, k, ())) ((k + m, ()), ()) := by
  refine Evt.next ?_ (fun n => r13 n _ k)
  refine for_evt' 0 (m : Int) (fun i (_ : Unit) => (mkL (wr .i16) m k, k + i, i, ())) (fun _ _ => True) (b0 := ()) (by simp) (by omega) trivial ?_ ?_
  · intro i _ h2 h3 _
    obtain ⟨v, hv⟩ := at_of (l := mkL (wr .i16) m k) h2 (by rw [mkL_len]; exact h3)
    have e := mkL_at (wr .i16) m k hv h2
    refine Round.yes (by rw [mkL_len]; exact decide_eq_true h3) (Round.at hv.idx (Round.no (by simp [e]) (Round.again _ ⟨(), ?_, trivial⟩)))
    rw [wrap_id (x := k + i + 1) (by omega) (by omega), wrap_id (x := i + 1) (by omega) (by omega)]
    simp only [Int.add_assoc]
  · intro _ _
    exact Round.no (by simp [mkL_len]) (Round.done (Evt.some _))
/- laws.FnExactReadCam -/
theorem e4 (a : ByteArray) (hd : DomA (C 4).params (a, ())) : Evt (fun n => call T C n 4 (a, ())) ((true, ()), ()) := by
  obtain ⟨l, rfl⟩ := tx_of a
  refine Evt.next (Evt.ite (fun _ => Evt.some _) (fun h => ?_)) (fun n => r4 n (tx l))
  have hl : l.length ≤ 1048576 := by
    simp only [decide_eq_true_eq, tx_size] at h
    omega
  have hg := (rdC_good l).1
  have hS := e9 l hl
  have hI := e10 l hl
  generalize rdC l = z at hS hI hg
  obtain ⟨L, c⟩ := z
  simp only at hg
  have hE := e11 L (by omega)
  have hM := e12 L 1 (by omega) (by omega)
  have hH := e13 L.length 1 (by omega) (by omega)
  refine Evt.bind hS (Evt.bind hI (Evt.bind hE (Evt.no (by simp) (Evt.no (by simp) (Evt.bind hM (Evt.bind hH (Evt.no (by simp; omega) (Evt.no (by simp) (Evt.bind hI (Evt.bind hE (Evt.no (by simp) (Evt.no (by simp) (Evt.bind hH (Evt.no (by simp; omega) (Evt.no (by simp) (Evt.some _))))))))))))))))

end Go.Cams.YtjeakogmccogmaaDoorLRc
