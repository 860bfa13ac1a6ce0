/- What the functions that the law reaches come to. -/
import Derived.Test.YtjeakogmccogmaaDoorRRp
import Derived.Test.YtjeakogmccogmaaDoorPuAll
namespace Go.Cams.YtjeakogmccogmaaDoorLRp
open Go Go.Fw Go.Proofs Go.Proofs.YtjeakogmccogmaaDoor.LRp
/- spec.l01Split -/
theorem e19 (c : UInt8) (l : List UInt8) (hl : l.length ≤ 10000000) : Evt (fun n => call T C n 19 (tx l, (c.toNat : Int), ())) (((splitC c l).map tx, ()), ()) := by
  refine Evt.next ?_ (fun n => r19 n (tx l) (c.toNat : Int))
  have hsz : ((tx l).size : Int) = (l.length : Int) := by rw [tx_size]
  refine for_evt' 0 (l.length : Int) (fun i (b : List ByteArray × Int) => (tx l, (c.toNat : Int), b.1, b.2, i, ())) (fun i b => ∃ (ws : List (List UInt8)) (k : Nat), b = (ws.map tx, (k : Int)) ∧ (k : Int) ≤ i ∧ ws ++ splitC c (l.drop k) = splitC c l ∧ c ∉ (l.drop k).take (i.toNat - k) ∧ (ws.length : Int) ≤ i) (b0 := ([], 0)) rfl (by omega) ⟨[], 0, rfl, by omega, rfl, by simp, by simp⟩ ?_ ?_
  · rintro i _ i0 i1 ⟨ws, k, rfl, hk, hw, hc, hn⟩
    obtain ⟨i, rfl⟩ := Int.eq_ofNat_of_zero_le i0
    rw [Int.toNat_natCast] at hc
    dsimp only
    obtain ⟨d, hd⟩ : ∃ d, l[i]? = some d := ⟨_, List.getElem?_eq_getElem (by omega)⟩
    refine Round.yes (decide_eq_true (by rw [hsz]; exact i1)) (Round.at (nums_at hd) ?_)
    have e1 : wr .i64 ((i : Int) + 1) = (i : Int) + 1 := wr_succ i0 i1 (by omega)
    simp only [byte_eq]
    by_cases hdc : d = c
    · subst hdc
      refine Round.yes (by simp) (Round.chk (decide_eq_true ⟨by omega, by omega, by rw [hsz]; omega⟩) (Round.chk (decide_eq_true ?_) (Round.again _ ⟨(_, _), ?_, ws ++ [(l.drop k).take (i - k)], i + 1, rfl, ?_, ?_, ?_, ?_⟩)))
      · rw [List.length_map]; simp only [List.length_singleton]; omega
      · rw [Int.toNat_natCast, Int.toNat_natCast, tx_ext, e1, List.map_append]
        rfl
      · omega
      · rw [← hw, (congrArg (splitC d) (cut_at (by omega) hd)).trans (splitC_hit hc _)]; simp
      · simp
      · simp; omega
    · refine Round.no (by simpa using hdc) (Round.again _ ⟨(_, _), ?_, ws, k, rfl, ?_, hw, ?_, ?_⟩)
      · rw [e1]
      · omega
      · rw [show ((i : Int) + 1).toNat = i + 1 by omega, take_on (by omega) hd]
        intro h
        rcases List.mem_append.1 h with h | h
        · exact hc h
        · exact hdc (List.mem_singleton.1 h).symm
      · omega
  · rintro _ ⟨ws, k, rfl, hk, hw, hc, hn⟩
    rw [Int.toNat_natCast, take_rest] at hc
    dsimp only
    refine Round.no (by simp [hsz]) (Round.chk (decide_eq_true ⟨by omega, by rw [hsz]; omega, Int.le_refl _⟩) (Round.chk (decide_eq_true ?_) (Round.done ?_)))
    · rw [List.length_map]; simp only [List.length_singleton]; omega
    · rw [Int.toNat_natCast, hsz, Int.toNat_natCast, tx_ext, take_rest, ← hw, splitC_miss hc, List.map_append]
      exact Evt.some _
/- spec.l01Number -/
theorem e34 (l : List UInt8) : Evt (fun n => call T C n 34 (tx l, ())) (((numR l).1, (numR l).2, ()), ()) := by
  refine Evt.next ?_ (fun n => r34 n (tx l))
  have hsz : ((tx l).size : Int) = (l.length : Int) := by rw [tx_size]
  have no : ∀ h : ¬ (l ≠ [] ∧ l.length ≤ 9 ∧ (l.head? = some 48 → l.length ≤ 1) ∧ ∀ c ∈ l, isDg c = true), ∀ {f : Nat → Option ((Int × Bool × Unit) × Unit)}, Evt f (((0 : Int), false, ()), ()) → Evt f (((numR l).1, (numR l).2, ()), ()) := fun h f hf => by rw [numR_no h]; exact hf
  by_cases h0 : l = []
  · subst h0
    exact Evt.yes (beq_self_eq_true (tx []).toList) (no (fun h => h.1 rfl) (Evt.some _))
  refine Evt.no (by show ¬ (((tx l).toList == (tx []).toList) = true); rw [tx_toList, tx_toList, beq_iff_eq]; exact h0) ?_
  by_cases h9 : l.length ≤ 9
  case neg => exact Evt.yes (by simp [hsz]; omega) (no (fun h => h9 h.2.1) (Evt.some _))
  refine Evt.no (by simp [hsz]; omega) ?_
  obtain ⟨c, r, rfl⟩ : ∃ c r, l = c :: r := by cases l with | nil => exact absurd rfl h0 | cons c r => exact ⟨c, r, rfl⟩
  refine Evt.at (nums_at (l := c :: r) (i := 0) rfl) ?_
  refine Evt.ite (fun h => Evt.ite (fun h1 => ?a) (fun h1 => ?b)) (fun h => Evt.no (by simp) ?c)
  case a =>
    have hc : c = 48 := UInt8.toNat_inj.1 (by have := beq_iff_eq.1 h; show c.toNat = 48; omega)
    refine no (fun hh => ?_) (Evt.some _)
    have := hh.2.2.1 (by rw [hc]; rfl)
    simp only [cond_false, cond_true, hsz, decide_eq_true_eq] at h1
    omega
  case' b =>
    have hz : (c :: r).head? = some 48 → (c :: r).length ≤ 1 := fun _ => by
      simp only [cond_false, cond_true, hsz, decide_eq_true_eq] at h1
      omega
  case' c =>
    have hz : (c :: r).head? = some 48 → (c :: r).length ≤ 1 := fun e => by
      simp only [List.head?_cons, Option.some.injEq] at e
      subst e
      exact absurd rfl h
  all_goals
    refine for_evt' 0 ((c :: r).length : Int) (fun i (b : Int) => (tx (c :: r), b, i, ())) (fun i b => b = ((numV ((c :: r).take i.toNat) 0 : Nat) : Int) ∧ ∀ d ∈ (c :: r).take i.toNat, isDg d = true) (b0 := 0) rfl (by omega) ⟨rfl, by simp⟩ ?_ ?_
    · rintro i _ i0 i1 ⟨rfl, hd⟩
      obtain ⟨i, rfl⟩ := Int.eq_ofNat_of_zero_le i0
      rw [Int.toNat_natCast] at hd
      dsimp only
      rw [Int.toNat_natCast]
      obtain ⟨d, hi⟩ : ∃ d, (c :: r)[i]? = some d := ⟨_, List.getElem?_eq_getElem (by omega)⟩
      have ht : (c :: r).take (i + 1) = (c :: r).take i ++ [d] := by rw [List.take_add_one, hi]; rfl
      have bad : isDg d = false → ¬ ((c :: r) ≠ [] ∧ (c :: r).length ≤ 9 ∧ ((c :: r).head? = some 48 → (c :: r).length ≤ 1) ∧ ∀ e ∈ (c :: r), isDg e = true) := fun e hh => by
        have := hh.2.2.2 d (List.mem_of_getElem? hi)
        rw [e] at this; cases this
      refine Round.yes (decide_eq_true (by rw [hsz]; exact i1)) (Round.at (nums_at hi) (Round.ite (fun h2 => ?_) (fun h2 => ?_)))
      · exact Round.done (no (bad (by simp only [decide_eq_true_eq] at h2; unfold isDg; rw [Bool.and_eq_false_iff]; left; exact decide_eq_false (by omega))) (Evt.some _))
      refine Round.at (nums_at hi) (Round.ite (fun h3 => ?_) (fun h3 => ?_))
      · exact Round.done (no (bad (by simp only [cond_false, decide_eq_true_eq] at h3; unfold isDg; rw [Bool.and_eq_false_iff]; right; exact decide_eq_false (by omega))) (Evt.some _))
      simp only [cond_false, decide_eq_true_eq] at h2 h3
      have hg : isDg d = true := isDg_iff.2 ⟨by omega, by omega⟩
      have hb := numV_lt ((c :: r).take i) 0 0 (fun e he => (isDg_iff.1 (hd e he)).2) (by decide)
      have hb9 : 10 ^ (0 + ((c :: r).take i).length) ≤ 10 ^ 9 := Nat.pow_le_pow_right (by omega) (by rw [List.length_take]; omega)
      refine Round.at (nums_at hi) (Round.again _ ⟨_, ?_, rfl, ?_⟩)
      · rw [dig_wr (by omega) hg, wr_succ i0 i1 (by omega), show ((i : Int) + 1).toNat = i + 1 by omega, ht, numV_app]
        rfl
      · rw [show ((i : Int) + 1).toNat = i + 1 by omega, ht]
        intro e he
        rcases List.mem_append.1 he with he | he
        · exact hd e he
        · rw [List.mem_singleton.1 he]; exact hg
    · rintro _ ⟨rfl, hd⟩
      rw [Int.toNat_natCast, List.take_length] at hd
      dsimp only
      rw [Int.toNat_natCast, List.take_length]
      have e : numR (c :: r) = (((numV (c :: r) 0 : Nat) : Int), true) := if_pos ⟨h0, h9, hz, hd⟩
      rw [e]
      exact Round.no (by simp [hsz]) (Round.done (Evt.some _))
/- spec.l00In -/
theorem e58 (a b c : Int) : Evt (fun n => call T C n 58 (a, b, c, ())) ((inR a b c, ()), ()) := by
  refine Evt.next ?_ (fun n => r58 n a b c)
  refine Evt.ite (fun h => ?_) (fun h => ?_)
  · refine (Evt.some _).of_eq fun n => ?_
    have h : b ≤ a := of_decide_eq_true h
    simp [inR, h]
    rfl
  · refine (Evt.some _).of_eq fun n => ?_
    have h : ¬ b ≤ a := by simpa using h
    simp [inR, h]
    rfl
/- spec.l01Lift -/
theorem e35 (a : Int) : Evt (fun n => call T C n 35 (a, ())) ((inR a 0 10000, ()), ()) := Evt.next (Evt.bind (e58 a 0 10000) (Evt.some _)) (fun n => r35 n a)
/- spec.l02Letters -/
theorem e59 : Evt (fun n => call T C n 59 (())) (((⟨#[101, 115, 99, 102]⟩ : ByteArray), ()), ()) := Evt.next (Evt.some _) (fun n => r59 n)
/- spec.l02Read -/
theorem e36 (w : List UInt8) (hw : w.length ≤ 2000000) : Evt (fun n => call T C n 36 (tx w, ())) ((((srMoR w).1, (srMoR w).2.1, ()) : Ct × Bool × Unit), ()) := by
  refine Evt.next ?_ (fun n => r36 n (tx w))
  have hsz : ((tx w).size : Int) = (w.length : Int) := by rw [tx_size]
  have no : srMo w = none → ∀ {f : Nat → Option ((Ct × Bool × Unit) × Unit)}, Evt f ((((0 : Int), (0 : Int), (0 : Int), ()), false, ()), ()) → Evt f ((((srMoR w).1, (srMoR w).2.1, ()) : Ct × Bool × Unit), ()) := fun h f hf => by
    have : srMoR w = (((0 : Int), (0 : Int), (0 : Int), ()), false, ()) := by unfold srMoR; rw [h]
    rw [this]; exact hf
  refine Evt.ite (fun h => ?_) (fun h => ?_)
  · refine no ?_ (Evt.some _)
    simp only [hsz, decide_eq_true_eq] at h
    cases w with
    | nil => rfl
    | cons k r => exact if_pos (by simp only [List.length_cons] at h; omega)
  simp only [hsz, decide_eq_true_eq] at h
  obtain ⟨k, r, rfl⟩ : ∃ k r, w = k :: r := by
    cases w with
    | nil => simp at h
    | cons k r => exact ⟨k, r, rfl⟩
  simp only [List.length_cons] at h hw
  have hr3 : ¬ r.length < 3 := by omega
  have hlb := lawOf_bd k
  refine for_evt' 0 4 (fun i (b : Int) => (tx (k :: r), (((0 : Int), (0 : Int), (0 : Int), ()) : Ct), b, i, ())) (fun i b => b = if lawOf k < i then lawOf k else -1) (b0 := -1) rfl (by omega) (by split <;> omega) ?_ ?_
  · rintro i _ i0 i1 rfl
    obtain ⟨i, rfl⟩ := Int.eq_ofNat_of_zero_le i0
    dsimp only
    obtain ⟨d, hd, hk⟩ := letter_at (i := i) (by omega) k
    refine Round.yes (decide_eq_true i1) (Round.bind e59 (Round.at (nums_at (l := [101, 115, 99, 102]) hd) (Round.at (nums_at (l := k :: r) (i := 0) rfl) ?_)))
    have e1 : wr .i64 ((i : Int) + 1) = (i : Int) + 1 := wr_succ i0 i1 (by omega)
    simp only [byte_eq]
    by_cases hdk : d = k
    · refine Round.yes (by simpa using hdk) (Round.again _ ⟨_, ?_, rfl⟩)
      have := hk.1 hdk
      rw [e1, wr_i8 (by omega) (by omega), if_pos (by omega), this]
    · refine Round.no (by simpa using hdk) (Round.again _ ⟨_, ?_, rfl⟩)
      have : lawOf k ≠ i := fun e => hdk (hk.2 e)
      rw [e1]
      congr 3
      by_cases hlt : lawOf k < (i : Int)
      · rw [if_pos hlt, if_pos (by omega)]
      · rw [if_neg hlt, if_neg (by omega)]
  · rintro _ rfl
    dsimp only
    rw [if_pos (by omega)]
    have hS := e19 58 r (by omega)
    refine Round.no (by simp) (Round.chk (decide_eq_true ⟨by omega, by rw [hsz]; simp; omega, Int.le_refl _⟩) ?_)
    have hx : (tx (k :: r)).extract (Int.toNat (1 : Int)) (Int.toNat ((tx (k :: r)).size : Int)) = tx r := by
      rw [hsz, Int.toNat_natCast, tx_ext]
      show tx ((r.take _)) = _
      rw [List.take_of_length_le (by simp)]
    rw [hx]
    refine Round.bind hS (Round.ite (fun h1 => ?_) (fun h1 => ?_))
    · simp only [decide_eq_true_eq] at h1
      exact Round.done (no (by unfold srMo; dsimp only; rw [if_neg hr3, if_pos h1]) (Evt.some _))
    simp only [decide_eq_true_eq] at h1
    refine Round.ite (fun h2 => ?_) (fun h2 => ?_)
    · refine Round.done (no ?_ (Evt.some _))
      unfold srMo
      dsimp only
      rw [if_neg hr3, if_neg h1]
      split
      · rename_i a b e
        rw [e] at h2
        simp at h2
      · rfl
    · obtain ⟨a, b, e⟩ : ∃ a b, splitC 58 r = [a, b] := by
        simp only [cond_false, List.length_map, bne_iff_ne, ne_eq, Classical.not_not] at h2
        match hh : splitC 58 r, h2 with
        | [a, b], _ => exact ⟨a, b, rfl⟩
        | [], h2 => simp at h2
        | [_], h2 => simp at h2
        | _ :: _ :: _ :: _, h2 => simp at h2; omega
      have hm : srMo (k :: r) = if (numR a).2 = true ∧ (numR b).2 = true ∧ (numR a).1 ≤ 360 ∧ (numR b).1 ≤ 10000 then some (lawOf k, (numR a).1, (numR b).1, ()) else none := by
        unfold srMo
        dsimp only
        rw [if_neg hr3, if_neg h1, e]
      have hA := e34 a
      have hB := e34 b
      have ba := numR_bd a
      have bb := numR_bd b
      rw [e]
      refine Round.chk (by simp) (Round.at (v := tx a) rfl (Round.bind hA (Round.chk (by simp) (Round.at (v := tx b) rfl (Round.bind hB ?_)))))
      by_cases c1 : (numR a).2 = true
      case neg => exact Round.yes (by simpa using c1) (Round.done (no (by rw [hm, if_neg (fun h => c1 h.1)]) (Evt.some _)))
      refine Round.no (by simp [c1]) ?_
      by_cases c2 : (numR b).2 = true
      case neg => exact Round.yes (by simpa using c2) (Round.done (no (by rw [hm, if_neg (fun h => c2 h.2.1)]) (Evt.some _)))
      refine Round.no (by simp [c2]) ?_
      by_cases c3 : (numR a).1 ≤ 360
      case neg => exact Round.yes (by show decide ((numR a).1 > 360) = true; exact decide_eq_true (by omega)) (Round.done (no (by rw [hm, if_neg (fun h => c3 h.2.2.1)]) (Evt.some _)))
      refine Round.no (by show ¬ decide ((numR a).1 > 360) = true; rw [decide_eq_true_eq]; omega) ?_
      by_cases c4 : (numR b).1 ≤ 10000
      case neg => exact Round.yes (by show decide ((numR b).1 > 10000) = true; exact decide_eq_true (by omega)) (Round.done (no (by rw [hm, if_neg (fun h => c4 h.2.2.2)]) (Evt.some _)))
      refine Round.no (by show ¬ decide ((numR b).1 > 10000) = true; rw [decide_eq_true_eq]; omega) (Round.done ?_)
      have hR : srMoR (k :: r) = ((lawOf k, (numR a).1, (numR b).1, ()), true, ()) := by unfold srMoR; rw [hm, if_pos ⟨c1, c2, c3, c4⟩]
      rw [hR, wrap16 (x := (numR a).1) (by omega) (by omega), wrap16 (x := (numR b).1) (by omega) (by omega)]
      exact Evt.some _
/- spec.l02Law -/
theorem e60 (a : Int) : Evt (fun n => call T C n 60 (a, ())) ((inR a 0 3, ()), ()) := Evt.next (Evt.bind (e58 a 0 3) (Evt.some _)) (fun n => r60 n a)
/- spec.l01Steps -/
theorem e61 (a : Int) : Evt (fun n => call T C n 61 (a, ())) ((inR a 8 360, ()), ()) := Evt.next (Evt.bind (e58 a 8 360) (Evt.some _)) (fun n => r61 n a)
/- spec.l02Ok -/
theorem e37 (p : Prg) (hr : RngPg p) : Evt (fun n => call T C n 37 (p, ())) ((okPg p, ()), ()) := by
  refine Evt.next (Evt.bind (e58 _ _ _) ?_) (fun n => r37 n p)
  unfold okPg
  cases h1 : inR (p.2.1.length : Int) 1 24 with
  | false => exact Evt.yes rfl (Evt.some _)
  | true =>
    have hn := inR_iff.1 h1
    refine Evt.no (by simp) (Evt.bind (e35 _) ?_)
    cases h2 : inR (wr .i64 p.1) 0 10000 with
    | false => exact Evt.yes rfl (Evt.some _)
    | true =>
      refine Evt.no (by simp) ?_
      have hb := sumM_take hr.m hn.2
      refine for_evt' 0 (p.2.1.length : Int) (fun i (_ : Unit) => (p, (p.2.1.length : Int), sumM (p.2.1.take i.toNat), i, ())) (fun i _ => p.2.1.all moOk = (p.2.1.drop i.toNat).all moOk) (b0 := ()) (by simp [sumM]) (by omega) (by simp) ?_ ?_
      · intro i _ h3 h4 hp
        obtain ⟨v, hv⟩ := at_of h3 h4
        have hrv := hr.m.el v hv.mem
        have hbi := hb i.toNat
        rw [hv.drop] at hp
        simp only [List.all_cons] at hp
        have bad : moOk v = false → (true && true && p.2.1.all moOk && inR (sumM p.2.1) 8 360 && (lastT p.2.1 == p.1)) = false := fun h => by rw [hp, h]; simp
        refine Round.yes (decide_eq_true h4) (Round.at hv.idx (Round.bind (e60 _) ?_))
        cases k1 : inR (wr .i64 v.1) 0 3 with
        | false =>
          rw [bad (by unfold moOk; rw [k1]; rfl)]
          exact Round.yes rfl (Round.done (Evt.some _))
        | true =>
          refine Round.no (by simp) ?_
          cases k2 : decide (v.2.1 < 1) with
          | true =>
            rw [bad (by unfold moOk; rw [k1, k2]; rfl)]
            exact Round.yes rfl (Round.done (Evt.some _))
          | false =>
            refine Round.no (by simp) (Round.bind (e35 _) ?_)
            cases k3 : inR (wr .i64 v.2.2.1) 0 10000 with
            | false =>
              rw [bad (by unfold moOk; rw [k1, k2, k3]; rfl)]
              exact Round.yes rfl (Round.done (Evt.some _))
            | true =>
              have hm : moOk v = true := by unfold moOk; rw [k1, k2, k3]; rfl
              rw [hm, Bool.true_and] at hp
              refine Round.no (by simp) (Round.again _ ⟨(), ?_, hp⟩)
              rw [hr.m.i2 hv.mem, wrap_id (x := sumM (p.2.1.take i.toNat) + v.2.1) (by omega) (by omega), hv.take, sumM_snoc, wr_succ h3 h4 (by omega)]
      · intro _ hp
        rw [drop_all] at hp
        have hp : p.2.1.all moOk = true := by rw [hp]; rfl
        rw [hp]
        simp only [take_all]
        refine Round.no (by simp) (Round.done (Evt.bind (e61 _) ?_))
        cases k4 : inR (sumM p.2.1) 8 360 with
        | false => exact Evt.no (by simp) (Evt.some _)
        | true =>
          obtain ⟨v, hv⟩ := at_of (l := p.2.1) (i := (p.2.1.length : Int) - 1) (by omega) (by omega)
          have hl : lastT p.2.1 = v.2.2.1 := by unfold lastT; rw [hv.idx]; rfl
          refine Evt.yes rfl ?_
          simp only [wrap_id (x := (p.2.1.length : Int) - 1) (by omega) (by omega)]
          refine Evt.at hv.idx ?_
          rw [hl]
          exact Evt.some _
/- spec.ReadProgram -/
theorem e14 (l : List UInt8) (hl : l.length ≤ 1048576) : Evt (fun n => call T C n 14 (tx l, ())) (((rdPg l).1, (rdPg l).2, ()), ()) := by
  refine Evt.next ?_ (fun n => r14 n (tx l))
  obtain ⟨w, ws, e⟩ := splitC_ne 32 l
  have hS := e19 32 l (by omega)
  have hn := splitC_len 32 l
  have hw := splitC_wlen (c := 32) (l := l)
  rw [e] at hS hn hw
  simp only [List.length_cons] at hn
  have hlw : ((((w :: ws).map tx).length : Nat) : Int) = (ws.length : Int) + 1 := by simp
  have bd := numR_bd w
  have no : srPg l = none → ∀ {f : Nat → Option ((Prg × Int × Unit) × Unit)}, Evt f ((((0 : Int), ([] : List Ct), ()), (5 : Int), ()), ()) → Evt f (((rdPg l).1, (rdPg l).2, ()), ()) := fun h f hf => by
    have : rdPg l = ((0, [], ()), 5) := by unfold rdPg; rw [h]
    rw [this]; exact hf
  have hsr : srPg l = if (numR w).2 = true ∧ inR (numR w).1 0 10000 = true then (mapO srMo ws).map fun L => ((numR w).1, L, ()) else none := by unfold srPg; rw [e]
  refine Evt.bind hS (Evt.chk (decide_eq_true ⟨Int.le_refl _, by show (0 : Int) < ((((w :: ws).map tx).length : Nat) : Int); omega⟩) (Evt.at (x := tx w) rfl (Evt.bind (e34 w) ?_)))
  by_cases c1 : (numR w).2 = true
  case neg => exact Evt.yes (by simpa using c1) (no (by rw [hsr, if_neg (fun h => c1 h.1)]) (Evt.some _))
  refine Evt.no (by simp [c1]) (Evt.bind (e35 _) ?_)
  by_cases c2 : inR (numR w).1 0 10000 = true
  case neg => exact Evt.yes (by simpa using c2) (no (by rw [hsr, if_neg (fun h => c2 h.2)]) (Evt.some _))
  have hi := inR_iff.1 c2
  rw [if_pos ⟨c1, c2⟩] at hsr
  refine Evt.no (by simp [c2]) ?_
  have hz : wr .i16 (numR w).1 = (numR w).1 := wrap16 (by omega) (by omega)
  refine for_evt' 1 ((ws.length : Int) + 1) (fun i (L : List Ct) => ((((0 : Int), ([] : List Ct), ()) : Prg), (w :: ws).map tx, (((numR w).1, L, ()) : Prg), i, ())) (fun i L => mapO srMo (ws.take (i.toNat - 1)) = some L) (b0 := []) (by rw [← hz]; simp [hz]) (by omega) rfl ?_ ?_
  · intro i L i0 i1 hL
    obtain ⟨i, rfl⟩ : ∃ k : Nat, i = ((k + 1 : Nat) : Int) := ⟨(i - 1).toNat, by omega⟩
    obtain ⟨v, hv⟩ : ∃ v, ws[i]? = some v := ⟨_, List.getElem?_eq_getElem (by omega)⟩
    rw [Int.toNat_natCast, Nat.add_sub_cancel] at hL
    have hvl := hw v (by simp [List.mem_of_getElem? hv])
    have hvi : idx ((w :: ws).map tx) ((i + 1 : Nat) : Int) = some (tx v) := by
      unfold idx
      rw [if_pos (by omega), Int.toNat_natCast, List.map_cons, List.getElem?_cons_succ, List.getElem?_map, hv]; rfl
    have hll := (mapO_el hL).1
    have htl : (ws.take i).length ≤ i := by rw [List.length_take]; omega
    dsimp only
    refine Round.yes (decide_eq_true (by rw [hlw]; exact i1)) (Round.at hvi (Round.bind (e36 v (by omega)) ?_))
    cases hm : srMo v with
    | none =>
      have : srMoR v = (((0 : Int), (0 : Int), (0 : Int), ()), false, ()) := by unfold srMoR; rw [hm]
      rw [this]
      exact Round.yes rfl (Round.done (no (by rw [hsr, mapO_none hm (List.mem_of_getElem? hv)]; rfl) (Evt.some _)))
    | some m =>
      have : srMoR v = (m, true, ()) := by unfold srMoR; rw [hm]
      rw [this]
      refine Round.no (by simp) (Round.chk (decide_eq_true (by simp only [List.length_singleton]; omega)) (Round.again _ ⟨L ++ [m], ?_, ?_⟩))
      · rw [wr_succ (i := ((i + 1 : Nat) : Int)) (n := (ws.length : Int) + 1) (by omega) i1 (by omega)]
      · rw [show (((i + 1 : Nat) : Int) + 1).toNat - 1 = i + 1 by omega, List.take_add_one, hv]
        exact mapO_snoc hm hL
  · intro L hL
    rw [show ((ws.length : Int) + 1).toNat - 1 = ws.length by omega, List.take_length] at hL
    rw [hL] at hsr
    have hr := (srPg_ok hl hsr).2
    have hrd : rdPg l = if okPg ((numR w).1, L, ()) = true then (((numR w).1, L, ()), 0) else ((0, [], ()), 5) := by unfold rdPg; rw [hsr]; rfl
    dsimp only
    refine Round.no (by rw [hlw]; simp) (Round.bind (e37 ((numR w).1, L, ()) hr) ?_)
    cases ho : okPg ((numR w).1, L, ()) with
    | false =>
      rw [hrd, ho]
      exact Round.yes rfl (Round.done (Evt.some _))
    | true =>
      rw [hrd, ho]
      exact Round.no (by simp) (Round.done (Evt.some _))
/- strings.Split -/
theorem e21 {c : UInt8} {w : List UInt8} {ws : List (List UInt8)} (h : c ∉ w) (hs : ∀ v ∈ ws, c ∉ v) (hl : (Lib.join (w :: ws) [c]).length ≤ 1000000) : Evt (fun n => call T C n 21 (tx (Lib.join (w :: ws) [c]), tx [c], ())) (((w :: ws).map tx, ()), ()) := by
  refine Evt.next ?_ (fun n => r21 n (tx (Lib.join (w :: ws) [c])) (tx [c]))
  dsimp only
  rw [if_pos ⟨by rw [tx_size]; omega, by rw [tx_size]; simp⟩, split_tx h hs]
  exact Evt.some _
theorem e21_2 (c : UInt8) (l : List UInt8) (hl : l.length ≤ 10000000) : Evt (fun n => call T C n 21 (tx l, tx [c], ())) (((splitC c l).map tx, ()), ()) := by
  refine Evt.next ?_ (fun n => r21 n (tx l) (tx [c]))
  dsimp only
  rw [if_pos ⟨by rw [tx_size]; omega, by rw [tx_size]; simp⟩, split_all]
  exact Evt.some _
/- strconv.ParseInt -/
theorem e51 {u : Nat} (h : u ≤ 9223372036854775807) : Evt (fun n => call T C n 51 (tx (Lib.decDigits u), 10, 64, ())) (((u : Int), false, ()), ()) := by
  have l1 := dec_len h
  refine Evt.next ?_ (fun n => r51 n (tx (Lib.decDigits u)) 10 64)
  dsimp only
  rw [if_pos ⟨by rw [tx_size]; omega, rfl, rfl⟩, tx_list, parse_int h]
  exact Evt.some _
/- strconv.FormatInt -/
theorem e78 (u : Nat) (h : u ≤ 9223372036854775807) : Evt (fun n => call T C n 78 ((u : Int), 10, ())) ((tx (Lib.decDigits u), ()), ()) := by
  refine Evt.next ?_ (fun n => r78 n u 10)
  dsimp only
  rw [if_pos ⟨rfl, by omega, by omega⟩, Lib.itoa_nonneg]
  exact Evt.some _
theorem e78_2 (v : Int) (h0 : -9223372036854775808 ≤ v) (h1 : v ≤ 9223372036854775807) : Evt (fun n => call T C n 78 (v, 10, ())) ((tx (Lib.itoa v), ()), ()) := by
  refine Evt.next ?_ (fun n => r78 n v 10)
  dsimp only
  rw [if_pos ⟨rfl, h0, h1⟩]
  exact Evt.some _
/- impl.decimal -/
theorem e52 (u : Nat) (h : u ≤ 9223372036854775807) : Evt (fun n => call T C n 52 ((u : Int), ())) ((tx (Lib.decDigits u), ()), ()) :=
  Evt.next (Evt.bind (e78 u h) (Evt.some _)) (fun n => r52 n u)
theorem e52_2 (v : Int) (h0 : -9223372036854775808 ≤ v) (h1 : v ≤ 9223372036854775807) : Evt (fun n => call T C n 52 (v, ())) ((tx (Lib.itoa v), ()), ()) :=
  Evt.next (Evt.bind (e78_2 v h0 h1) (Evt.some _)) (fun n => r52 n v)
/- impl.number -/
theorem e26 {u : Nat} (h : u ≤ 9223372036854775807) : Evt (fun n => call T C n 26 (tx (Lib.decDigits u), ())) (((u : Int), true, ()), ()) := by
  refine Evt.next (Evt.bind (e51 h) (Evt.chk rfl (Evt.yes rfl (Evt.bind (e52 u h) ?_)))) (fun n => r26 n (tx (Lib.decDigits u)))
  simp only [beq_self_eq_true, cond_true]
  exact Evt.some _
theorem e26_2 (l : List UInt8) (hl : l.length ≤ 10000000) : Evt (fun n => call T C n 26 (tx l, ())) (((numI l).1, (numI l).2, ()), ()) := by
  have hP : Evt (fun n => call T C n 51 (tx l, 10, 64, ())) (((numI l).1, (match Lib.parseIntB 64 l with | .ok _ => false | _ => true), ()), ()) := by
    refine Evt.next ?_ (fun n => r51 n (tx l) 10 64)
    dsimp only
    rw [if_pos ⟨by rw [tx_size]; omega, rfl, rfl⟩, tx_list]
    unfold numI
    cases Lib.parseIntB 64 l <;> exact Evt.some _
  have hb := numI_bd l
  refine Evt.next (Evt.bind hP (Evt.chk rfl ?_)) (fun n => r26 n (tx l))
  have hd := e52_2 (numI l).1 hb.1 hb.2
  revert hd
  rcases h : Lib.parseIntB 64 l with v | _ | _
  · intro hd
    refine Evt.yes rfl (Evt.bind hd ?_)
    simp only [tx_toList, cond_true]
    have e1 : (numI l).2 = (Lib.itoa (numI l).1 == l) := by unfold numI; rw [h]
    rw [e1]
    exact Evt.some _
  · intro _
    have e1 : (numI l).2 = false := by unfold numI; rw [h]
    rw [e1]
    exact Evt.no (by simp) (Evt.some _)
  · intro _
    have e1 : (numI l).2 = false := by unfold numI; rw [h]
    rw [e1]
    exact Evt.no (by simp) (Evt.some _)
/- impl.inRange -/
theorem e28 (a b c : Int) : Evt (fun n => call T C n 28 (a, b, c, ())) ((inR a b c, ()), ()) := by
  refine Evt.next ?_ (fun n => r28 n a b c)
  refine Evt.ite (fun h => ?_) (fun h => ?_)
  · refine (Evt.some _).of_eq fun n => ?_
    have h : b ≤ a := of_decide_eq_true h
    simp [inR, h]
    rfl
  · refine (Evt.some _).of_eq fun n => ?_
    have h : ¬ b ≤ a := by simpa using h
    simp [inR, h]
    rfl
/- impl.isLift -/
theorem e27 (a : Int) : Evt (fun n => call T C n 27 (a, ())) ((inR a 0 10000, ()), ()) := Evt.next (Evt.bind (e28 a 0 10000) (Evt.some _)) (fun n => r27 n a)
/- strings.Cut -/
theorem e25 (l s : List UInt8) (hl : l.length ≤ 10000000) : Evt (fun n => call T C n 25 (tx l, tx s, ())) ((tx (Lib.cut l s).1, tx (Lib.cut l s).2.1, (Lib.cut l s).2.2, ()), ()) := by
  refine Evt.next ?_ (fun n => r25 n (tx l) (tx s))
  dsimp only
  rw [if_pos (by rw [tx_size]; omega)]
  exact Evt.some _
/- strings.IndexByte -/
theorem e38 (c : UInt8) : Evt (fun n => call T C n 38 ((⟨#[101, 115, 99, 102]⟩ : ByteArray), (c.toNat : Int), ())) ((lawOf c, ()), ()) := by
  refine Evt.next ?_ (fun n => r38 n (⟨#[101, 115, 99, 102]⟩ : ByteArray) (c.toNat : Int))
  have := c.toNat_lt
  dsimp only
  rw [if_pos ⟨by omega, by omega⟩, Int.toNat_natCast, show c.toNat.toUInt8 = c from UInt8.ofNat_toNat]
  exact Evt.some _
/- impl.isLaw -/
theorem e65 (w : Int) : Evt (fun n => call T C n 65 (w, ())) ((inR w 0 3, ()), ()) := Evt.next (Evt.bind (e28 _ _ _) (Evt.some _)) (fun n => r65 n w)
/- impl.ValidProgram$1 -/
theorem e64 (v : Ct) : Evt (fun n => call T C n 64 (v, ())) ((!moOk v, ()), ()) := by
  refine Evt.next (Evt.bind (e65 _) ?_) (fun n => r64 n v)
  unfold moOk
  cases inR (wr .i64 v.1) 0 3 with
  | false => exact Evt.yes rfl (Evt.some _)
  | true =>
    refine Evt.no (by simp) ?_
    cases decide (v.2.1 < 1) with
    | true => exact Evt.yes rfl (Evt.some _)
    | false => exact Evt.no (by simp) (Evt.bind (e27 _) (Evt.some _))
/- slices.IndexFunc[[]impl.Motion,impl.Motion]{impl.ValidProgram$1} -/
theorem e84 (l : List Ct) (hr : RngMo l) : Evt (fun n => call T C n 84 (l, ((), ()), ())) ((fi (fun v => !moOk v) l 0, ()), ()) := by
  have hl : (l.length : Int) ≤ 140737488351232 := by have := hr.len'; omega
  refine Evt.next ?_ (fun n => r84 n l ((), ()))
  refine for_evt' 0 (l.length : Int) (fun i (_ : Unit) => (l, ((), ()), (l.length : Int), i, ())) (fun i _ => fi (fun v => !moOk v) l 0 = fi (fun v => !moOk v) (l.drop i.toNat) i) (b0 := ()) rfl (by omega) (by simp) ?_ ?_
  · intro i _ h2 h3 hp
    obtain ⟨v, hv⟩ := at_of h2 h3
    rw [hv.drop] at hp
    simp only [fi] at hp
    refine Round.yes (decide_eq_true h3) (Round.at hv.idx (Round.bind (e64 v) ?_))
    cases hb : !moOk v with
    | true =>
      simp only [hb, if_true] at hp
      rw [hp]
      exact Round.yes rfl (Round.done (Evt.some _))
    | false =>
      simp only [hb, Bool.false_eq_true, if_false] at hp
      exact Round.no (by simp) (Round.again _ ⟨(), by rw [wr_succ h2 h3 (by omega)], hp⟩)
  · intro _ hp
    rw [drop_all] at hp
    rw [hp]
    exact Round.no (by simp) (Round.done (Evt.some _))
/- slices.ContainsFunc[[]impl.Motion,impl.Motion]{impl.ValidProgram$1} -/
theorem e63 (l : List Ct) (hr : RngMo l) : Evt (fun n => call T C n 63 (l, ((), ()), ())) ((l.any (fun v => !moOk v), ()), ()) := by
  refine Evt.next (Evt.bind (e84 l hr) ((Evt.some _).of_eq fun n => ?_)) (fun n => r63 n l ((), ()))
  simp only [fi_any _ l 0 (Int.le_refl _)]
  rfl
/- (impl.Program).steps -/
theorem e66 (p : Prg) (hr : RngPg p) (hn : (p.2.1.length : Int) ≤ 24) : Evt (fun n => call T C n 66 (p, ())) ((sumM p.2.1, ()), ()) := by
  have hb := sumM_take hr.m hn
  refine Evt.next ?_ (fun n => r66 n p)
  refine for_evt' 0 (p.2.1.length : Int) (fun i (_ : Unit) => (sumM (p.2.1.take i.toNat), p.2.1, (p.2.1.length : Int), i, ())) (fun _ _ => True) (b0 := ()) (by simp [sumM]) (by omega) trivial ?_ ?_
  · intro i _ h3 h4 _
    obtain ⟨v, hv⟩ := at_of h3 h4
    have hrv := hr.m.el v hv.mem
    have hbi := hb i.toNat
    refine Round.yes (decide_eq_true h4) (Round.at hv.idx (Round.again _ ⟨(), ?_, trivial⟩))
    rw [hr.m.i2 hv.mem, wrap_id (x := sumM (p.2.1.take i.toNat) + v.2.1) (by omega) (by omega), hv.take, sumM_snoc, wr_succ h3 h4 (by omega)]
  · intro _ _
    simp only [take_all]
    exact Round.no (by simp) (Round.done (Evt.some _))
/- impl.isSteps -/
theorem e54 (a : Int) : Evt (fun n => call T C n 54 (a, ())) ((inR a 8 360, ()), ()) := Evt.next (Evt.bind (e28 a 8 360) (Evt.some _)) (fun n => r54 n a)
/- impl.ValidProgram -/
theorem e39 (p : Prg) (hr : RngPg p) : Evt (fun n => call T C n 39 (p, ())) ((okPg p, ()), ()) := by
  refine Evt.next (Evt.bind (e28 _ _ _) ?_) (fun n => r39 n p)
  unfold okPg
  cases h1 : inR (p.2.1.length : Int) 1 24 with
  | false => exact Evt.yes rfl (Evt.some _)
  | true =>
    have hn := inR_iff.1 h1
    refine Evt.no (by simp) (Evt.bind (e27 _) ?_)
    cases h2 : inR (wr .i64 p.1) 0 10000 with
    | false => exact Evt.yes rfl (Evt.some _)
    | true =>
      refine Evt.no (by simp) (Evt.bind (e63 p.2.1 hr.m) ?_)
      have ha : p.2.1.all moOk = !p.2.1.any (fun v => !moOk v) := by simp [List.any_eq_not_all_not]
      rw [ha]
      cases p.2.1.any (fun v => !moOk v) with
      | true => exact Evt.no (by simp) (Evt.some _)
      | false =>
        refine Evt.yes rfl (Evt.bind (e66 p hr hn.2) (Evt.bind (e54 _) ?_))
        cases k4 : inR (sumM p.2.1) 8 360 with
        | false => exact Evt.no (by simp) (Evt.some _)
        | true =>
          obtain ⟨v, hv⟩ := at_of (l := p.2.1) (i := (p.2.1.length : Int) - 1) (by omega) (by omega)
          have hl : lastT p.2.1 = v.2.2.1 := by unfold lastT; rw [hv.idx]; rfl
          refine Evt.yes rfl ?_
          simp only [wrap_id (x := (p.2.1.length : Int) - 1) (by omega) (by omega)]
          refine Evt.at hv.idx ?_
          rw [hl]
          exact Evt.some _
/- strings.Join -/
theorem e57 (ws : List (List UInt8)) (s : List UInt8) (h1 : ws.length ≤ 1000000) (h2 : (Lib.join ws s).length ≤ 1000000000) : Evt (fun n => call T C n 57 (ws.map tx, tx s, ())) ((tx (Lib.join ws s), ()), (ws.map tx, ())) := by
  refine Evt.next ?_ (fun n => r57 n (ws.map tx) (tx s))
  have e : (ws.map tx).map (fun s => s.data.toList) = ws := by
    rw [List.map_map]
    exact (List.map_congr_left fun a _ => rfl).trans (List.map_id ws)
  dsimp only
  rw [e]
  show Evt (fun n => if (ws.map tx).length ≤ 140737488355328 ∧ (Lib.join ws s).length ≤ 140737488355328 then some ((tx (Lib.join ws s), ()), (ws.map tx, ())) else none) _
  rw [if_pos ⟨by simp; omega, by omega⟩]
  exact Evt.some _
/- impl.ProgramText -/
theorem e40 (p : Prg) (hr : RngPg p) : Evt (fun n => call T C n 40 (p, ())) ((ptR p, ()), ()) := by
  refine Evt.next (Evt.bind (e39 p hr) ?_) (fun n => r40 n p)
  unfold ptR
  cases h : okPg p with
  | false => exact Evt.yes rfl (Evt.some _)
  | true =>
    have G := goodPg hr h
    have hn := G.n
    have ht := G.t
    obtain ⟨t, et⟩ : ∃ t : Nat, p.1 = t := ⟨p.1.toNat, by omega⟩
    have c32 : (⟨#[32]⟩ : ByteArray) = tx [32] := rfl
    have c58 : (⟨#[58]⟩ : ByteArray) = tx [58] := rfl
    refine Evt.no (by simp) ?_
    rw [wrap_id (x := p.1) (by omega) (by omega)]
    have hD := e52 t (by omega)
    rw [← et] at hD
    have ett : p.1.toNat = t := by omega
    refine Evt.bind hD ?_
    refine for_evt' 0 (p.2.1.length : Int) (fun i (_ : Unit) => ((pgW p.1 (p.2.1.take i.toNat)).map tx, p.2.1, (p.2.1.length : Int), i, ())) (fun _ _ => True) (b0 := ()) (by simp [pgW, ett]) (by omega) trivial ?_ ?_
    · intro i _ h2 h3 _
      obtain ⟨v, hv⟩ := at_of h2 h3
      obtain ⟨g1, g2, g3⟩ := G.el v hv.mem
      have hrv := hr.m.el v hv.mem
      obtain ⟨a, ea⟩ : ∃ a : Nat, v.2.1 = a := ⟨v.2.1.toNat, by omega⟩
      obtain ⟨b, eb⟩ : ∃ b : Nat, v.2.2.1 = b := ⟨v.2.2.1.toNat, by omega⟩
      have hA := e52 a (by omega)
      have hB := e52 b (by omega)
      rw [← ea] at hA
      rw [← eb] at hB
      have z1 := dec_len (u := a) (by omega)
      have z2 := dec_len (u := b) (by omega)
      have hJ := (pgW_len hr.m hr.t.2 hn.2 i.toNat).2
      have hJ2 : ((pgW p.1 (p.2.1.take i.toNat)).map tx).length ≤ 25 := by simpa using hJ
      have hcut := ltr_cut g1.1 g1.2
      refine Round.yes (decide_eq_true h3) (Round.at hv.idx ?_)
      simp only [wr_i8 (x := v.1 + 1) (by omega) (by omega), hr.m.i2 hv.mem, hr.m.i3 hv.mem, hcut, c58, tx_app]
      refine Round.chk (decide_eq_true ⟨g1.1, by omega, by show v.1 + 1 ≤ 4; omega⟩) (Round.bind hA ?_)
      simp only [tx_app]
      refine Round.chk (szT (by simp) (by omega)) (Round.chk (szT (by simp; omega) (by simp)) (Round.bind hB ?_))
      simp only [tx_app]
      refine Round.chk (szT (by simp; omega) (by omega)) (Round.chk (decide_eq_true (by simp only [List.length_cons, List.length_nil]; omega)) (Round.again _ ⟨(), ?_, trivial⟩))
      rw [hv.take, pgW_snoc, wr_succ h2 h3 (by omega)]
      have : motW v = ltr v.1 :: (Lib.decDigits a ++ 58 :: Lib.decDigits b) := by unfold motW; rw [ea, eb]; rfl
      rw [this]
      simp
    · intro _ _
      obtain ⟨hJ, hJl⟩ := pgW_len hr.m hr.t.2 hn.2 p.2.1.length
      rw [List.take_length] at hJ hJl
      simp only [take_all, c32]
      exact Round.no (by simp) (Round.done (Evt.bind (e57 (pgW p.1 p.2.1) [32] (by omega) (by omega)) (Evt.some _)))
/- impl.ReadProgram -/
theorem e15 (l : List UInt8) (hl : l.length ≤ 1048576) : Evt (fun n => call T C n 15 (tx l, ())) (((rdPg l).1, (rdPg l).2, ()), ()) := by
  refine Evt.next ?_ (fun n => r15 n (tx l))
  obtain ⟨w, ws, e⟩ := splitC_ne 32 l
  have hS := e21_2 32 l (by omega)
  have hn := splitC_len 32 l
  have hw := splitC_wlen (c := 32) (l := l)
  rw [e] at hS hn hw
  simp only [List.length_cons] at hn
  have hlw : ((((w :: ws).map tx).length : Nat) : Int) = (ws.length : Int) + 1 := by simp
  have hww := hw w (by simp)
  have bd := numI_bd w
  have hrd := rdPg_eq hl
  have no : irPg l = none → ∀ {f : Nat → Option ((Prg × Int × Unit) × Unit)}, Evt f ((((0 : Int), ([] : List Ct), ()), (5 : Int), ()), ()) → Evt f (((rdPg l).1, (rdPg l).2, ()), ()) := fun h f hf => by
    have : rdPg l = ((0, [], ()), 5) := by rw [hrd, h]
    rw [this]; exact hf
  have hsr : irPg l = if inR (numI w).1 0 10000 = true then (mapO irMo ws).map fun L => ((numI w).1, L, ()) else none := by unfold irPg; rw [e]
  refine Evt.bind hS (Evt.chk (decide_eq_true ⟨Int.le_refl _, by show (0 : Int) < ((((w :: ws).map tx).length : Nat) : Int); omega⟩) (Evt.at (x := tx w) rfl (Evt.bind (e26_2 w (by omega)) (Evt.bind (e27 _) ?_))))
  by_cases c2 : inR (numI w).1 0 10000 = true
  case neg => exact Evt.yes (by simpa using c2) (no (by rw [hsr, if_neg c2]) (Evt.some _))
  have hi := inR_iff.1 c2
  rw [if_pos c2] at hsr
  refine Evt.no (by simp [c2]) (Evt.chk (decide_eq_true ⟨by omega, by show (1 : Int) ≤ ((((w :: ws).map tx).length : Nat) : Int); omega, Int.le_refl _⟩) ?_)
  have hz : wr .i16 (numI w).1 = (numI w).1 := wrap16 (by omega) (by omega)
  have ht : ((((w :: ws).map tx).take (Int.toNat ((((w :: ws).map tx).length : Nat) : Int))).drop (Int.toNat (1 : Int))) = ws.map tx := by
    rw [Int.toNat_natCast, List.take_length]; rfl
  dsimp only
  rw [ht, hz]
  have hlm : (((ws.map tx).length : Nat) : Int) = (ws.length : Int) := by simp
  refine for_evt' 0 (ws.length : Int) (fun i (L : List Ct) => (tx l, (((0 : Int), ([] : List Ct), ()) : Prg), (((numI w).1, L, ()) : Prg), ws.map tx, (((ws.map tx).length : Nat) : Int), i, ())) (fun i L => mapO irMo (ws.take i.toNat) = some L) (b0 := []) rfl (by omega) rfl ?_ ?_
  · intro i L i0 i1 hL
    obtain ⟨i, rfl⟩ := Int.eq_ofNat_of_zero_le i0
    obtain ⟨v, hv⟩ : ∃ v, ws[i]? = some v := ⟨_, List.getElem?_eq_getElem (by omega)⟩
    rw [Int.toNat_natCast] at hL
    have hvl := hw v (by simp [List.mem_of_getElem? hv])
    have hvi : idx (ws.map tx) (i : Int) = some (tx v) := by
      unfold idx
      rw [if_pos (by omega), Int.toNat_natCast, List.getElem?_map, hv]; rfl
    have hll := (mapO_el hL).1
    have htl : (ws.take i).length ≤ i := by rw [List.length_take]; omega
    have bad : irMo v = none → irPg l = none := fun h => by rw [hsr, mapO_none h (List.mem_of_getElem? hv)]; rfl
    dsimp only
    refine Round.yes (decide_eq_true (by rw [hlm]; exact i1)) (Round.at hvi ?_)
    cases v with
    | nil => exact Round.yes (beq_self_eq_true (tx []).toList) (Round.done (no (bad rfl) (Evt.some _)))
    | cons k r =>
    simp only [List.length_cons] at hvl
    have hsz : ((tx (k :: r)).size : Int) = (r.length : Int) + 1 := by rw [tx_size]; simp
    have hx : (tx (k :: r)).extract (Int.toNat (1 : Int)) (Int.toNat ((tx (k :: r)).size : Int)) = tx r := by
      rw [hsz, tx_ext]
      show tx (r.take _) = _
      rw [List.take_of_length_le (by omega)]
    rw [hx]
    have hC := e25 r [58] (by omega)
    have hcl : (Lib.cut r [58]).1.length ≤ r.length ∧ (Lib.cut r [58]).2.1.length ≤ r.length := by
      unfold Lib.cut
      split
      · exact ⟨by rw [List.length_take]; omega, by rw [List.length_drop]; omega⟩
      · exact ⟨Nat.le_refl _, by simp⟩
    have b1 := numI_bd (Lib.cut r [58]).1
    have b2 := numI_bd (Lib.cut r [58]).2.1
    have hm : irMo (k :: r) = if inR (numI (Lib.cut r [58]).2.1).1 0 10000 = true ∧ inR (numI (Lib.cut r [58]).1).1 1 360 = true then some (lawOf k, (numI (Lib.cut r [58]).1).1, (numI (Lib.cut r [58]).2.1).1, ()) else none := rfl
    refine Round.no (by show ¬ (((tx (k :: r)).toList == (tx []).toList) = true); rw [tx_toList, tx_toList]; simp) (Round.chk (decide_eq_true ⟨by omega, by omega, Int.le_refl _⟩) (Round.bind hC (Round.bind (e26_2 _ (by omega)) (Round.bind (e26_2 _ (by omega)) (Round.bind (e27 _) ?_)))))
    by_cases c3 : inR (numI (Lib.cut r [58]).2.1).1 0 10000 = true
    case neg => exact Round.yes (by simpa using c3) (Round.done (no (bad (by rw [hm, if_neg (fun h => c3 h.1)])) (Evt.some _)))
    refine Round.no (by simp [c3]) (Round.bind (e28 _ _ _) ?_)
    by_cases c4 : inR (numI (Lib.cut r [58]).1).1 1 360 = true
    case neg => exact Round.yes (by simpa using c4) (Round.done (no (bad (by rw [hm, if_neg (fun h => c4 h.2)])) (Evt.some _)))
    have i3 := inR_iff.1 c3
    have i4 := inR_iff.1 c4
    have hlb := lawOf_bd k
    rw [if_pos ⟨c3, c4⟩] at hm
    refine Round.no (by simp [c4]) (Round.at (nums_at (l := k :: r) (i := 0) rfl) (Round.bind (e38 k) (Round.chk (decide_eq_true (by simp only [List.length_singleton]; omega)) (Round.again _ ⟨L ++ [(lawOf k, (numI (Lib.cut r [58]).1).1, (numI (Lib.cut r [58]).2.1).1, ())], ?_, ?_⟩))))
    · rw [wr_succ i0 i1 (by omega), wr_i8 (x := lawOf k) (by omega) (by omega), wrap16 (x := (numI (Lib.cut r [58]).1).1) (by omega) (by omega), wrap16 (x := (numI (Lib.cut r [58]).2.1).1) (by omega) (by omega)]
    · rw [show ((i : Int) + 1).toNat = i + 1 by omega, List.take_add_one, hv]
      exact mapO_snoc hm hL
  · intro L hL
    rw [Int.toNat_natCast, List.take_length] at hL
    rw [hL] at hsr
    have hr := irPg_rng hl hsr
    rw [hsr] at hrd
    simp only [Option.map_some] at hrd
    dsimp only
    refine Round.no (by rw [hlm]; simp) (Round.bind (e39 ((numI w).1, L, ()) hr) ?_)
    cases ho : okPg ((numI w).1, L, ()) with
    | false =>
      rw [hrd, if_neg (fun h => by rw [ho] at h; cases h.1)]
      exact Round.yes rfl (Round.done (Evt.some _))
    | true =>
      have hpt : ptR ((numI w).1, L, ()) = tx (pgT ((numI w).1, L, ())) := if_pos ho
      refine Round.no (by simp) (Round.bind (e40 ((numI w).1, L, ()) hr) ?_)
      rw [hpt]
      simp only [tx_toList]
      by_cases hq : pgT ((numI w).1, L, ()) = l
      · have e9 : rdPg l = (((numI w).1, L, ()), 0) := by rw [hrd, if_pos ⟨ho, hq⟩]
        rw [e9, hq]
        exact Round.no (by simp) (Round.done (Evt.some _))
      · have e9 : rdPg l = ((0, [], ()), 5) := by rw [hrd, if_neg (fun h => hq h.2)]
        rw [e9]
        exact Round.yes (by simpa using hq) (Round.done (Evt.some _))
/- laws.eqMotion -/
theorem e67 (v : Ct) : Evt (fun n => call T C n 67 (v, v, ())) ((true, ()), ()) := Evt.next (Evt.no (by simp) (Evt.no (by simp) (Evt.no (by simp) (Evt.some _)))) (fun n => r67 n v v)
/- laws.eqMotionS -/
theorem e41 (l : List Ct) (hl : (l.length : Int) ≤ 140737488351232) : Evt (fun n => call T C n 41 (l, l, ())) ((true, ()), ()) := by
  refine Evt.next (Evt.no (by simp) ?_) (fun n => r41 n l l)
  refine for_evt 0 (l.length : Int) (fun i (_ : Unit) => (l, l, i, ())) (fun _ _ => True) (b0 := ()) (by omega) trivial ?_ ?_
  · intro i _ h2 h3 _
    obtain ⟨v, hv⟩ := at_of h2 h3
    refine Round.yes (decide_eq_true h3) (Round.at hv.idx (Round.at hv.idx (Round.bind (e67 v) (Round.no (by simp) (Round.again _ ⟨(), ?_, trivial⟩)))))
    rw [wr_succ h2 h3 (by omega)]
  · intro _ _
    exact Round.no (by simp) (Round.done (Evt.some _))
/- laws.eqProgram -/
theorem e16 (p : Prg) (hl : (p.2.1.length : Int) ≤ 140737488351232) : Evt (fun n => call T C n 16 (p, p, ())) ((true, ()), ()) := Evt.next (Evt.no (by simp) (Evt.bind (e41 p.2.1 hl) (Evt.no (by simp) (Evt.some _)))) (fun n => r16 n p p)
/- laws.markMotionS -/
theorem e42 (l : List Ct) (k : Int) (h0 : 0 ≤ k) (h1 : k + 3 * l.length ≤ 4611686018427387904) : Evt (fun n => call T C n 42 (l, k, ())) ((k + 3 * l.length, ()), (mkC (wr .i8) (wr .i16) (wr .i16) l.length k, ())) := by
  refine Evt.next ?_ (fun n => r42 n l k)
  refine for_evt' 0 (l.length : Int) (fun i (b : List Ct) => (b, k + 3 * i, i, ())) (fun i b => b.length = l.length ∧ b.take i.toNat = mkC (wr .i8) (wr .i16) (wr .i16) i.toNat k) (b0 := l) (by simp) (by omega) ⟨rfl, by simp [mkC]⟩ ?_ ?_
  · intro i b h2 h3 ⟨hb, ht⟩
    have hi : i < (b.length : Int) := by omega
    obtain ⟨u, hu⟩ := get_of_lt h2 hi
    have hset : ∀ v : Ct, (b.set i.toNat v)[i.toNat]? = some v := fun v => List.getElem?_set_self (by omega)
    have hsl : ∀ v : Ct, i < (((b.set i.toNat v).length : Nat) : Int) := fun v => by rw [List.length_set]; exact hi
    simp only [wrap_id (x := k + 3 * i + 1) (by omega) (by omega), wrap_id (x := k + 3 * i + 1 + 1) (by omega) (by omega), wrap_id (x := k + 3 * i + 1 + 1 + 1) (by omega) (by omega), wrap_id (x := i + 1) (by omega) (by omega), List.set_set]
    refine Round.yes (decide_eq_true hi) (Round.chk (chk_at h2 hi) (Round.at hu (Round.chk (chk_at h2 (hsl _)) (Round.at (hset _) (Round.chk (chk_at h2 (hsl _)) (Round.at (hset _) (Round.again _ ⟨b.set i.toNat (wr .i8 (k + 3 * i), wr .i16 (k + 3 * i + 1), wr .i16 (k + 3 * i + 1 + 1), ()), ?_, by simpa using hb, ?_⟩)))))))
    · rw [show k + 3 * (i + 1) = k + 3 * i + 1 + 1 + 1 by omega]
    · rw [take_set_succ h2 hi, ht, show (i + 1).toNat = i.toNat + 1 by omega, mkC_succ, show ((i.toNat : Nat) : Int) = i by omega]
  · intro b ⟨hb, ht⟩
    have e : b = mkC (wr .i8) (wr .i16) (wr .i16) l.length k := by rw [← take_all b, hb, ht]; simp
    rw [← e]
    exact Round.no (by simp [hb]) (Round.done (Evt.some _))
/- laws.markProgram -/
theorem e17 (p : Prg) (k : Int) (h0 : 0 ≤ k) (h1 : k + 3 * p.2.1.length ≤ 4611686018427387904) : Evt (fun n => call T C n 17 (p, k, ())) ((k + 3 * p.2.1.length, ()), ((p.1, mkC (wr .i8) (wr .i16) (wr .i16) p.2.1.length k, ()), ())) := Evt.next (Evt.bind (e42 p.2.1 k h0 h1) (Evt.some _)) (fun n => r17 n p k)
/- laws.heldMotionS -/
theorem e43 (m : Nat) (k : Int) (h0 : 0 ≤ k) (h1 : k + 3 * m ≤ 4611686018427387904) : Evt (fun n => call T C n 43 (mkC (wr .i8) (wr .i16) (wr .i16) m k, k, ())) ((k + 3 * m, ()), ()) := by
  refine Evt.next ?_ (fun n => r43 n _ k)
  refine for_evt' 0 (m : Int) (fun i (_ : Unit) => (mkC (wr .i8) (wr .i16) (wr .i16) m k, k + 3 * i, i, ())) (fun _ _ => True) (b0 := ()) (by simp) (by omega) trivial ?_ ?_
  · intro i _ h2 h3 _
    obtain ⟨v, hv⟩ := at_of (l := mkC (wr .i8) (wr .i16) (wr .i16) m k) h2 (by rw [mkC_len]; exact h3)
    obtain ⟨e1, e2, e3⟩ := mkC_at (wr .i8) (wr .i16) (wr .i16) m k hv h2
    simp only [wrap_id (x := k + 3 * i + 1) (by omega) (by omega), wrap_id (x := k + 3 * i + 1 + 1) (by omega) (by omega), wrap_id (x := k + 3 * i + 1 + 1 + 1) (by omega) (by omega), wrap_id (x := i + 1) (by omega) (by omega)]
    refine Round.yes (by rw [mkC_len]; exact decide_eq_true h3) (Round.at hv.idx (Round.no (by simp [e1]) (Round.at hv.idx (Round.no (by simp [e2]) (Round.at hv.idx (Round.no (by simp [e3]) (Round.again _ ⟨(), ?_, trivial⟩)))))))
    rw [show k + 3 * (i + 1) = k + 3 * i + 1 + 1 + 1 by omega]
  · intro _ _
    exact Round.no (by simp [mkC_len]) (Round.done (Evt.some _))
/- laws.heldProgram -/
theorem e18 (x : Int) (m : Nat) (k : Int) (h0 : 0 ≤ k) (h1 : k + 3 * m ≤ 4611686018427387904) : Evt (fun n => call T C n 18 ((x, mkC (wr .i8) (wr .i16) (wr .i16) m k, ()), k, ())) ((k + 3 * m, ()), ()) := Evt.next (Evt.bind (e43 m k h0 h1) (Evt.no (by simp; omega) (Evt.some _))) (fun n => r18 n _ k)
/- laws.FnExactReadProgram -/
theorem e5 (a : ByteArray) (hd : DomA (C 5).params (a, ())) : Evt (fun n => call T C n 5 (a, ())) ((true, ()), ()) := by
  obtain ⟨l, rfl⟩ := tx_of a
  refine Evt.next (Evt.ite (fun _ => Evt.some _) (fun h => ?_)) (fun n => r5 n (tx l))
  have hl : l.length ≤ 1048576 := by
    simp only [decide_eq_true_eq, tx_size] at h
    omega
  have hlen := rdPg_len hl
  have hS := e14 l hl
  have hI := e15 l hl
  generalize rdPg l = z at hS hI hlen
  obtain ⟨⟨t, L, u⟩, c⟩ := z
  simp only at hlen
  have hE := e16 (t, L, ()) (by show (L.length : Int) ≤ _; omega)
  have hM := e17 (t, L, ()) 1 (by omega) (by show 1 + 3 * (L.length : Int) ≤ _; omega)
  have hH := e18 t L.length 1 (by omega) (by omega)
  refine Evt.bind hS (Evt.bind hI (Evt.bind hE (Evt.no (by simp) (Evt.no (by simp) (Evt.bind hM (Evt.bind hH (Evt.no (by simp; omega) (Evt.no (by simp) (Evt.bind hI (Evt.bind hE (Evt.no (by simp) (Evt.no (by simp) (Evt.bind hH (Evt.no (by simp; omega) (Evt.no (by simp) (Evt.some _))))))))))))))))

end Go.Cams.YtjeakogmccogmaaDoorLRp
