/- Cutters, tips, and what a cutter leaves, in plain terms. -/
import Derived.Test.YtdhgdfofgeccgaaPu7
namespace Go.Cams
open Go Go.Fw
/-- An element, 0 where there is none. -/
def g (l : List Int) (i : Nat) : Int := l.getD i 0
theorem g_at {l : List Int} {i v : Int} (h : At l i v) : g l i.toNat = v := by
  have := h.get
  unfold g
  rw [List.getD_eq_getElem?_getD, this]; rfl
theorem g_idx {l : List Int} {i : Int} (h0 : 0 ≤ i) (h1 : i < l.length) : At l i (g l i.toNat) := by
  obtain ⟨v, hv⟩ := at_of (l := l) h0 h1
  rw [g_at hv]; exact hv
theorem g_mem {l : List Int} {i : Nat} (h : i < l.length) : g l i ∈ l := by
  have := g_idx (l := l) (i := i) (by omega) (by omega)
  simpa using this.mem
theorem g_set (l : List Int) (i j : Nat) (v : Int) : g (l.set i v) j = if i = j ∧ i < l.length then v else g l j := by
  unfold g
  rw [List.getD_eq_getElem?_getD, List.getD_eq_getElem?_getD, List.getElem?_set]
  by_cases h : i = j
  · subst h
    by_cases h2 : i < l.length
    · simp [h2]
    · simp [h2]
  · simp [h]
def cAt (l : List Int) (x : Int) : Int := g l (x % l.length).toNat

/-! ### Validity -/
def kOne (k : List Int) (i : Nat) : Bool := inR (wr .i64 (g k i)) 0 10000 && (g k (k.length - 1 - i) == g k i) && (decide (i = 0) || !decide (g k (i - 1) < g k i))
def kTwo (k : List Int) (i : Nat) : Bool := inR (wr .i64 (g k i)) 0 10000 && (g k i == g k (k.length - 1 - i)) && !(decide (i > k.length / 2) && decide (g k i < g k (i - 1)))
def allTo (p : Nat → Bool) (n : Nat) : Bool := (List.range n).all p
theorem allTo_succ (p : Nat → Bool) (n : Nat) : allTo p (n + 1) = (allTo p n && p n) := by simp [allTo, List.range_succ]
theorem allTo_iff (p : Nat → Bool) (n : Nat) : allTo p n = true ↔ ∀ i, i < n → p i = true := by simp [allTo]
theorem allTo_false {p : Nat → Bool} {n i : Nat} (h : i < n) (hp : p i = false) : allTo p n = false := by
  rw [Bool.eq_false_iff]
  intro ha
  have := (allTo_iff p n).1 ha i h
  rw [hp] at this
  cases this
def okK (k : List Int) : Bool := inR (k.length : Int) 1 31 && decide (k.length % 2 = 1) && (g k (k.length / 2) == 0) && allTo (kOne k) (k.length / 2 + 1)
theorem kTwo_of {k : List Int} (ho : k.length % 2 = 1) (h : allTo (kOne k) (k.length / 2 + 1) = true) : allTo (kTwo k) k.length = true := by
  rw [allTo_iff] at h ⊢
  have h' : ∀ i, i < k.length / 2 + 1 → (0 ≤ wr .i64 (g k i) ∧ wr .i64 (g k i) ≤ 10000) ∧ g k (k.length - 1 - i) = g k i ∧ (i = 0 ∨ ¬ g k (i - 1) < g k i) := by
    intro i hi
    have := h i hi
    simp only [kOne, Bool.and_eq_true, Bool.or_eq_true, beq_iff_eq, decide_eq_true_eq, inR_iff, Bool.not_eq_true', decide_eq_false_iff_not] at this
    exact ⟨this.1.1, this.1.2, this.2⟩
  intro i hi
  simp only [kTwo, Bool.and_eq_true, beq_iff_eq, inR_iff, Bool.not_eq_true', Bool.and_eq_false_iff, decide_eq_false_iff_not]
  by_cases hc : i < k.length / 2 + 1
  · obtain ⟨a, b, _⟩ := h' i hc
    exact ⟨⟨a, b.symm⟩, .inl (by omega)⟩
  · obtain ⟨a, b, _⟩ := h' (k.length - 1 - i) (by omega)
    rw [show k.length - 1 - (k.length - 1 - i) = i by omega] at b
    obtain ⟨_, b2, d⟩ := h' (k.length - 1 - (i - 1)) (by omega)
    rw [show k.length - 1 - (k.length - 1 - (i - 1)) = i - 1 by omega] at b2
    refine ⟨⟨by rw [b]; exact a, b⟩, .inr ?_⟩
    rcases d with d | d
    · omega
    · rw [show k.length - 1 - (i - 1) - 1 = k.length - 1 - i by omega] at d
      rw [b, b2]; exact d
theorem kOne_of {k : List Int} (ho : k.length % 2 = 1) (h : allTo (kTwo k) k.length = true) : allTo (kOne k) (k.length / 2 + 1) = true := by
  rw [allTo_iff] at h ⊢
  have h' : ∀ i, i < k.length → (0 ≤ wr .i64 (g k i) ∧ wr .i64 (g k i) ≤ 10000) ∧ g k i = g k (k.length - 1 - i) ∧ (¬ i > k.length / 2 ∨ ¬ g k i < g k (i - 1)) := by
    intro i hi
    have := h i hi
    simp only [kTwo, Bool.and_eq_true, beq_iff_eq, inR_iff, Bool.not_eq_true', Bool.and_eq_false_iff, decide_eq_false_iff_not] at this
    exact ⟨this.1.1, this.1.2, this.2⟩
  intro i hi
  obtain ⟨a, b, _⟩ := h' i (by omega)
  simp only [kOne, Bool.and_eq_true, Bool.or_eq_true, beq_iff_eq, decide_eq_true_eq, inR_iff, Bool.not_eq_true', decide_eq_false_iff_not]
  refine ⟨⟨a, b.symm⟩, ?_⟩
  by_cases h0 : i = 0
  · exact .inl h0
  right
  obtain ⟨_, b2, d⟩ := h' (k.length - 1 - (i - 1)) (by omega)
  rw [show k.length - 1 - (k.length - 1 - (i - 1)) = i - 1 by omega] at b2
  rcases d with d | d
  · omega
  · rw [show k.length - 1 - (i - 1) - 1 = k.length - 1 - i by omega, ← b, b2] at d
    exact d
structure GoodK (k : List Int) : Prop where
  lo : 1 ≤ k.length
  hi : k.length ≤ 31
  odd : k.length % 2 = 1
  mid : g k (k.length / 2) = 0
  el : ∀ i, i < k.length → 0 ≤ g k i ∧ g k i ≤ 10000
  sym : ∀ i, i < k.length → g k i = g k (k.length - 1 - i)
theorem goodK {k : List Int} (hr : Rng k) (h : okK k = true) : GoodK k := by
  simp only [okK, Bool.and_eq_true, inR_iff, decide_eq_true_eq, beq_iff_eq] at h
  obtain ⟨⟨⟨h1, h2⟩, h3⟩, h4⟩ := h
  have h5 := (allTo_iff _ _).1 (kTwo_of h2 h4)
  have h6 : ∀ i, i < k.length → (0 ≤ g k i ∧ g k i ≤ 10000) ∧ g k i = g k (k.length - 1 - i) := by
    intro i hi
    have := h5 i hi
    simp only [kTwo, Bool.and_eq_true, beq_iff_eq, inR_iff] at this
    rw [hr.id (g_mem hi)] at this
    exact this.1
  exact ⟨by omega, by omega, h2, h3, fun i hi => (h6 i hi).1, fun i hi => (h6 i hi).2⟩
def cutCode (c k : List Int) : Int := if okC c = true then (if okK k = true then 0 else 1) else 1

/-! ### Tips -/
def half (k : List Int) : Int := (k.length / 2 : Nat)
def tipTo (c k : List Int) (s : Int) : Nat → Int
  | 0 => 0
  | i + 1 => max (tipTo c k s i) (cAt c (s + i - half k) - g k i)
def tip (c k : List Int) (s : Int) : Int := tipTo c k s k.length
def tipsL (c k : List Int) (n : Nat) : List Int := (List.range n).map fun s => tip c k (s : Nat)
theorem tipsL_len (c k : List Int) (n : Nat) : (tipsL c k n).length = n := by simp [tipsL]
theorem tipsL_succ (c k : List Int) {i : Int} (h : 0 ≤ i) : tipsL c k (i + 1).toNat = tipsL c k i.toNat ++ [tip c k i] := by
  rw [show (i + 1).toNat = i.toNat + 1 by omega]
  simp only [tipsL, List.range_succ, List.map_append, List.map_cons, List.map_nil]
  rw [show ((i.toNat : Nat) : Int) = i by omega]
theorem g_tips (c k : List Int) {n i : Nat} (h : i < n) : g (tipsL c k n) i = tip c k i := by
  unfold g tipsL
  rw [List.getD_eq_getElem?_getD, List.getElem?_map, List.getElem?_range h]
  rfl
theorem cAt_mem {c : List Int} (h : 0 < c.length) (x : Int) : cAt c x ∈ c := by
  have h1 := Int.emod_nonneg x (show (c.length : Int) ≠ 0 by omega)
  have h2 := Int.emod_lt_of_pos x (show 0 < (c.length : Int) by omega)
  exact g_mem (by omega)
theorem tipTo_bd {c k : List Int} (hc : 0 < c.length) (hC : ∀ v ∈ c, 0 ≤ v ∧ v ≤ 10000) (hK : ∀ i, i < k.length → 0 ≤ g k i ∧ g k i ≤ 10000) (s : Int) : ∀ i, i ≤ k.length → 0 ≤ tipTo c k s i ∧ tipTo c k s i ≤ 10000
  | 0, _ => by simp [tipTo]
  | i + 1, h => by
    have h1 := tipTo_bd hc hC hK s i (by omega)
    have h2 := hC _ (cAt_mem hc (s + i - half k))
    have h3 := hK i (by omega)
    unfold tipTo
    omega

/-! ### Cuts -/
def place (k : List Int) (s : Int) (n : Nat) (i : Nat) : Nat := ((s + i - half k) % n).toNat
def cutTo (k : List Int) (s tp : Int) (o : List Int) : Nat → List Int × Int
  | 0 => (o, 0)
  | i + 1 => if g (cutTo k s tp o i).1 (place k s o.length i) > tp + g k i then ((cutTo k s tp o i).1.set (place k s o.length i) (tp + g k i), (cutTo k s tp o i).2 + (g (cutTo k s tp o i).1 (place k s o.length i) - (tp + g k i))) else cutTo k s tp o i
theorem cutTo_len (k : List Int) (s tp : Int) (o : List Int) : ∀ i, (cutTo k s tp o i).1.length = o.length
  | 0 => rfl
  | i + 1 => by
    unfold cutTo
    split
    · rw [List.length_set]; exact cutTo_len k s tp o i
    · exact cutTo_len k s tp o i
theorem place_lt (k : List Int) (s : Int) {n : Nat} (h : 0 < n) (i : Nat) : place k s n i < n := by
  have h1 := Int.emod_nonneg (s + i - half k) (show (n : Int) ≠ 0 by omega)
  have h2 := Int.emod_lt_of_pos (s + i - half k) (show 0 < (n : Int) by omega)
  unfold place; omega
/-- Elements of a surface behind a cut: none is higher, and each is as before or as the cutter left it. -/
theorem cutTo_el (k : List Int) (s tp : Int) {o : List Int} (h : 0 < o.length) (p : Nat) (hp : p < o.length) : ∀ i, g (cutTo k s tp o i).1 p ≤ g o p ∧ (∀ j, j < i → place k s o.length j = p → g (cutTo k s tp o i).1 p ≤ tp + g k j) ∧ (g (cutTo k s tp o i).1 p = g o p ∨ ∃ j, j < i ∧ place k s o.length j = p ∧ g (cutTo k s tp o i).1 p = tp + g k j)
  | 0 => ⟨Int.le_refl _, fun j hj => by omega, .inl rfl⟩
  | i + 1 => by
    obtain ⟨h1, h2, h3⟩ := cutTo_el k s tp h p hp i
    have hl := cutTo_len k s tp o i
    have hlt := place_lt k s h i
    unfold cutTo
    split
    · rename_i hgt
      by_cases e : place k s o.length i = p
      · have hg : g ((cutTo k s tp o i).1.set (place k s o.length i) (tp + g k i)) p = tp + g k i := by rw [g_set, if_pos ⟨e, by omega⟩]
        rw [e] at hgt
        simp only [hg]
        refine ⟨by omega, fun j hj hpj => ?_, .inr ⟨i, by omega, e, rfl⟩⟩
        by_cases hji : j = i
        · subst hji; omega
        · have := h2 j (by omega) hpj; omega
      · have hg : g ((cutTo k s tp o i).1.set (place k s o.length i) (tp + g k i)) p = g (cutTo k s tp o i).1 p := by rw [g_set, if_neg (fun h => e h.1)]
        simp only [hg]
        refine ⟨h1, fun j hj hpj => ?_, ?_⟩
        · by_cases hji : j = i
          · subst hji; exact absurd hpj e
          · exact h2 j (by omega) hpj
        · exact h3.imp id fun ⟨j, a, b, c⟩ => ⟨j, by omega, b, c⟩
    · rename_i hgt
      refine ⟨h1, fun j hj hpj => ?_, h3.imp id fun ⟨j, a, b, c⟩ => ⟨j, by omega, b, c⟩⟩
      by_cases hji : j = i
      · subst hji; rw [hpj] at hgt; omega
      · exact h2 j (by omega) hpj
/-- The surface behind cuts at all steps ahead of one. -/
def leftTo (c k : List Int) : Nat → List Int
  | 0 => List.replicate c.length 10000
  | s + 1 => (cutTo k (s : Nat) (tip c k (s : Nat)) (leftTo c k s) k.length).1
theorem leftTo_len (c k : List Int) : ∀ s, (leftTo c k s).length = c.length
  | 0 => by simp [leftTo]
  | s + 1 => by unfold leftTo; rw [cutTo_len, leftTo_len c k s]
theorem leftTo_el {c : List Int} (k : List Int) (h : 0 < c.length) (p : Nat) (hp : p < c.length) : ∀ s, g (leftTo c k s) p ≤ 10000 ∧ (∀ u, u < s → ∀ j, j < k.length → place k u c.length j = p → g (leftTo c k s) p ≤ tip c k u + g k j) ∧ (g (leftTo c k s) p = 10000 ∨ ∃ u j, u < s ∧ j < k.length ∧ place k (u : Nat) c.length j = p ∧ g (leftTo c k s) p = tip c k (u : Nat) + g k j)
  | 0 => by
    have : g (leftTo c k 0) p = 10000 := by unfold g leftTo; rw [List.getD_eq_getElem?_getD, List.getElem?_replicate_of_lt hp]; rfl
    exact ⟨by omega, fun u hu => by omega, .inl this⟩
  | s + 1 => by
    obtain ⟨h1, h2, h3⟩ := leftTo_el k h p hp s
    have hl := leftTo_len c k s
    obtain ⟨c1, c2, c3⟩ := cutTo_el k (s : Nat) (tip c k (s : Nat)) (o := leftTo c k s) (by omega) p (by omega) k.length
    rw [hl] at c2 c3
    unfold leftTo
    refine ⟨by omega, fun u hu j hj hpj => ?_, ?_⟩
    · by_cases e : u = s
      · subst e; exact c2 j hj hpj
      · have := h2 u (by omega) j hj hpj; omega
    · rcases c3 with c3 | ⟨j, a, b, d⟩
      · rw [c3]
        exact h3.imp id fun ⟨u, j, x, y⟩ => ⟨u, j, by omega, y⟩
      · exact .inr ⟨s, j, by omega, a, b, d⟩
def lfTo (c k : List Int) (p : Int) : Nat → Int
  | 0 => tip c k p
  | i + 1 => min (lfTo c k p i) (tip c k ((p + i - half k) % c.length) + g k i)
def lf (c k : List Int) (p : Int) : Int := lfTo c k p k.length
theorem lfTo_el (c k : List Int) (p : Int) : ∀ i, lfTo c k p i ≤ tip c k p ∧ (∀ j, j < i → lfTo c k p i ≤ tip c k ((p + (j : Nat) - half k) % c.length) + g k j) ∧ (lfTo c k p i = tip c k p ∨ ∃ j, j < i ∧ lfTo c k p i = tip c k ((p + (j : Nat) - half k) % c.length) + g k j)
  | 0 => ⟨Int.le_refl _, fun j hj => by omega, .inl rfl⟩
  | i + 1 => by
    obtain ⟨h1, h2, h3⟩ := lfTo_el c k p i
    unfold lfTo
    refine ⟨by omega, fun j hj => ?_, ?_⟩
    · by_cases e : j = i
      · subst e; omega
      · have := h2 j (by omega); omega
    · rcases Int.le_total (lfTo c k p i) (tip c k ((p + (i : Nat) - half k) % c.length) + g k i) with hle | hle
      · rw [Int.min_eq_left hle]
        exact h3.imp id fun ⟨j, a, b⟩ => ⟨j, by omega, b⟩
      · rw [Int.min_eq_right hle]
        exact .inr ⟨i, by omega, rfl⟩
/-- Both ways to tell what is left are one. -/
theorem left_eq {c k : List Int} (hc : 0 < c.length) (hC : ∀ v ∈ c, 0 ≤ v ∧ v ≤ 10000) (G : GoodK k) (p : Nat) (hp : p < c.length) : g (leftTo c k c.length) p = lf c k p := by
  obtain ⟨a1, a2, a3⟩ := leftTo_el k hc p hp c.length
  obtain ⟨b1, b2, b3⟩ := lfTo_el c k (p : Nat) k.length
  have hodd := G.odd
  have hhalf : half k = ((k.length / 2 : Nat) : Int) := rfl
  have hmid : (k.length / 2) < k.length := by have := G.lo; omega
  -- a pair of a step and a place that meets p is a place seen from p
  have to : ∀ u j : Nat, u < c.length → j < k.length → place k (u : Nat) c.length j = p → ((p : Nat) + ((k.length - 1 - j : Nat) : Int) - half k) % c.length = (u : Nat) := by
    intro u j hu hj hpj
    unfold place at hpj
    have h1 := Int.emod_nonneg ((u : Int) + j - half k) (show (c.length : Int) ≠ 0 by omega)
    have e : ((u : Int) + j - half k) % c.length = (p : Nat) := by omega
    have hd := Int.emod_def ((u : Int) + j - half k) c.length
    rw [e] at hd
    have e2 : (p : Int) + ((k.length - 1 - j : Nat) : Int) - half k = (u : Int) - c.length * (((u : Int) + j - half k) / c.length) := by
      rw [hhalf] at hd ⊢
      omega
    rw [e2, Int.sub_mul_emod_self_left]
    exact Int.emod_eq_of_lt (by omega) (by omega)
  have frm : ∀ j : Nat, j < k.length → ∃ u : Nat, u < c.length ∧ ((p : Nat) + ((j : Nat) : Int) - half k) % c.length = (u : Nat) ∧ place k (u : Nat) c.length (k.length - 1 - j) = p := by
    intro j hj
    have h1 := Int.emod_nonneg ((p : Int) + j - half k) (show (c.length : Int) ≠ 0 by omega)
    have h2 := Int.emod_lt_of_pos ((p : Int) + j - half k) (show 0 < (c.length : Int) by omega)
    refine ⟨(((p : Int) + j - half k) % c.length).toNat, by omega, by omega, ?_⟩
    have hu : (((((p : Int) + j - half k) % c.length).toNat : Nat) : Int) = ((p : Int) + j - half k) % c.length := by omega
    unfold place
    rw [hu]
    have hd := Int.emod_def ((p : Int) + j - half k) c.length
    have e2 : ((p : Int) + j - half k) % c.length + ((k.length - 1 - j : Nat) : Int) - half k = (p : Int) - c.length * (((p : Int) + j - half k) / c.length) := by
      rw [hd, hhalf]
      omega
    rw [e2, Int.sub_mul_emod_self_left, Int.emod_eq_of_lt (by omega) (by omega)]
    simp
  have tipbd := (tipTo_bd hc hC G.el (p : Nat) k.length (Nat.le_refl _)).2
  have htip : tip c k (p : Nat) ≤ 10000 := tipbd
  apply Int.le_antisymm
  · show _ ≤ lfTo c k (p : Nat) k.length
    rcases b3 with b3 | ⟨j, hj, b3⟩
    · rw [b3]
      obtain ⟨u, hu, e, hpl⟩ := frm (k.length / 2) hmid
      have e0 : ((p : Nat) + ((k.length / 2 : Nat) : Int) - half k) % c.length = (p : Nat) := by
        rw [hhalf, show (p : Int) + ((k.length / 2 : Nat) : Int) - ((k.length / 2 : Nat) : Int) = p by omega]
        exact Int.emod_eq_of_lt (by omega) (by omega)
      have hup : u = p := by omega
      subst hup
      have := a2 u hu (k.length - 1 - k.length / 2) (by omega) hpl
      rw [show k.length - 1 - k.length / 2 = k.length / 2 by omega, G.mid] at this
      omega
    · rw [b3]
      obtain ⟨u, hu, e, hpl⟩ := frm j hj
      have := a2 u hu (k.length - 1 - j) (by omega) hpl
      rw [← G.sym j hj] at this
      rw [e]
      exact this
  · show lfTo c k (p : Nat) k.length ≤ _
    rcases a3 with a3 | ⟨u, j, hu, hj, hpl, a3⟩
    · rw [a3]; omega
    · rw [a3]
      have := b2 (k.length - 1 - j) (by omega)
      rw [to u j hu hj hpl, ← G.sym j hj] at this
      exact this
end Go.Cams
namespace Go.Cams
open Go Go.Fw
theorem tipTo_succ (c k : List Int) (s : Int) (i : Nat) : tipTo c k s (i + 1) = max (tipTo c k s i) (cAt c (s + i - half k) - g k i) := rfl
theorem lfTo_succ (c k : List Int) (p : Int) (i : Nat) : lfTo c k p (i + 1) = min (lfTo c k p i) (tip c k ((p + i - half k) % c.length) + g k i) := rfl
theorem cutTo_succ (k : List Int) (s tp : Int) (o : List Int) (i : Nat) : cutTo k s tp o (i + 1) = if g (cutTo k s tp o i).1 (place k s o.length i) > tp + g k i then ((cutTo k s tp o i).1.set (place k s o.length i) (tp + g k i), (cutTo k s tp o i).2 + (g (cutTo k s tp o i).1 (place k s o.length i) - (tp + g k i))) else cutTo k s tp o i := rfl
theorem leftTo_succ (c k : List Int) (s : Nat) : leftTo c k (s + 1) = (cutTo k (s : Nat) (tip c k (s : Nat)) (leftTo c k s) k.length).1 := rfl
/-- A surface stays within its bounds. -/
theorem cutTo_bd (k : List Int) (s : Int) {tp : Int} {o : List Int} (h : 0 < o.length) (hp : 0 ≤ tp) (hK : ∀ i, i < k.length → 0 ≤ g k i) (ho : ∀ v ∈ o, 0 ≤ v ∧ v ≤ 10000) : ∀ i, i ≤ k.length → (∀ v ∈ (cutTo k s tp o i).1, 0 ≤ v ∧ v ≤ 10000) ∧ 0 ≤ (cutTo k s tp o i).2 ∧ (cutTo k s tp o i).2 ≤ 10000 * i
  | 0, _ => ⟨ho, by simp [cutTo], by simp [cutTo]⟩
  | i + 1, hi => by
    obtain ⟨h1, h2, h3⟩ := cutTo_bd k s h hp hK ho i (by omega)
    have hk := hK i (by omega)
    have hlt := place_lt k s h i
    have hl := cutTo_len k s tp o i
    have hm := h1 _ (g_mem (l := (cutTo k s tp o i).1) (i := place k s o.length i) (by omega))
    rw [cutTo_succ]
    split
    · rename_i hgt
      refine ⟨fun v hv => ?_, ?_, ?_⟩
      · rcases List.mem_or_eq_of_mem_set hv with hv | hv
        · exact h1 v hv
        · rw [hv]; omega
      · simp only; omega
      · simp only; omega
    · exact ⟨h1, h2, by omega⟩
theorem rng_bd {l : List Int} (hl : (l.length : Int) ≤ 1000000) (h : ∀ v ∈ l, 0 ≤ v ∧ v ≤ 10000) : Rng l := ⟨by omega, fun v hv => by have := h v hv; omega⟩
theorem leftTo_bd {c k : List Int} (hc : 0 < c.length) (hC : ∀ v ∈ c, 0 ≤ v ∧ v ≤ 10000) (G : GoodK k) : ∀ s, ∀ v ∈ leftTo c k s, 0 ≤ v ∧ v ≤ 10000
  | 0 => fun v hv => by
    unfold leftTo at hv
    rw [List.mem_replicate] at hv
    omega
  | s + 1 => by
    have h := leftTo_bd hc hC G s
    have hl := leftTo_len c k s
    have ht := (tipTo_bd hc hC G.el (s : Nat) k.length (Nat.le_refl _)).1
    rw [leftTo_succ]
    exact (cutTo_bd k (s : Nat) (by omega) ht (fun i hi => (G.el i hi).1) h k.length (Nat.le_refl _)).1
def leftL (c k : List Int) : List Int := leftTo c k c.length
theorem leftL_len (c k : List Int) : (leftL c k).length = c.length := leftTo_len c k _
/-- The steps that are not reached. -/
def nrTo (c l : List Int) : Nat → List Int
  | 0 => []
  | i + 1 => if g l i > g c i then nrTo c l i ++ [(i : Int)] else nrTo c l i
theorem nrTo_succ (c l : List Int) (i : Nat) : nrTo c l (i + 1) = if g l i > g c i then nrTo c l i ++ [(i : Int)] else nrTo c l i := rfl
theorem nrTo_len (c l : List Int) : ∀ i, (nrTo c l i).length ≤ i
  | 0 => Nat.le_refl _
  | i + 1 => by
    have := nrTo_len c l i
    rw [nrTo_succ]
    split
    · simp; omega
    · omega
def nrR (c k : List Int) : List Int × (Int × Unit) := if cutCode c k ≠ 0 then ([], cutCode c k, ()) else (nrTo c (leftL c k) c.length, 0, ())
theorem cutCode_ok {c k : List Int} (h : cutCode c k = 0) : okC c = true ∧ okK k = true := by
  unfold cutCode at h
  split at h
  · rename_i h1
    split at h
    · rename_i h2; exact ⟨h1, h2⟩
    · exact absurd h (by decide)
  · exact absurd h (by decide)
theorem nrR_len (c k : List Int) : ((nrR c k).1.length : Int) ≤ 360 := by
  unfold nrR
  split
  · simp
  · rename_i h
    have h1 := okC_len (cutCode_ok (c := c) (k := k) (by simpa using h)).1
    have := nrTo_len c (leftL c k) c.length
    simp only
    omega
/-- What is left, a step at a time. -/
theorem leftL_take {c k : List Int} (hc : 0 < c.length) (hC : ∀ v ∈ c, 0 ≤ v ∧ v ≤ 10000) (G : GoodK k) {i : Nat} (h : i < c.length) : (leftL c k).take (i + 1) = (leftL c k).take i ++ [lf c k i] := by
  have hl := leftL_len c k
  have e : (leftL c k)[i]? = some (lf c k i) := by
    rw [← left_eq hc hC G i h]
    have := (g_idx (l := leftL c k) (i := (i : Int)) (by omega) (by omega)).get
    simpa [leftL] using this
  rw [List.take_add_one, e]; rfl
theorem lf_bd {c k : List Int} (hc : 0 < c.length) (hC : ∀ v ∈ c, 0 ≤ v ∧ v ≤ 10000) (G : GoodK k) {i : Nat} (h : i < c.length) : 0 ≤ lf c k i ∧ lf c k i ≤ 10000 := by
  rw [← left_eq hc hC G i h]
  exact leftTo_bd hc hC G c.length _ (g_mem (by rw [leftTo_len]; exact h))
end Go.Cams
