/- Waste, and the best cutter, in plain terms. -/
import Derived.Test.YtdhgdfofgeccgaaPu8
namespace Go.Cams
open Go Go.Fw
structure RngS (K : List (List Int)) : Prop where
  len : (K.length : Int) * 24 ≤ 140737488351232
  el : ∀ k ∈ K, Rng k
theorem rngS_of {K : List (List Int)} (h : Dom (.slc (.slc (.int .i16))) K) : RngS K := ⟨Int.ofNat_le.2 h.1, fun k hk => rng_of (h.2 k hk)⟩
theorem RngS.len' {K : List (List Int)} (h : RngS K) : (K.length : Int) ≤ 5864062014635 := by have := h.len; omega
def szLf : List (List Int) → Int → Int
  | [], a => a
  | s :: r, a => if sz1 s a < 0 then -1 else szLf r (sz1 s a)
def szL (K : List (List Int)) (a : Int) : Int := if wr .i64 (a - (K.length : Int)) < 0 then -1 else szLf K (wr .i64 (a - (K.length : Int)))
def totL (K : List (List Int)) : Int := (K.map fun k => (k.length : Int)).sum
theorem totL_cons (k : List Int) (K : List (List Int)) : totL (k :: K) = k.length + totL K := by simp [totL]
theorem totL_nonneg : ∀ K : List (List Int), 0 ≤ totL K
  | [] => by simp [totL]
  | s :: r => by have := totL_nonneg r; rw [totL_cons]; omega
theorem totL_append (a b : List (List Int)) : totL (a ++ b) = totL a + totL b := by simp [totL]
theorem totL_take (l : List (List Int)) (i : Nat) : totL (l.take i) + totL (l.drop i) = totL l := by rw [← totL_append, List.take_append_drop]
theorem szLf_ok (l : List (List Int)) : ∀ {a : Int}, (∀ k ∈ l, Rng k) → a ≤ 1048576 → 0 ≤ a → ¬ szLf l a < 0 → totL l ≤ a ∧ szLf l a = a - totL l := by
  induction l with
  | nil =>
    intro a _ _ h1 _
    have : totL [] = 0 := by simp [totL]
    rw [this]
    exact ⟨h1, by simp [szLf]⟩
  | cons s r ih =>
    intro a hS h0 h1 h
    have hs := (hS s (by simp)).len'
    unfold szLf at h ⊢
    split at h
    · omega
    · rename_i h3
      obtain ⟨e, hle⟩ := sz1_ok (by omega) h0 h1 h3
      rw [if_neg h3]
      rw [e] at h ⊢
      have := ih (fun k hk => hS k (by simp [hk])) (by omega) (by omega) h
      rw [totL_cons]
      omega
theorem szL_ok {K : List (List Int)} (hS : RngS K) {a : Int} (h0 : 0 ≤ a) (h1 : a ≤ 1048576) (h : ¬ szL K a < 0) : (K.length : Int) + totL K ≤ a ∧ szL K a = a - K.length - totL K := by
  have h2 := hS.len'
  unfold szL at h ⊢
  rw [wrap_id (by omega) (by omega)] at h ⊢
  split at h
  · omega
  · rename_i h3
    rw [if_neg h3]
    obtain ⟨h4, h5⟩ := szLf_ok K hS.el (by omega) (by omega) h
    rw [h5]
    omega
def okKs (K : List (List Int)) : Bool := K.all okK
/-! ### What is left is not less -/
theorem tipTo_mono (c k : List Int) (s : Int) : ∀ n i : Nat, i < n → cAt c (s + i - half k) - g k i ≤ tipTo c k s n
  | 0, i, h => by omega
  | n + 1, i, h => by
    rw [tipTo_succ]
    by_cases e : i = n
    · subst e; omega
    · have := tipTo_mono c k s n i (by omega); omega
theorem cAt_self {c : List Int} {p : Nat} (h : p < c.length) : cAt c (p : Nat) = g c p := by
  unfold cAt
  rw [Int.emod_eq_of_lt (by omega) (by omega)]
  simp
theorem lf_ge {c k : List Int} (hc : 0 < c.length) (G : GoodK k) {p : Nat} (hp : p < c.length) : g c p ≤ lf c k p := by
  have hodd := G.odd
  have hlo := G.lo
  have hhalf : half k = ((k.length / 2 : Nat) : Int) := rfl
  have base : g c p ≤ tip c k (p : Nat) := by
    have := tipTo_mono c k (p : Nat) k.length (k.length / 2) (by omega)
    rw [G.mid, hhalf, show (p : Int) + ((k.length / 2 : Nat) : Int) - ((k.length / 2 : Nat) : Int) = (p : Nat) by omega, cAt_self hp] at this
    unfold tip
    omega
  have key : ∀ j, j < k.length → g c p ≤ tip c k ((p + (j : Nat) - half k) % c.length) + g k j := by
    intro j hj
    have := tipTo_mono c k (((p : Nat) + (j : Nat) - half k) % c.length) k.length (k.length - 1 - j) (by omega)
    rw [← G.sym j hj] at this
    have e : cAt c (((p : Nat) + (j : Nat) - half k) % c.length + ((k.length - 1 - j : Nat) : Int) - half k) = g c p := by
      have h1 : (((p : Int) + (j : Nat) - half k) % c.length + ((k.length - 1 - j : Nat) : Int) - half k) % c.length = (p : Int) % c.length := by
        rw [show ((p : Int) + (j : Nat) - half k) % c.length + ((k.length - 1 - j : Nat) : Int) - half k = ((p : Int) + (j : Nat) - half k) % c.length + (((k.length - 1 - j : Nat) : Int) - half k) by omega, Int.emod_add_emod]
        congr 1
        rw [hhalf]
        omega
      unfold cAt
      rw [h1, ← cAt, cAt_self hp]
    rw [e] at this
    unfold tip
    omega
  obtain ⟨_, _, h3⟩ := lfTo_el c k (p : Nat) k.length
  unfold lf
  rcases h3 with h3 | ⟨j, hj, h3⟩
  · rw [h3]; exact base
  · rw [h3]; exact key j hj
def wsTo (c l : List Int) : Nat → Int
  | 0 => 0
  | i + 1 => wsTo c l i + (g l i - g c i)
theorem wsTo_succ (c l : List Int) (i : Nat) : wsTo c l (i + 1) = wsTo c l i + (g l i - g c i) := rfl
def waste (c k : List Int) : Int := wsTo c (leftL c k) c.length
theorem leftL_g {c k : List Int} (hc : 0 < c.length) (hC : ∀ v ∈ c, 0 ≤ v ∧ v ≤ 10000) (G : GoodK k) {i : Nat} (h : i < c.length) : g (leftL c k) i = lf c k i := left_eq hc hC G i h
theorem wsTo_bd {c k : List Int} (hc : 0 < c.length) (hC : ∀ v ∈ c, 0 ≤ v ∧ v ≤ 10000) (G : GoodK k) : ∀ i, i ≤ c.length → 0 ≤ wsTo c (leftL c k) i ∧ wsTo c (leftL c k) i ≤ 10000 * i
  | 0, _ => by simp [wsTo]
  | i + 1, h => by
    have h1 := wsTo_bd hc hC G i (by omega)
    have h2 := lf_ge hc G (p := i) (by omega)
    have h3 := lf_bd hc hC G (i := i) (by omega)
    have h4 := hC _ (g_mem (l := c) (i := i) (by omega))
    rw [wsTo_succ, leftL_g hc hC G (by omega)]
    omega
/-- The best cutter of the first ones, and its waste. -/
def bkTo (c : List Int) (K : List (List Int)) : Nat → Int × Int
  | 0 => (0, -1)
  | i + 1 => if (bkTo c K i).2 < 0 ∨ waste c (K.getD i []) < (bkTo c K i).2 then ((i : Int), waste c (K.getD i [])) else bkTo c K i
theorem bkTo_succ (c : List Int) (K : List (List Int)) (i : Nat) : bkTo c K (i + 1) = if (bkTo c K i).2 < 0 ∨ waste c (K.getD i []) < (bkTo c K i).2 then ((i : Int), waste c (K.getD i [])) else bkTo c K i := rfl
theorem getD_at {α : Type} {l : List α} {i : Int} {v d : α} (h : At l i v) : l.getD i.toNat d = v := by rw [List.getD_eq_getElem?_getD, h.get]; rfl
structure GoodKs (K : List (List Int)) : Prop where
  el : ∀ k ∈ K, GoodK k
theorem goodKs {K : List (List Int)} (hr : RngS K) (h : okKs K = true) : GoodKs K := ⟨fun k hk => goodK (hr.el k hk) (List.all_eq_true.1 h k hk)⟩
theorem bkTo_pos {c : List Int} {K : List (List Int)} (hc : 0 < c.length) (hC : ∀ v ∈ c, 0 ≤ v ∧ v ≤ 10000) (G : GoodKs K) : ∀ i, 0 < i → i ≤ K.length → 0 ≤ (bkTo c K i).2
  | 0, h, _ => by omega
  | i + 1, _, h => by
    have hm : K.getD i [] ∈ K := by
      obtain ⟨v, hv⟩ := at_of (l := K) (i := (i : Int)) (by omega) (by omega)
      have := getD_at (d := []) hv
      rw [Int.toNat_natCast] at this
      rw [this]; exact hv.mem
    have hw := (wsTo_bd hc hC (G.el _ hm) c.length (Nat.le_refl _)).1
    rw [bkTo_succ]
    split
    · exact hw
    · omega
def bcR (c : List Int) (K : List (List Int)) : R3 := if okC c = true then (if okKs K = true then (if inR (K.length : Int) 1 8 = true then ((bkTo c K K.length).1, (bkTo c K K.length).2, 0, ()) else (0, 0, 2, ())) else (0, 0, 1, ())) else (0, 0, 1, ())
end Go.Cams
