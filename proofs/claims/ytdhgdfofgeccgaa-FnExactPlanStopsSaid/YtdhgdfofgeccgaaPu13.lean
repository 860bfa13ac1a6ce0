/- Plans of cuts, in plain terms. -/
import Derived.Test.YtdhgdfofgeccgaaPu12
namespace Go.Cams
open Go Go.Fw
/-- A layer of cuts ahead of a step. -/
def la (t : List Int) (above layer w : Int) : Nat → List Ct → Option (List Ct)
  | 0, o => some o
  | s + 1, o => (la t above layer w s o).bind fun o => if g t s ≥ above then some o else if o.length = 400 then none else some (o ++ [((s : Int), max layer (g t s), w, ())])
theorem la_len (t : List Int) (above layer w : Int) : ∀ s o o', o.length ≤ 400 → la t above layer w s o = some o' → o'.length ≤ 400
  | 0, o, o', h, e => by
    simp only [la, Option.some.injEq] at e
    subst e; exact h
  | s + 1, o, o', h, e => by
    simp only [la] at e
    cases hl : la t above layer w s o with
    | none => rw [hl] at e; cases e
    | some p =>
      have hp := la_len t above layer w s o p h hl
      rw [hl] at e
      simp only [Option.bind_some] at e
      split at e
      · cases e; exact hp
      · split at e
        · cases e
        · cases e
          simp only [List.length_append, List.length_cons, List.length_nil]
          omega
theorem la_none (t : List Int) (above layer w : Int) {s : Nat} {o : List Ct} (h : la t above layer w s o = none) : ∀ u, s ≤ u → la t above layer w u o = none
  | 0, hu => by have : s = 0 := by omega
                subst this; exact h
  | u + 1, hu => by
    by_cases e : s = u + 1
    · subst e; exact h
    · simp only [la]
      rw [la_none t above layer w h u (by omega)]; rfl
abbrev R3' : Type := List Ct × (Int × Unit)
/-- Layers, from a height down. -/
def pl (t : List Int) (deep w : Int) : Nat → Int → List Ct → R3'
  | 0, _, _ => ([], 3, ())
  | f + 1, above, o => match la t above (max (above - deep) 0) w t.length o with
    | none => ([], 3, ())
    | some p => if max (above - deep) 0 ≤ mnL t then (p, 0, ()) else pl t deep w f (max (above - deep) 0) p
theorem pl_len (t : List Int) (deep w : Int) : ∀ f above o, o.length ≤ 400 → (pl t deep w f above o).1.length ≤ 400
  | 0, _, _, _ => by simp [pl]
  | f + 1, above, o, h => by
    unfold pl
    split
    · simp
    · rename_i p hp
      have := la_len _ _ _ _ _ _ _ h hp
      split
      · exact this
      · exact pl_len t deep w f _ _ this
def pcCode (c : List Int) (high : Int) (K : List (List Int)) (w deep : Int) : Int :=
  if (okC c && inR (K.length : Int) 1 8 && okKs K) = false then 1 else if (inR high 0 10000 && inR w 0 ((K.length : Int) - 1) && inR deep 1 10000) = false then 2 else if mxL c > high then 4 else 0
def pcR (c : List Int) (high : Int) (K : List (List Int)) (w deep : Int) : R3' := if pcCode c high K w deep ≠ 0 then ([], pcCode c high K w deep, ()) else pl (tipsL c (K.getD w.toNat []) c.length) deep w (high.toNat + 1) high []
theorem pcR_len (c : List Int) (high : Int) (K : List (List Int)) (w deep : Int) : (pcR c high K w deep).1.length ≤ 400 := by
  unfold pcR
  split
  · simp
  · exact pl_len _ _ _ _ _ _ (by simp)
structure GoodP (c : List Int) (high : Int) (K : List (List Int)) (w deep : Int) : Prop where
  hc : okC c = true
  hk : okKs K = true
  n : 1 ≤ (K.length : Int) ∧ (K.length : Int) ≤ 8
  hi : 0 ≤ high ∧ high ≤ 10000
  w : 0 ≤ w ∧ w < (K.length : Int)
  d : 1 ≤ deep ∧ deep ≤ 10000
theorem goodP {c : List Int} {high : Int} {K : List (List Int)} {w deep : Int} (h1 : (okC c && inR (K.length : Int) 1 8 && okKs K) = true) (h2 : (inR high 0 10000 && inR w 0 ((K.length : Int) - 1) && inR deep 1 10000) = true) : GoodP c high K w deep := by
  simp only [Bool.and_eq_true, inR_iff] at h1 h2
  exact ⟨h1.1.1, h1.2, h1.1.2, h2.1.1, ⟨h2.1.2.1, by omega⟩, h2.2⟩
theorem tipsL_el {c k : List Int} (hl0 : 0 < c.length) (hC : ∀ v ∈ c, 0 ≤ v ∧ v ≤ 10000) (G : GoodK k) : ∀ v ∈ tipsL c k c.length, 0 ≤ v ∧ v ≤ 10000 := by
  intro v hv
  simp only [tipsL, List.mem_map, List.mem_range] at hv
  obtain ⟨s, hs, rfl⟩ := hv
  exact tipTo_bd hl0 hC G.el _ _ (Nat.le_refl _)
/-- Cutters with marks. -/
def mkKs : List (List Int) → Int → List (List Int)
  | [], _ => []
  | r :: l, k => mkL (wr .i16) r.length k :: mkKs l (k + r.length)
theorem mkKs_snoc : ∀ (l : List (List Int)) (v : List Int) (k : Int), mkKs (l ++ [v]) k = mkKs l k ++ [mkL (wr .i16) v.length (k + totL l)]
  | [], v, k => by simp [mkKs, totL]
  | r :: l, v, k => by
    have := mkKs_snoc l v (k + r.length)
    simp only [List.cons_append, mkKs, this, totL_cons, Int.add_assoc]
end Go.Cams
