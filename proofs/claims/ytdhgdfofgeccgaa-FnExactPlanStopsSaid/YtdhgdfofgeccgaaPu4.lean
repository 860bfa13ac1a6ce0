/- Best phases and sums of lifts, in plain terms. -/
import Derived.Test.YtdhgdfofgeccgaaPu3
namespace Go.Cams
open Go Go.Fw
theorem wrap16 {x : Int} (h1 : -32768 ≤ x) (h2 : x ≤ 32767) : wr .i16 x = x := by
  show IntKind.i16.wrap x = x
  simp [IntKind.wrap, IntKind.bits, IntKind.signed]
  omega
/-- The best phase among the first ones, and how many clashes there are with it. -/
def bst (s u : Sft) (a p : Int) : Nat → Int × Int
  | 0 => (0, p + 1)
  | k + 1 => if cnt s (withP u k) a p.toNat < (bst s u a p k).2 then ((k : Int), cnt s (withP u k) a p.toNat) else bst s u a p k
theorem bst_step (s u : Sft) (a p : Int) {i : Int} (h0 : 0 ≤ i) : bst s u a p (i + 1).toNat = if cnt s (withP u i) a p.toNat < (bst s u a p i.toNat).2 then (i, cnt s (withP u i) a p.toNat) else bst s u a p i.toNat := by
  obtain ⟨k, rfl⟩ : ∃ k : Nat, i = k := ⟨i.toNat, by omega⟩
  show bst s u a p (k + 1) = _
  rfl
abbrev R3 : Type := Int × Int × Int × Unit
def bestR (l : List Sft) (i k a : Int) : R3 :=
  if (codeR l (isAt l i && isAt l k && inR a 0 20000)).2.1 ≠ (0 : Int) then (0, 0, (codeR l (isAt l i && isAt l k && inR a 0 20000)).2.1, ())
  else if i = k then (0, 0, 4, ())
  else match idx l i, idx l k with
    | some s, some u => ((bst s u a (codeR l (isAt l i && isAt l k && inR a 0 20000)).1 u.2.2.2.1.length).1, (bst s u a (codeR l (isAt l i && isAt l k && inR a 0 20000)).1 u.2.2.2.1.length).2, 0, ())
    | _, _ => (0, 0, 0, ())
/-- Sums of lifts. -/
def sumL (l : List Sft) (t : Int) : Int := (l.map (lift · t)).sum
theorem sumL_snoc (l : List Sft) (s : Sft) (t : Int) : sumL (l ++ [s]) t = sumL l t + lift s t := by simp [sumL]
theorem sumL_le {l : List Sft} (hG : ∀ s ∈ l, Good s) {t : Int} (h0 : 0 ≤ t) (h1 : t ≤ 20000) : 0 ≤ sumL l t ∧ sumL l t ≤ 10000 * l.length := by
  induction l with
  | nil => simp [sumL]
  | cons s r ih =>
    have h2 := (lift_eq (hG s (by simp)) h0 h1).2
    have h3 := ih fun x hx => hG x (by simp [hx])
    have : sumL (s :: r) t = lift s t + sumL r t := by simp [sumL]
    rw [this]
    simp only [List.length_cons]
    omega
def sums (l : List Sft) (n : Nat) : List Int := (List.range n).map fun j => sumL l (j : Nat)
theorem sums_len (l : List Sft) (n : Nat) : (sums l n).length = n := by simp [sums]
theorem sums_succ (l : List Sft) {i : Int} (h : 0 ≤ i) : sums l (i + 1).toNat = sums l i.toNat ++ [sumL l i] := by
  rw [show (i + 1).toNat = i.toNat + 1 by omega]
  simp only [sums, List.range_succ, List.map_append, List.map_cons, List.map_nil]
  rw [show ((i.toNat : Nat) : Int) = i by omega]
def sumR (l : List Sft) : List Int × (Int × Unit) := if (codeR l true).2.1 ≠ (0 : Int) then ([], (codeR l true).2.1, ()) else (sums l (Int.toNat (codeR l true).1), 0, ())
theorem sumR_len (l : List Sft) : ((sumR l).1.length : Int) ≤ 20000 := by
  unfold sumR
  split
  · simp
  · rename_i h
    have := code_ok (l := l) (room := true) (by simpa using h)
    have h2 := this.2
    show ((sums l _).length : Int) ≤ 20000
    rw [sums_len]
    generalize (codeR l true).1 = p at h2
    change Int at p
    have a : (0 : Int) ≤ p := h2.1
    have b : p ≤ (20000 : Int) := h2.2
    omega
end Go.Cams
