/- Machines that are made of stops, in plain terms. -/
import Derived.Test.YtdhgdfofgeccgaaPu14
namespace Go.Cams
open Go Go.Fw
def gS (l : List Stp) (i : Nat) : Stp := l.getD i (o0, false, ())
theorem gS_idx {l : List Stp} {i : Int} (h0 : 0 ≤ i) (h1 : i < l.length) : At l i (gS l i.toNat) := by
  obtain ⟨v, hv⟩ := at_of (l := l) h0 h1
  have : gS l i.toNat = v := getD_at hv
  rw [this]; exact hv
theorem gS_out {l : List Stp} {i : Nat} (h : l.length ≤ i) : gS l i = (o0, false, ()) := by
  unfold gS
  rw [List.getD_eq_getElem?_getD, List.getElem?_eq_none h]; rfl
def pen (v : Stp) : Int := if v.2.1 = true then 0 else 1
def mfR (l : List Stp) (n : Nat) : Mch := ((List.range n).map fun i => g (gS l i).1 0, (List.range n).map fun i => g (gS l i).1 1, (List.range n).map fun i => pen (gS l i), ())
theorem mfR_succ (l : List Stp) (n : Nat) : mfR l (n + 1) = ((mfR l n).1 ++ [g (gS l n).1 0], (mfR l n).2.1 ++ [g (gS l n).1 1], (mfR l n).2.2.1 ++ [pen (gS l n)], ()) := by simp [mfR, List.range_succ]
def csR (K : List Stk) (most : Int) : Mch × (Int × Unit) := if (psR K most).2.1 ≠ 0 then (([], [], [], ()), (psR K most).2.1, ()) else (mfR (psR K most).1 (max 8 (psR K most).1.length), 0, ())
theorem csR_small (K : List Stk) (most : Int) : ((csR K most).1.1.length : Int) ≤ 360 ∧ ((csR K most).1.2.1.length : Int) ≤ 360 ∧ ((csR K most).1.2.2.1.length : Int) ≤ 360 := by
  have := psR_len K most
  unfold csR
  split
  · exact ⟨by simp, by simp, by simp⟩
  · refine ⟨?_, ?_, ?_⟩ <;> simp [mfR] <;> omega
end Go.Cams
