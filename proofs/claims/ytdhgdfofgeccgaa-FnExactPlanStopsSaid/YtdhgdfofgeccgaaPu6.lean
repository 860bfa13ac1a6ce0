/- Two machines in one, in plain terms. -/
import Derived.Test.YtdhgdfofgeccgaaPu5
namespace Go.Cams
open Go Go.Fw
def lst (l : List Int) : Int := (idx l ((l.length : Int) - 1)).getD 0
theorem lst_at {l : List Int} (h : 0 < (l.length : Int)) : At l ((l.length : Int) - 1) (lst l) := by
  obtain ⟨v, hv⟩ := at_of (l := l) (i := (l.length : Int) - 1) (by omega) (by omega)
  have : lst l = v := by unfold lst; rw [hv.idx]; rfl
  rw [this]; exact hv
def thenL (a b : List Int) (x y : Int) : List Int := ((a ++ [x]) ++ b) ++ [y]
theorem thenL_len (a b : List Int) (x y : Int) : (thenL a b x y).length = a.length + b.length + 2 := by simp [thenL]; omega
theorem thenL_flat (a b : List Int) (x y : Int) : [a ++ [x], b ++ [y]].flatten = thenL a b x y := by simp [thenL]
def btM (m k : Mch) : Mch := (thenL m.1 k.1 (lst m.1) (lst k.1), thenL m.2.1 k.2.1 (lst m.2.1) (lst k.2.1), thenL m.2.2.1 k.2.2.1 1 1, ())
def btR (m k : Mch) : Mch × (Int × Unit) := if (!okM m) = true then (([], [], [], ()), 1, ()) else if (!okM k) = true then (([], [], [], ()), 1, ()) else if (m.1.length : Int) + k.1.length + 2 > 360 then (([], [], [], ()), 3, ()) else (btM m k, 0, ())
theorem btR_small (m k : Mch) : ((btR m k).1.1.length : Int) ≤ 1000 ∧ ((btR m k).1.2.1.length : Int) ≤ 1000 ∧ ((btR m k).1.2.2.1.length : Int) ≤ 1000 := by
  unfold btR
  split
  · simp
  split
  · simp
  rename_i h1 h2
  have g1 := goodM (m := m) (by simpa using h1)
  have g2 := goodM (m := k) (by simpa using h2)
  have a1 := okC_len g1.x
  have a2 := okC_len g1.y
  have a3 := okC_len g1.p
  have b1 := okC_len g2.x
  have b2 := okC_len g2.y
  have b3 := okC_len g2.p
  split
  · simp
  simp only [btM, thenL_len]
  omega
end Go.Cams
