/- Clashes of two shafts, in plain terms. -/
import Derived.Test.YtdhgdfofgeccgaaPu1
namespace Go.Cams
open Go Go.Fw
def isAt (l : List Sft) (i : Int) : Bool := inR i 0 (wr .i64 ((l.length : Int) - 1))
theorem isAt_iff {l : List Sft} (h : okA l = true) {i : Int} : isAt l i = true ↔ 0 ≤ i ∧ i < (l.length : Int) := by
  have hG := (okA_good h).1
  rw [isAt, wrap_id (by omega) (by omega), inR_iff]
  omega
/-- A shaft with another phase. -/
def withP (s : Sft) (p : Int) : Sft := (s.1, s.2.1, p, s.2.2.2)
theorem Good.withP {s : Sft} (h : Good s) {p : Int} (h0 : 0 ≤ p) (h1 : p ≤ 360) : Good (withP s p) :=
  ⟨h.num, h.den, h.len, h.cam, by show 0 ≤ wr .i64 p ∧ wr .i64 p ≤ 360; rw [wrap_id (by omega) (by omega)]; omega⟩
theorem withP_self (s : Sft) : withP s s.2.2.1 = s := rfl
theorem lift_wr {s : Sft} (h : Good s) (t : Int) : lift (Cams.withP s (wr .i64 s.2.2.1)) t = lift s t := by
  have hp := h.ph
  unfold lift stp Cams.withP
  simp only [wrap_id (x := wr .i64 s.2.2.1) (by omega) (by omega)]
/-- The clashes ahead of a tick. -/
def cnt (s u : Sft) (a : Int) : Nat → Int
  | 0 => 0
  | k + 1 => if lift s k + lift u k > a then cnt s u a k + 1 else cnt s u a k
theorem cnt_le (s u : Sft) (a : Int) : ∀ k : Nat, 0 ≤ cnt s u a k ∧ cnt s u a k ≤ k
  | 0 => by simp [cnt]
  | k + 1 => by
    have := cnt_le s u a k
    unfold cnt
    split <;> omega
theorem cnt_step (s u : Sft) (a : Int) {i : Int} (h0 : 0 ≤ i) : cnt s u a (i + 1).toNat = if lift s i + lift u i > a then cnt s u a i.toNat + 1 else cnt s u a i.toNat := by
  obtain ⟨k, rfl⟩ : ∃ k : Nat, i = k := ⟨i.toNat, by omega⟩
  show cnt s u a (k + 1) = _
  rfl
theorem cnt_wr {u : Sft} (h : Good u) (s : Sft) (a : Int) : ∀ k : Nat, cnt s (Cams.withP u (wr .i64 u.2.2.1)) a k = cnt s u a k
  | 0 => rfl
  | k + 1 => by simp only [cnt, lift_wr h, cnt_wr h s a k]
/-- What is known of the arguments of a law. -/
abbrev SftTy : Ty := .pair (.int .i16) (.pair (.int .i16) (.pair (.int .i16) (.pair (.slc (.int .i16)) .unit)))
theorem shaftsDom1 {l : List Sft} (h : Dom (.slc SftTy) l) : (l.length : Int) * 32 ≤ 140737488351232 := Int.ofNat_le.2 h.1
theorem shaftsDom2 {l : List Sft} (h : Dom (.slc SftTy) l) : ∀ s ∈ l, (s.2.2.2.1.length : Int) * 2 ≤ 140737488351232 := fun s hs => Int.ofNat_le.2 (h.2 s hs).2.2.2.1.1
abbrev R2 : Type := Int × Int × Unit
/-- How many clashes two shafts of a set have. -/
def clashR (l : List Sft) (i k a : Int) : R2 :=
  if (codeR l (isAt l i && isAt l k && inR a 0 20000)).2.1 ≠ (0 : Int) then (0, (codeR l (isAt l i && isAt l k && inR a 0 20000)).2.1, ())
  else if i = k then (0, 4, ())
  else match idx l i, idx l k with
    | some s, some u => (cnt s u a (Int.toNat (codeR l (isAt l i && isAt l k && inR a 0 20000)).1), 0, ())
    | _, _ => (0, 0, ())
theorem codeR_room {l : List Sft} {room : Bool} (h : (codeR l room).2.1 = (0 : Int)) : room = true := by
  cases room with
  | true => rfl
  | false =>
    exfalso
    unfold codeR at h
    split at h
    · exact absurd h (by decide)
    · rw [if_pos rfl] at h
      exact absurd h (by decide)
end Go.Cams
