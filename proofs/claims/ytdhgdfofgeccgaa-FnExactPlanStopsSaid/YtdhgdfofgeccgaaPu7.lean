/- Events, in plain terms. -/
import Derived.Test.YtdhgdfofgeccgaaPu6
namespace Go.Cams
open Go Go.Fw
abbrev Evn : Type := Int × (Int × Unit)
def evOn (s : Sft) (lv t q : Int) : Bool := decide (lift s t ≥ lv) && decide (lift s q < lv)
def evR (lv t q : Int) : List Sft → Int → List Evn
  | [], _ => []
  | s :: r, i => (if evOn s lv t q = true then [(t, i, ())] else []) ++ evR lv t q r (i + 1)
theorem evR_snoc (lv t q : Int) : ∀ (a : List Sft) (s : Sft) (i : Int), evR lv t q (a ++ [s]) i = evR lv t q a i ++ (if evOn s lv t q = true then [(t, i + a.length, ())] else [])
  | [], s, i => by simp [evR]
  | x :: r, s, i => by
    show evR lv t q (x :: (r ++ [s])) i = _
    unfold evR
    rw [evR_snoc lv t q r, List.append_assoc]
    simp only [List.length_cons]
    rw [show i + 1 + (r.length : Int) = i + ((r.length + 1 : Nat) : Int) by omega]
theorem evR_len (lv t q : Int) : ∀ (a : List Sft) (i : Int), (evR lv t q a i).length ≤ a.length
  | [], _ => by simp [evR]
  | x :: r, i => by
    unfold evR
    have := evR_len lv t q r (i + 1)
    split <;> simp <;> omega
def evA (l : List Sft) (lv p : Int) (n : Nat) : List Evn := (List.range n).flatMap fun k => evR lv (k : Nat) (Int.tmod ((k : Nat) + p - 1) p) l 0
theorem evA_succ (l : List Sft) (lv p : Int) {i : Int} (h : 0 ≤ i) : evA l lv p (i + 1).toNat = evA l lv p i.toNat ++ evR lv i (Int.tmod (i + p - 1) p) l 0 := by
  rw [show (i + 1).toNat = i.toNat + 1 by omega]
  simp only [evA, List.range_succ, List.flatMap_append, List.flatMap_cons, List.flatMap_nil, List.append_nil]
  rw [show ((i.toNat : Nat) : Int) = i by omega]
theorem evA_len (l : List Sft) (lv p : Int) : ∀ n, (evA l lv p n).length ≤ n * l.length
  | 0 => by simp [evA]
  | n + 1 => by
    have h := evA_len l lv p n
    have e : evA l lv p (n + 1) = evA l lv p n ++ evR lv (n : Nat) (Int.tmod ((n : Nat) + p - 1) p) l 0 := by simp [evA, List.range_succ]
    have := evR_len lv (n : Nat) (Int.tmod ((n : Nat) + p - 1) p) l 0
    rw [e, List.length_append, Nat.add_mul]
    omega
def evRes (l : List Sft) (lv : Int) : List Evn × (Int × Unit) := if (codeR l (inR lv 0 20000)).2.1 ≠ (0 : Int) then ([], (codeR l (inR lv 0 20000)).2.1, ()) else (evA l lv (codeR l (inR lv 0 20000)).1 (Int.toNat (codeR l (inR lv 0 20000)).1), 0, ())
theorem evRes_len (l : List Sft) (lv : Int) : ((evRes l lv).1.length : Int) ≤ 120000 := by
  unfold evRes
  split
  · simp
  · rename_i h
    have := code_ok (l := l) (room := inR lv 0 20000) (by simpa using h)
    have hl := (okA_good this.1).1
    have h2 := this.2
    show ((evA l lv _ _).length : Int) ≤ 120000
    generalize (codeR l (inR lv 0 20000)).1 = p at h2
    change Int at p
    have a : (0 : Int) ≤ p := h2.1
    have b : p ≤ (20000 : Int) := h2.2
    have h3 := evA_len l lv p p.toNat
    have h4 : p.toNat * l.length ≤ 20000 * 6 := Nat.mul_le_mul (by omega) (by omega)
    omega
/-- The tick ahead of one, round the period. -/
theorem prev_zero {p : Int} (h : 0 < p) : Int.tmod (0 + p - 1) p = p - 1 := by
  rw [Int.tmod_eq_emod_of_nonneg (by omega)]
  exact Int.emod_eq_of_lt (by omega) (by omega) |>.trans (by omega)
theorem prev_pos {t p : Int} (h0 : 0 < t) (h1 : t < p) : Int.tmod (t + p - 1) p = t - 1 := by
  rw [Int.tmod_eq_emod_of_nonneg (by omega), show t + p - 1 = (t - 1) + p by omega, Int.add_emod_right]
  exact Int.emod_eq_of_lt (by omega) (by omega)
theorem prev_bd {t p : Int} (h0 : 0 ≤ t) (h1 : t < p) : 0 ≤ Int.tmod (t + p - 1) p ∧ Int.tmod (t + p - 1) p < p := by
  by_cases h : t = 0
  · subst h; rw [prev_zero h1]; omega
  · rw [prev_pos (by omega) h1]; omega
/-! ### Marks on events -/
def mkE (n : Nat) (k : Int) : List Evn := (List.range n).map fun i => (k + 2 * (i : Nat), k + 2 * (i : Nat) + 1, ())
theorem mkE_len (n : Nat) (k : Int) : (mkE n k).length = n := by simp [mkE]
theorem mkE_succ (n : Nat) (k : Int) : mkE (n + 1) k = mkE n k ++ [(k + 2 * (n : Nat), k + 2 * (n : Nat) + 1, ())] := by simp [mkE, List.range_succ]
theorem mkE_at (n : Nat) (k : Int) {i : Int} {v : Evn} (h : At (mkE n k) i v) (h0 : 0 ≤ i) : v.1 = k + 2 * i ∧ v.2.1 = k + 2 * i + 1 := by
  have := h.get
  unfold mkE at this
  rw [List.getElem?_map] at this
  obtain ⟨j, hj, e⟩ := Option.map_eq_some_iff.1 this
  obtain ⟨hlt, e2⟩ := List.getElem?_eq_some_iff.1 hj
  simp at e2
  rw [← e, ← e2]
  simp only
  omega
end Go.Cams
namespace Go.Cams
open Go Go.Fw
theorem prev_next {t p : Int} (h0 : 0 ≤ t) (h1 : t < p) : Int.tmod (t + 1 + p - 1) p = t := by
  rw [Int.tmod_eq_emod_of_nonneg (by omega), show t + 1 + p - 1 = t + p by omega, Int.add_emod_right]
  exact Int.emod_eq_of_lt (by omega) (by omega)
theorem code_pos {l : List Sft} {room : Bool} (h : (codeR l room).2.1 = (0 : Int)) : (1 : Int) ≤ (codeR l room).1 := by
  have hok := (code_ok h).1
  have hr := codeR_room h
  subst hr
  unfold codeR at h ⊢
  rw [if_neg (by simp [hok]), if_neg (by simp)] at h ⊢
  unfold allR at h ⊢
  cases hp : per l 1 with
  | none => rw [hp] at h; exact absurd h (by decide)
  | some p => exact (per_le (okA_good hok).2 (by omega) (by omega) hp).1
theorem evA_bd {l : List Sft} (hl : l.length ≤ 6) (lv p : Int) {t : Int} (h0 : 0 ≤ t) (h1 : t ≤ 20000) : (evA l lv p t.toNat).length ≤ 120000 := by
  have h3 := evA_len l lv p t.toNat
  have h4 : t.toNat * l.length ≤ 20000 * 6 := Nat.mul_le_mul (by omega) hl
  omega
theorem evR_bd {l : List Sft} (hl : l.length ≤ 6) (lv t q : Int) (i : Nat) : (evR lv t q (l.take i) 0).length ≤ 6 := by
  have := evR_len lv t q (l.take i) 0
  rw [List.length_take] at this
  omega
end Go.Cams
