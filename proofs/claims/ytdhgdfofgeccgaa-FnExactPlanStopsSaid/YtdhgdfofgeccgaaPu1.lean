/- What the functions of cams and shafts compute, in plain terms. -/
import Derived.Test.YtdhgdfofgeccgaaFwC
namespace Go.Cams
open Go Go.Fw
abbrev Sft : Type := Int × (Int × (Int × ((List Int) × Unit)))

def inR (a b c : Int) : Bool := decide (b ≤ a ∧ a ≤ c)
def okV (v : Int) : Bool := inR (wr .i64 v) 0 10000
def okC (l : List Int) : Bool := inR (l.length : Int) 8 360 && l.all okV

/-! ### Validity -/
def fi {α : Type} (p : α → Bool) : List α → Int → Int
  | [], _ => -1
  | v :: r, i => if p v = true then i else fi p r (i + 1)
theorem fi_any {α : Type} (p : α → Bool) : ∀ (l : List α) (i : Int), 0 ≤ i → decide (fi p l i ≥ 0) = l.any p
  | [], i, _ => by simp [fi]
  | v :: r, i, h => by
    unfold fi
    by_cases hp : p v = true
    · simp [hp, h]
    · have hp' : p v = false := by simpa using hp
      simp [hp', fi_any p r (i + 1) (by omega)]

/-- A shaft that is valid. -/
def okS (s : Sft) : Bool := inR (wr .i64 s.1) 1 60 && inR (wr .i64 s.2.1) 1 60 && okC s.2.2.2.1 && inR (wr .i64 s.2.2.1) 0 (wr .i64 ((s.2.2.2.1.length : Int) - 1))
/-- What is known of a list of shafts. -/
def Small (l : List Sft) : Prop := (l.length : Int) ≤ 140737488351232 ∧ ∀ s ∈ l, (s.2.2.2.1.length : Int) ≤ 140737488351232
theorem Small.get {l : List Sft} (h : Small l) {i : Nat} {s : Sft} (hs : l[i]? = some s) : (s.2.2.2.1.length : Int) ≤ 140737488351232 := h.2 s (List.mem_of_getElem? hs)

def okA (l : List Sft) : Bool := inR (l.length : Int) 1 6 && l.all okS
/-! ### The greatest common divisor -/
/-! ### Periods -/
def gg (a b : Int) : Int := ((Nat.gcd a.toNat b.toNat : Nat) : Int)
theorem gg_pos {a b : Int} (ha : 0 < a) : 0 < gg a b := by
  have : 0 < Nat.gcd a.toNat b.toNat := Nat.gcd_pos_of_pos_left _ (by omega)
  unfold gg; omega
theorem gg_le {a b : Int} (ha : 0 < a) : gg a b ≤ a := by
  have : Nat.gcd a.toNat b.toNat ≤ a.toNat := Nat.gcd_le_left _ (by omega)
  unfold gg; omega
theorem div_pos_of {a g : Int} (hg : 0 < g) (h : g ≤ a) : 0 < Int.tdiv a g ∧ Int.tdiv a g ≤ a := by
  rw [Int.tdiv_eq_ediv_of_nonneg (by omega)]
  refine ⟨?_, Int.ediv_le_self _ (by omega)⟩
  have := (Int.le_ediv_iff_mul_le (a := 1) (b := a) hg).2 (by omega)
  omega

theorem bne_pos {a : Int} (h : 0 < a) : (a != 0) = true := by simp; omega
theorem inR_iff {a b c : Int} : inR a b c = true ↔ b ≤ a ∧ a ≤ c := by simp [inR]
structure Good (s : Sft) : Prop where
  num : 1 ≤ wr .i64 s.1 ∧ wr .i64 s.1 ≤ 60
  den : 1 ≤ wr .i64 s.2.1 ∧ wr .i64 s.2.1 ≤ 60
  len : 8 ≤ (s.2.2.2.1.length : Int) ∧ (s.2.2.2.1.length : Int) ≤ 360
  cam : ∀ v ∈ s.2.2.2.1, 0 ≤ wr .i64 v ∧ wr .i64 v ≤ 10000
  ph : 0 ≤ wr .i64 s.2.2.1 ∧ wr .i64 s.2.2.1 ≤ 360
theorem good_of {s : Sft} (h : okS s = true) : Good s := by
  simp only [okS, okC, Bool.and_eq_true, inR_iff, List.all_eq_true] at h
  obtain ⟨⟨⟨h1, h2⟩, h3, h4⟩, h5⟩ := h
  have hw : wr .i64 ((s.2.2.2.1.length : Int) - 1) = (s.2.2.2.1.length : Int) - 1 := wrap_id (by omega) (by omega)
  rw [hw] at h5
  exact ⟨h1, h2, h3, fun v hv => inR_iff.1 (h4 v hv), by omega⟩

def dl (s : Sft) : Int := wr .i64 (wr .i64 s.2.1 * (s.2.2.2.1.length : Int))
theorem dl_eq {s : Sft} (h : Good s) : 8 ≤ dl s ∧ dl s ≤ 21600 := by
  have h1 := h.den
  have h2 := h.len
  have a : wr .i64 s.2.1 * 8 ≤ wr .i64 s.2.1 * (s.2.2.2.1.length : Int) := Int.mul_le_mul_of_nonneg_left h2.1 (by omega)
  have b : wr .i64 s.2.1 * (s.2.2.2.1.length : Int) ≤ 60 * (s.2.2.2.1.length : Int) := Int.mul_le_mul_of_nonneg_right h1.2 (by omega)
  unfold dl
  rw [wrap_id (by omega) (by omega)]
  omega
def own (s : Sft) : Int := wr .i64 (Int.tdiv (dl s) (gg (dl s) (wr .i64 s.1)))
theorem own_eq {s : Sft} (h : Good s) : 1 ≤ own s ∧ own s ≤ 21600 := by
  have h1 := dl_eq h
  have hg := gg_pos (a := dl s) (b := wr .i64 s.1) (by omega)
  have hd := div_pos_of hg (gg_le (b := wr .i64 s.1) (show 0 < dl s by omega))
  unfold own
  rw [wrap_id (by omega) (by omega)]
  omega
/-- The common period, if it is short enough. -/
def nxt (t : Int) (s : Sft) : Int := wr .i64 (wr .i64 (Int.tdiv t (gg t (own s))) * own s)
def per : List Sft → Int → Option Int
  | [], t => some t
  | s :: r, t => if nxt t s > 20000 then none else per r (nxt t s)
theorem nxt_pos {t : Int} {s : Sft} (h : Good s) (h0 : 1 ≤ t) (h1 : t ≤ 20000) : 1 ≤ nxt t s := by
  have ho := own_eq h
  have hg := gg_pos (a := t) (b := own s) (by omega)
  have hd := div_pos_of hg (gg_le (b := own s) (show 0 < t by omega))
  unfold nxt
  rw [wrap_id (x := Int.tdiv t (gg t (own s))) (by omega) (by omega)]
  have a : 1 * own s ≤ Int.tdiv t (gg t (own s)) * own s := Int.mul_le_mul_of_nonneg_right (by omega) (by omega)
  have b : Int.tdiv t (gg t (own s)) * own s ≤ 20000 * own s := Int.mul_le_mul_of_nonneg_right (by omega) (by omega)
  rw [wrap_id (by omega) (by omega)]
  omega

theorem okA_good {l : List Sft} (h : okA l = true) : (1 ≤ (l.length : Int) ∧ (l.length : Int) ≤ 6) ∧ ∀ s ∈ l, Good s := by
  simp only [okA, Bool.and_eq_true, inR_iff, List.all_eq_true] at h
  exact ⟨h.1, fun s hs => good_of (h.2 s hs)⟩

def allR (l : List Sft) : (resTy [.ro (.int .i64), .ro (.int .i64)]).I := match per l 1 with | some t => (t, 0, ()) | none => (0, 3, ())
def perR (l : List Sft) : (resTy [.ro (.int .i64), .ro .bool]).I := match per l 1 with | some t => (t, true, ()) | none => (0, false, ())
/-! ### Codes -/
def fst0 : List Int → Int
  | [] => 0
  | v :: r => if v ≠ 0 then v else fst0 r
def codeR (l : List Sft) (room : Bool) : (resTy [.ro (.int .i64), .ro (.int .i64)]).I := if okA l = false then (0, 1, ()) else if room = false then (0, 2, ()) else allR l
/-! ### Lifts -/
def stp (s : Sft) (t : Int) : Int := Int.tmod (wr .i64 ((wr .i64 s.2.2.1) + (wr .i64 (Int.tdiv (wr .i64 (t * (wr .i64 s.1))) (wr .i64 s.2.1))))) (s.2.2.2.1.length : Int)
def lift (s : Sft) (t : Int) : Int := match idx s.2.2.2.1 (stp s t) with | some v => wr .i64 v | none => 0
theorem lift_eq {s : Sft} (h : Good s) {t : Int} (h0 : 0 ≤ t) (h1 : t ≤ 20000) : (∃ v, idx s.2.2.2.1 (stp s t) = some v ∧ lift s t = wr .i64 v) ∧ 0 ≤ lift s t ∧ lift s t ≤ 10000 := by
  have hn := h.num
  have hd := h.den
  have hl := h.len
  have hp := h.ph
  have a : 0 * wr .i64 s.1 ≤ t * wr .i64 s.1 := Int.mul_le_mul_of_nonneg_right h0 (by omega)
  have b : t * wr .i64 s.1 ≤ 20000 * wr .i64 s.1 := Int.mul_le_mul_of_nonneg_right h1 (by omega)
  have e1 : wr .i64 (t * wr .i64 s.1) = t * wr .i64 s.1 := wrap_id (by omega) (by omega)
  have e2 : 0 ≤ Int.tdiv (t * wr .i64 s.1) (wr .i64 s.2.1) := Int.tdiv_nonneg (by omega) (by omega)
  have e3 : Int.tdiv (t * wr .i64 s.1) (wr .i64 s.2.1) ≤ t * wr .i64 s.1 := by
    rw [Int.tdiv_eq_ediv_of_nonneg (by omega)]
    exact Int.ediv_le_self _ (by omega)
  have e4 : stp s t = Int.tmod (wr .i64 s.2.2.1 + Int.tdiv (t * wr .i64 s.1) (wr .i64 s.2.1)) (s.2.2.2.1.length : Int) := by
    unfold stp
    rw [e1, wrap_id (x := Int.tdiv _ _) (by omega) (by omega), wrap_id (by omega) (by omega)]
  have e5 : 0 ≤ stp s t := by rw [e4]; exact Int.tmod_nonneg _ (by omega)
  have e6 : stp s t < (s.2.2.2.1.length : Int) := by rw [e4]; exact Int.tmod_lt_of_pos _ (by omega)
  obtain ⟨v, hv, hv'⟩ := idx_at e5 e6
  have hc := h.cam v (List.mem_of_getElem? hv')
  have : lift s t = wr .i64 v := by unfold lift; rw [hv]
  exact ⟨⟨v, hv, this⟩, by omega, by omega⟩
theorem den_ne {s : Sft} (h : Good s) : (wr .i64 s.2.1 != 0) = true := bne_pos (by have := h.den; omega)
theorem len_ne {s : Sft} (h : Good s) : (((s.2.2.2.1.length : Nat) : Int) != 0) = true := bne_pos (by have := h.len; omega)
/-! ### Copies -/
theorem set_take {α : Type} {l : List α} {i : Nat} {v z : α} (h : l[i]? = some v) : (l.take i ++ List.replicate (l.length - i) z).set i v = l.take (i + 1) ++ List.replicate (l.length - (i + 1)) z := by
  obtain ⟨hlt, e⟩ := List.getElem?_eq_some_iff.1 h
  have h1 : (l.take i).length = i := by simp; omega
  rw [List.set_append_right _ _ (by omega), h1, Nat.sub_self]
  rw [show l.length - i = (l.length - (i + 1)) + 1 by omega, List.replicate_succ, List.set_cons_zero]
  rw [List.take_add_one, h]
  simp
/-! ### Equal to itself -/
/-! ### Sizes -/
def sz1 (l : List Int) (a : Int) : Int := if wr .i64 (a - (l.length : Int)) < 0 then -1 else wr .i64 (a - (l.length : Int))
def sz (s : Sft) (a : Int) : Int := if sz1 s.2.2.2.1 a < 0 then -1 else sz1 s.2.2.2.1 a
def szf : List Sft → Int → Int
  | [], a => a
  | s :: r, a => if sz s a < 0 then -1 else szf r (sz s a)
/-! ### All lifts -/
/-! ### The search -/
theorem per_le : ∀ {l : List Sft} {t p : Int}, (∀ s ∈ l, Good s) → 1 ≤ t → t ≤ 20000 → per l t = some p → 1 ≤ p ∧ p ≤ 20000
  | [], t, p, _, h0, h1, h => by simp [per] at h; omega
  | s :: r, t, p, hG, h0, h1, h => by
    simp only [per] at h
    split at h
    · cases h
    · rename_i hn
      exact per_le (fun s hs => hG s (by simp [hs])) (nxt_pos (hG s (by simp)) h0 h1) (by omega) h
theorem code_ok {l : List Sft} {room : Bool} (h : (codeR l room).2.1 = (0 : Int)) : okA l = true ∧ (0 : Int) ≤ (codeR l room).1 ∧ (codeR l room).1 ≤ (20000 : Int) := by
  unfold codeR at h ⊢
  split at h
  · exact absurd h (by decide)
  · rename_i h1
    split at h
    · exact absurd h (by decide)
    · rename_i h2
      have hok : okA l = true := by simpa using h1
      unfold allR at h
      cases hp : per l 1 with
      | none => rw [hp] at h; exact absurd h (by decide)
      | some p =>
        have := per_le (okA_good hok).2 (by omega) (by omega) hp
        refine ⟨hok, ?_⟩
        rw [if_neg h1, if_neg h2]
        unfold allR
        rw [hp]
        show (0 : Int) ≤ p ∧ p ≤ 20000
        omega
def sc (a t : Int) : List Sft → Int → Option Int
  | s :: u :: r, i => if lift s t + lift u t > a then some i else sc a t (u :: r) (i + 1)
  | _, _ => none
abbrev R4 : Type := Int × Int × Int × Int × Unit
def fc (l : List Sft) (a : Int) : Nat → Int → R4
  | 0, _ => (0, 0, 0, 6, ())
  | d + 1, t => match sc a t l 0 with
    | some i => (t, i, i + 1, 0, ())
    | none => fc l a d (t + 1)
def ans (l : List Sft) (a : Int) : R4 := if (codeR l (inR a 0 20000)).2.1 ≠ (0 : Int) then (0, 0, 0, (codeR l (inR a 0 20000)).2.1, ()) else fc l a (Int.toNat (codeR l (inR a 0 20000)).1) 0
theorem idx_map {l : List Sft} {t i : Int} {v : Sft} (h : idx l i = some v) : idx (l.map (lift · t)) i = some (lift v t) := by
  unfold idx at h ⊢
  split at h
  · rename_i h0
    rw [if_pos h0, List.getElem?_map, h]
    rfl
  · cases h
end Go.Cams
