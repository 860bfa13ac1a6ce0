/- What the functions compute, in plain terms: definitions and laws of lists and numbers, no program in sight. -/
import Derived.Test.YtgmkcekfpmdhoaaFwC
import Derived.Lib.TrailingZeros
import Derived.Lib.ItoaLen
import Derived.Lib.ItoaMem
import Derived.Lib.Join
import Derived.Lib.ParseIntB
import Derived.Lib.Split
import Derived.Lib.SplitLaws
import Derived.Lib.ItoaNum
import Derived.Lib.Bytealg
import Derived.Lib.IndexMore
import Derived.Laws.Strings
/- What the functions of cams and shafts compute, in plain terms. -/
namespace Go.Cams
open Go Go.Fw
abbrev Sft : Type := Int × (Int × (Int × ((List Int) × Unit)))

def inR (a b c : Int) : Bool := decide (b ≤ a ∧ a ≤ c)
def okV (v : Int) : Bool := inR (wr .i64 v) 0 10000
def okC (l : List Int) : Bool := inR (l.length : Int) 8 360 && l.all okV

/-! ### Validity -/
def fi {α : Type} (p : α → Bool) : List α → Int → Int
  | [], _ => -1
  | v :: r, i => if p v = true then i else fi p r (i + 1)
theorem fi_any {α : Type} (p : α → Bool) : ∀ (l : List α) (i : Int), 0 ≤ i → decide (fi p l i ≥ 0) = l.any p
  | [], i, _ => by simp [fi]
  | v :: r, i, h => by
    unfold fi
    by_cases hp : p v = true
    · simp [hp, h]
    · have hp' : p v = false := by simpa using hp
      simp [hp', fi_any p r (i + 1) (by omega)]

/-- A shaft that is valid. -/
def okS (s : Sft) : Bool := inR (wr .i64 s.1) 1 60 && inR (wr .i64 s.2.1) 1 60 && okC s.2.2.2.1 && inR (wr .i64 s.2.2.1) 0 (wr .i64 ((s.2.2.2.1.length : Int) - 1))
/-- What is known of a list of shafts. -/
def Small (l : List Sft) : Prop := (l.length : Int) ≤ 140737488351232 ∧ ∀ s ∈ l, (s.2.2.2.1.length : Int) ≤ 140737488351232
theorem Small.get {l : List Sft} (h : Small l) {i : Nat} {s : Sft} (hs : l[i]? = some s) : (s.2.2.2.1.length : Int) ≤ 140737488351232 := h.2 s (List.mem_of_getElem? hs)

def okA (l : List Sft) : Bool := inR (l.length : Int) 1 6 && l.all okS
/-! ### The greatest common divisor -/
/-! ### Periods -/
def gg (a b : Int) : Int := ((Nat.gcd a.toNat b.toNat : Nat) : Int)
theorem gg_pos {a b : Int} (ha : 0 < a) : 0 < gg a b := by
  have : 0 < Nat.gcd a.toNat b.toNat := Nat.gcd_pos_of_pos_left _ (by omega)
  unfold gg; omega
theorem gg_le {a b : Int} (ha : 0 < a) : gg a b ≤ a := by
  have : Nat.gcd a.toNat b.toNat ≤ a.toNat := Nat.gcd_le_left _ (by omega)
  unfold gg; omega
theorem div_pos_of {a g : Int} (hg : 0 < g) (h : g ≤ a) : 0 < Int.tdiv a g ∧ Int.tdiv a g ≤ a := by
  rw [Int.tdiv_eq_ediv_of_nonneg (by omega)]
  refine ⟨?_, Int.ediv_le_self _ (by omega)⟩
  have := (Int.le_ediv_iff_mul_le (a := 1) (b := a) hg).2 (by omega)
  omega

theorem bne_pos {a : Int} (h : 0 < a) : (a != 0) = true := by simp; omega
theorem inR_iff {a b c : Int} : inR a b c = true ↔ b ≤ a ∧ a ≤ c := by simp [inR]
structure Good (s : Sft) : Prop where
  num : 1 ≤ wr .i64 s.1 ∧ wr .i64 s.1 ≤ 60
  den : 1 ≤ wr .i64 s.2.1 ∧ wr .i64 s.2.1 ≤ 60
  len : 8 ≤ (s.2.2.2.1.length : Int) ∧ (s.2.2.2.1.length : Int) ≤ 360
  cam : ∀ v ∈ s.2.2.2.1, 0 ≤ wr .i64 v ∧ wr .i64 v ≤ 10000
  ph : 0 ≤ wr .i64 s.2.2.1 ∧ wr .i64 s.2.2.1 ≤ 360
theorem good_of {s : Sft} (h : okS s = true) : Good s := by
  simp only [okS, okC, Bool.and_eq_true, inR_iff, List.all_eq_true] at h
  obtain ⟨⟨⟨h1, h2⟩, h3, h4⟩, h5⟩ := h
  have hw : wr .i64 ((s.2.2.2.1.length : Int) - 1) = (s.2.2.2.1.length : Int) - 1 := wrap_id (by omega) (by omega)
  rw [hw] at h5
  exact ⟨h1, h2, h3, fun v hv => inR_iff.1 (h4 v hv), by omega⟩

def dl (s : Sft) : Int := wr .i64 (wr .i64 s.2.1 * (s.2.2.2.1.length : Int))
theorem dl_eq {s : Sft} (h : Good s) : 8 ≤ dl s ∧ dl s ≤ 21600 := by
  have h1 := h.den
  have h2 := h.len
  have a : wr .i64 s.2.1 * 8 ≤ wr .i64 s.2.1 * (s.2.2.2.1.length : Int) := Int.mul_le_mul_of_nonneg_left h2.1 (by omega)
  have b : wr .i64 s.2.1 * (s.2.2.2.1.length : Int) ≤ 60 * (s.2.2.2.1.length : Int) := Int.mul_le_mul_of_nonneg_right h1.2 (by omega)
  unfold dl
  rw [wrap_id (by omega) (by omega)]
  omega
def own (s : Sft) : Int := wr .i64 (Int.tdiv (dl s) (gg (dl s) (wr .i64 s.1)))
theorem own_eq {s : Sft} (h : Good s) : 1 ≤ own s ∧ own s ≤ 21600 := by
  have h1 := dl_eq h
  have hg := gg_pos (a := dl s) (b := wr .i64 s.1) (by omega)
  have hd := div_pos_of hg (gg_le (b := wr .i64 s.1) (show 0 < dl s by omega))
  unfold own
  rw [wrap_id (by omega) (by omega)]
  omega
/-- The common period, if it is short enough. -/
def nxt (t : Int) (s : Sft) : Int := wr .i64 (wr .i64 (Int.tdiv t (gg t (own s))) * own s)
def per : List Sft → Int → Option Int
  | [], t => some t
  | s :: r, t => if nxt t s > 20000 then none else per r (nxt t s)
theorem nxt_pos {t : Int} {s : Sft} (h : Good s) (h0 : 1 ≤ t) (h1 : t ≤ 20000) : 1 ≤ nxt t s := by
  have ho := own_eq h
  have hg := gg_pos (a := t) (b := own s) (by omega)
  have hd := div_pos_of hg (gg_le (b := own s) (show 0 < t by omega))
  unfold nxt
  rw [wrap_id (x := Int.tdiv t (gg t (own s))) (by omega) (by omega)]
  have a : 1 * own s ≤ Int.tdiv t (gg t (own s)) * own s := Int.mul_le_mul_of_nonneg_right (by omega) (by omega)
  have b : Int.tdiv t (gg t (own s)) * own s ≤ 20000 * own s := Int.mul_le_mul_of_nonneg_right (by omega) (by omega)
  rw [wrap_id (by omega) (by omega)]
  omega

theorem okA_good {l : List Sft} (h : okA l = true) : (1 ≤ (l.length : Int) ∧ (l.length : Int) ≤ 6) ∧ ∀ s ∈ l, Good s := by
  simp only [okA, Bool.and_eq_true, inR_iff, List.all_eq_true] at h
  exact ⟨h.1, fun s hs => good_of (h.2 s hs)⟩

def allR (l : List Sft) : (resTy [.ro (.int .i64), .ro (.int .i64)]).I := match per l 1 with | some t => (t, 0, ()) | none => (0, 3, ())
def perR (l : List Sft) : (resTy [.ro (.int .i64), .ro .bool]).I := match per l 1 with | some t => (t, true, ()) | none => (0, false, ())
/-! ### Codes -/
def fst0 : List Int → Int
  | [] => 0
  | v :: r => if v ≠ 0 then v else fst0 r
def codeR (l : List Sft) (room : Bool) : (resTy [.ro (.int .i64), .ro (.int .i64)]).I := if okA l = false then (0, 1, ()) else if room = false then (0, 2, ()) else allR l
/-! ### Lifts -/
def stp (s : Sft) (t : Int) : Int := Int.tmod (wr .i64 ((wr .i64 s.2.2.1) + (wr .i64 (Int.tdiv (wr .i64 (t * (wr .i64 s.1))) (wr .i64 s.2.1))))) (s.2.2.2.1.length : Int)
def lift (s : Sft) (t : Int) : Int := match idx s.2.2.2.1 (stp s t) with | some v => wr .i64 v | none => 0
theorem lift_eq {s : Sft} (h : Good s) {t : Int} (h0 : 0 ≤ t) (h1 : t ≤ 20000) : (∃ v, idx s.2.2.2.1 (stp s t) = some v ∧ lift s t = wr .i64 v) ∧ 0 ≤ lift s t ∧ lift s t ≤ 10000 := by
  have hn := h.num
  have hd := h.den
  have hl := h.len
  have hp := h.ph
  have a : 0 * wr .i64 s.1 ≤ t * wr .i64 s.1 := Int.mul_le_mul_of_nonneg_right h0 (by omega)
  have b : t * wr .i64 s.1 ≤ 20000 * wr .i64 s.1 := Int.mul_le_mul_of_nonneg_right h1 (by omega)
  have e1 : wr .i64 (t * wr .i64 s.1) = t * wr .i64 s.1 := wrap_id (by omega) (by omega)
  have e2 : 0 ≤ Int.tdiv (t * wr .i64 s.1) (wr .i64 s.2.1) := Int.tdiv_nonneg (by omega) (by omega)
  have e3 : Int.tdiv (t * wr .i64 s.1) (wr .i64 s.2.1) ≤ t * wr .i64 s.1 := by
    rw [Int.tdiv_eq_ediv_of_nonneg (by omega)]
    exact Int.ediv_le_self _ (by omega)
  have e4 : stp s t = Int.tmod (wr .i64 s.2.2.1 + Int.tdiv (t * wr .i64 s.1) (wr .i64 s.2.1)) (s.2.2.2.1.length : Int) := by
    unfold stp
    rw [e1, wrap_id (x := Int.tdiv _ _) (by omega) (by omega), wrap_id (by omega) (by omega)]
  have e5 : 0 ≤ stp s t := by rw [e4]; exact Int.tmod_nonneg _ (by omega)
  have e6 : stp s t < (s.2.2.2.1.length : Int) := by rw [e4]; exact Int.tmod_lt_of_pos _ (by omega)
  obtain ⟨v, hv, hv'⟩ := idx_at e5 e6
  have hc := h.cam v (List.mem_of_getElem? hv')
  have : lift s t = wr .i64 v := by unfold lift; rw [hv]
  exact ⟨⟨v, hv, this⟩, by omega, by omega⟩
theorem den_ne {s : Sft} (h : Good s) : (wr .i64 s.2.1 != 0) = true := bne_pos (by have := h.den; omega)
theorem len_ne {s : Sft} (h : Good s) : (((s.2.2.2.1.length : Nat) : Int) != 0) = true := bne_pos (by have := h.len; omega)
/-! ### Copies -/
/-! ### Equal to itself -/
/-! ### Sizes -/
/-! ### All lifts -/
/-! ### The search -/
theorem per_le : ∀ {l : List Sft} {t p : Int}, (∀ s ∈ l, Good s) → 1 ≤ t → t ≤ 20000 → per l t = some p → 1 ≤ p ∧ p ≤ 20000
  | [], t, p, _, h0, h1, h => by simp [per] at h; omega
  | s :: r, t, p, hG, h0, h1, h => by
    simp only [per] at h
    split at h
    · cases h
    · rename_i hn
      exact per_le (fun s hs => hG s (by simp [hs])) (nxt_pos (hG s (by simp)) h0 h1) (by omega) h
theorem code_ok {l : List Sft} {room : Bool} (h : (codeR l room).2.1 = (0 : Int)) : okA l = true ∧ (0 : Int) ≤ (codeR l room).1 ∧ (codeR l room).1 ≤ (20000 : Int) := by
  unfold codeR at h ⊢
  split at h
  · exact absurd h (by decide)
  · rename_i h1
    split at h
    · exact absurd h (by decide)
    · rename_i h2
      have hok : okA l = true := by simpa using h1
      unfold allR at h
      cases hp : per l 1 with
      | none => rw [hp] at h; exact absurd h (by decide)
      | some p =>
        have := per_le (okA_good hok).2 (by omega) (by omega) hp
        refine ⟨hok, ?_⟩
        rw [if_neg h1, if_neg h2]
        unfold allR
        rw [hp]
        show (0 : Int) ≤ p ∧ p ≤ 20000
        omega
def sc (a t : Int) : List Sft → Int → Option Int
  | s :: u :: r, i => if lift s t + lift u t > a then some i else sc a t (u :: r) (i + 1)
  | _, _ => none
abbrev R4 : Type := Int × Int × Int × Int × Unit
def fc (l : List Sft) (a : Int) : Nat → Int → R4
  | 0, _ => (0, 0, 0, 6, ())
  | d + 1, t => match sc a t l 0 with
    | some i => (t, i, i + 1, 0, ())
    | none => fc l a d (t + 1)
def ans (l : List Sft) (a : Int) : R4 := if (codeR l (inR a 0 20000)).2.1 ≠ (0 : Int) then (0, 0, 0, (codeR l (inR a 0 20000)).2.1, ()) else fc l a (Int.toNat (codeR l (inR a 0 20000)).1) 0
theorem idx_map {l : List Sft} {t i : Int} {v : Sft} (h : idx l i = some v) : idx (l.map (lift · t)) i = some (lift v t) := by
  unfold idx at h ⊢
  split at h
  · rename_i h0
    rw [if_pos h0, List.getElem?_map, h]
    rfl
  · cases h
end Go.Cams


/- Clashes of two shafts, in plain terms. -/
namespace Go.Cams
open Go Go.Fw
def isAt (l : List Sft) (i : Int) : Bool := inR i 0 (wr .i64 ((l.length : Int) - 1))
theorem isAt_iff {l : List Sft} (h : okA l = true) {i : Int} : isAt l i = true ↔ 0 ≤ i ∧ i < (l.length : Int) := by
  have hG := (okA_good h).1
  rw [isAt, wrap_id (by omega) (by omega), inR_iff]
  omega
/-- A shaft with another phase. -/
def withP (s : Sft) (p : Int) : Sft := (s.1, s.2.1, p, s.2.2.2)
theorem Good.withP {s : Sft} (h : Good s) {p : Int} (h0 : 0 ≤ p) (h1 : p ≤ 360) : Good (withP s p) :=
  ⟨h.num, h.den, h.len, h.cam, by show 0 ≤ wr .i64 p ∧ wr .i64 p ≤ 360; rw [wrap_id (by omega) (by omega)]; omega⟩
theorem withP_self (s : Sft) : withP s s.2.2.1 = s := rfl
theorem lift_wr {s : Sft} (h : Good s) (t : Int) : lift (Cams.withP s (wr .i64 s.2.2.1)) t = lift s t := by
  have hp := h.ph
  unfold lift stp Cams.withP
  simp only [wrap_id (x := wr .i64 s.2.2.1) (by omega) (by omega)]
/-- The clashes ahead of a tick. -/
def cnt (s u : Sft) (a : Int) : Nat → Int
  | 0 => 0
  | k + 1 => if lift s k + lift u k > a then cnt s u a k + 1 else cnt s u a k
theorem cnt_le (s u : Sft) (a : Int) : ∀ k : Nat, 0 ≤ cnt s u a k ∧ cnt s u a k ≤ k
  | 0 => by simp [cnt]
  | k + 1 => by
    have := cnt_le s u a k
    unfold cnt
    split <;> omega
theorem cnt_step (s u : Sft) (a : Int) {i : Int} (h0 : 0 ≤ i) : cnt s u a (i + 1).toNat = if lift s i + lift u i > a then cnt s u a i.toNat + 1 else cnt s u a i.toNat := by
  obtain ⟨k, rfl⟩ : ∃ k : Nat, i = k := ⟨i.toNat, by omega⟩
  show cnt s u a (k + 1) = _
  rfl
theorem cnt_wr {u : Sft} (h : Good u) (s : Sft) (a : Int) : ∀ k : Nat, cnt s (Cams.withP u (wr .i64 u.2.2.1)) a k = cnt s u a k
  | 0 => rfl
  | k + 1 => by simp only [cnt, lift_wr h, cnt_wr h s a k]
/-- What is known of the arguments of a law. -/
abbrev SftTy : Ty := .pair (.int .i16) (.pair (.int .i16) (.pair (.int .i16) (.pair (.slc (.int .i16)) .unit)))
abbrev R2 : Type := Int × Int × Unit
/-- How many clashes two shafts of a set have. -/
def clashR (l : List Sft) (i k a : Int) : R2 :=
  if (codeR l (isAt l i && isAt l k && inR a 0 20000)).2.1 ≠ (0 : Int) then (0, (codeR l (isAt l i && isAt l k && inR a 0 20000)).2.1, ())
  else if i = k then (0, 4, ())
  else match idx l i, idx l k with
    | some s, some u => (cnt s u a (Int.toNat (codeR l (isAt l i && isAt l k && inR a 0 20000)).1), 0, ())
    | _, _ => (0, 0, ())
theorem codeR_room {l : List Sft} {room : Bool} (h : (codeR l room).2.1 = (0 : Int)) : room = true := by
  cases room with
  | true => rfl
  | false =>
    exfalso
    unfold codeR at h
    split at h
    · exact absurd h (by decide)
    · rw [if_pos rfl] at h
      exact absurd h (by decide)
end Go.Cams


/- Marks on memory, and what holds them. -/
namespace Go.Cams
open Go Go.Fw
/-! ### Sizes -/
end Go.Cams
namespace Go.Cams
open Go Go.Fw
/-! ### Phases -/
def phs : List Sft → List Int → List Sft → List Sft × (Int × Unit)
  | s :: l, q :: p, b => if inR q 0 (wr .i64 ((s.2.2.2.1.length : Int) - 1)) = true then phs l p (b ++ [withP s (wr .i16 q)]) else ([], 2, ())
  | _, _, b => (b, 0, ())
def phR (l : List Sft) (p : List Int) : List Sft × (Int × Unit) := if (!okA l) = true then ([], 1, ()) else if (p.length : Int) ≠ l.length then ([], 2, ()) else phs l p []
end Go.Cams
namespace Go.Cams
open Go Go.Fw
end Go.Cams


/- Best phases and sums of lifts, in plain terms. -/
namespace Go.Cams
open Go Go.Fw
theorem wrap16 {x : Int} (h1 : -32768 ≤ x) (h2 : x ≤ 32767) : wr .i16 x = x := by
  show IntKind.i16.wrap x = x
  simp [IntKind.wrap, IntKind.bits, IntKind.signed]
  omega
/-- The best phase among the first ones, and how many clashes there are with it. -/
def bst (s u : Sft) (a p : Int) : Nat → Int × Int
  | 0 => (0, p + 1)
  | k + 1 => if cnt s (withP u k) a p.toNat < (bst s u a p k).2 then ((k : Int), cnt s (withP u k) a p.toNat) else bst s u a p k
theorem bst_step (s u : Sft) (a p : Int) {i : Int} (h0 : 0 ≤ i) : bst s u a p (i + 1).toNat = if cnt s (withP u i) a p.toNat < (bst s u a p i.toNat).2 then (i, cnt s (withP u i) a p.toNat) else bst s u a p i.toNat := by
  obtain ⟨k, rfl⟩ : ∃ k : Nat, i = k := ⟨i.toNat, by omega⟩
  show bst s u a p (k + 1) = _
  rfl
abbrev R3 : Type := Int × Int × Int × Unit
def bestR (l : List Sft) (i k a : Int) : R3 :=
  if (codeR l (isAt l i && isAt l k && inR a 0 20000)).2.1 ≠ (0 : Int) then (0, 0, (codeR l (isAt l i && isAt l k && inR a 0 20000)).2.1, ())
  else if i = k then (0, 0, 4, ())
  else match idx l i, idx l k with
    | some s, some u => ((bst s u a (codeR l (isAt l i && isAt l k && inR a 0 20000)).1 u.2.2.2.1.length).1, (bst s u a (codeR l (isAt l i && isAt l k && inR a 0 20000)).1 u.2.2.2.1.length).2, 0, ())
    | _, _ => (0, 0, 0, ())
end Go.Cams


/- Machines, turns, and greatest numbers, in plain terms. -/
namespace Go.Cams
open Go Go.Fw
abbrev Mch : Type := List Int × (List Int × (List Int × Unit))
/-- What is known of a list of int16. -/
structure Rng (l : List Int) : Prop where
  len : (l.length : Int) * 2 ≤ 140737488351232
  el : ∀ v ∈ l, -32768 ≤ v ∧ v ≤ 32767
theorem Rng.id {l : List Int} (h : Rng l) {v : Int} (hv : v ∈ l) : wr .i64 v = v := by have := h.el v hv; exact wrap_id (by omega) (by omega)
structure RngM (m : Mch) : Prop where
  x : Rng m.1
  y : Rng m.2.1
  p : Rng m.2.2.1
def mxF (l : List Int) (a : Int) : Int := l.foldl (fun m v => max m v) a
def mnF (l : List Int) (a : Int) : Int := l.foldl (fun m v => min m v) a
def mxL (l : List Int) : Int := mxF l (l.headD 0)
def mnL (l : List Int) : Int := mnF l (l.headD 0)
theorem mxF_le : ∀ (l : List Int) (a b : Int), a ≤ b → (∀ v ∈ l, v ≤ b) → mxF l a ≤ b
  | [], a, b, h, _ => h
  | v :: r, a, b, h, hl => mxF_le r (max a v) b (by have := hl v (by simp); omega) (fun x hx => hl x (by simp [hx]))
theorem mxF_ge : ∀ (l : List Int) (a : Int), a ≤ mxF l a ∧ ∀ v ∈ l, v ≤ mxF l a
  | [], a => ⟨Int.le_refl _, fun _ h => by cases h⟩
  | v :: r, a => by
    have h := mxF_ge r (max a v)
    show a ≤ mxF r (max a v) ∧ ∀ x ∈ v :: r, x ≤ mxF r (max a v)
    refine ⟨by have := h.1; omega, fun x hx => ?_⟩
    rcases List.mem_cons.1 hx with rfl | hx
    · have := h.1; omega
    · exact h.2 x hx
def mv (c : List Int) : Bool := okC c && decide (mxL c < 64)
def okM (m : Mch) : Bool := mv m.1 && mv m.2.1 && okC m.2.2.1 && ((m.1.length : Int) == (m.2.1.length : Int)) && ((m.1.length : Int) == (m.2.2.1.length : Int))
theorem okC_len {l : List Int} (h : okC l = true) : 8 ≤ (l.length : Int) ∧ (l.length : Int) ≤ 360 := by
  simp only [okC, Bool.and_eq_true, inR_iff] at h; exact h.1
theorem okC_el {l : List Int} (h : okC l = true) (hr : Rng l) : ∀ v ∈ l, 0 ≤ v ∧ v ≤ 10000 := by
  simp only [okC, Bool.and_eq_true, inR_iff, List.all_eq_true, okV] at h
  intro v hv
  have := h.2 v hv
  rw [hr.id hv] at this
  exact this
structure GoodM (m : Mch) : Prop where
  x : okC m.1 = true
  y : okC m.2.1 = true
  p : okC m.2.2.1 = true
  mx : mxL m.1 < 64
  my : mxL m.2.1 < 64
  xy : m.1.length = m.2.1.length
  xp : m.1.length = m.2.2.1.length
theorem goodM {m : Mch} (h : okM m = true) : GoodM m := by
  simp only [okM, mv, Bool.and_eq_true, decide_eq_true_eq, beq_iff_eq] at h
  obtain ⟨⟨⟨⟨⟨h1, h2⟩, h3, h4⟩, h5⟩, h6⟩, h7⟩ := h
  exact ⟨h1, h3, h5, h2, h4, by omega, by omega⟩

/-! ### Turns -/
end Go.Cams
namespace Go.Cams
open Go Go.Fw
end Go.Cams


/- Two machines in one, in plain terms. -/
namespace Go.Cams
open Go Go.Fw
end Go.Cams


/- Events, in plain terms. -/
namespace Go.Cams
open Go Go.Fw
/-! ### Marks on events -/
end Go.Cams
namespace Go.Cams
open Go Go.Fw
end Go.Cams


/- Cutters, tips, and what a cutter leaves, in plain terms. -/
namespace Go.Cams
open Go Go.Fw
/-- An element, 0 where there is none. -/
def g (l : List Int) (i : Nat) : Int := l.getD i 0
theorem g_at {l : List Int} {i v : Int} (h : At l i v) : g l i.toNat = v := by
  have := h.get
  unfold g
  rw [List.getD_eq_getElem?_getD, this]; rfl
theorem g_idx {l : List Int} {i : Int} (h0 : 0 ≤ i) (h1 : i < l.length) : At l i (g l i.toNat) := by
  obtain ⟨v, hv⟩ := at_of (l := l) h0 h1
  rw [g_at hv]; exact hv
theorem g_mem {l : List Int} {i : Nat} (h : i < l.length) : g l i ∈ l := by
  have := g_idx (l := l) (i := i) (by omega) (by omega)
  simpa using this.mem
def cAt (l : List Int) (x : Int) : Int := g l (x % l.length).toNat

/-! ### Validity -/
def kOne (k : List Int) (i : Nat) : Bool := inR (wr .i64 (g k i)) 0 10000 && (g k (k.length - 1 - i) == g k i) && (decide (i = 0) || !decide (g k (i - 1) < g k i))
def allTo (p : Nat → Bool) (n : Nat) : Bool := (List.range n).all p
def okK (k : List Int) : Bool := inR (k.length : Int) 1 31 && decide (k.length % 2 = 1) && (g k (k.length / 2) == 0) && allTo (kOne k) (k.length / 2 + 1)
/-! ### Tips -/
def half (k : List Int) : Int := (k.length / 2 : Nat)
def tipTo (c k : List Int) (s : Int) : Nat → Int
  | 0 => 0
  | i + 1 => max (tipTo c k s i) (cAt c (s + i - half k) - g k i)
def tip (c k : List Int) (s : Int) : Int := tipTo c k s k.length
theorem cAt_mem {c : List Int} (h : 0 < c.length) (x : Int) : cAt c x ∈ c := by
  have h1 := Int.emod_nonneg x (show (c.length : Int) ≠ 0 by omega)
  have h2 := Int.emod_lt_of_pos x (show 0 < (c.length : Int) by omega)
  exact g_mem (by omega)
/-! ### Cuts -/
def lfTo (c k : List Int) (p : Int) : Nat → Int
  | 0 => tip c k p
  | i + 1 => min (lfTo c k p i) (tip c k ((p + i - half k) % c.length) + g k i)
def lf (c k : List Int) (p : Int) : Int := lfTo c k p k.length
end Go.Cams
namespace Go.Cams
open Go Go.Fw
theorem rng_bd {l : List Int} (hl : (l.length : Int) ≤ 1000000) (h : ∀ v ∈ l, 0 ≤ v ∧ v ≤ 10000) : Rng l := ⟨by omega, fun v hv => by have := h v hv; omega⟩
end Go.Cams


/- Waste, and the best cutter, in plain terms. -/
namespace Go.Cams
open Go Go.Fw
def okKs (K : List (List Int)) : Bool := K.all okK
/-! ### What is left is not less -/
theorem getD_at {α : Type} {l : List α} {i : Int} {v d : α} (h : At l i v) : l.getD i.toNat d = v := by rw [List.getD_eq_getElem?_getD, h.get]; rfl
end Go.Cams


/- Cuts, in plain terms. -/
namespace Go.Cams
open Go Go.Fw
abbrev Ct : Type := Int × (Int × (Int × Unit))
structure RngC (L : List Ct) : Prop where
  len : (L.length : Int) * 6 ≤ 140737488351232
  el : ∀ v ∈ L, (-32768 ≤ v.1 ∧ v.1 ≤ 32767) ∧ (-32768 ≤ v.2.1 ∧ v.2.1 ≤ 32767) ∧ (-128 ≤ v.2.2.1 ∧ v.2.2.1 ≤ 127)
theorem RngC.i1 {L : List Ct} (h : RngC L) {v : Ct} (hv : v ∈ L) : wr .i64 v.1 = v.1 := by have := (h.el v hv).1; exact wrap_id (by omega) (by omega)
theorem RngC.i2 {L : List Ct} (h : RngC L) {v : Ct} (hv : v ∈ L) : wr .i64 v.2.1 = v.2.1 := by have := (h.el v hv).2.1; exact wrap_id (by omega) (by omega)
theorem RngC.i3 {L : List Ct} (h : RngC L) {v : Ct} (hv : v ∈ L) : wr .i64 v.2.2.1 = v.2.2.1 := by have := (h.el v hv).2.2; exact wrap_id (by omega) (by omega)
def ctOk (m : Int) (v : Ct) : Bool := inR (wr .i64 v.1) 0 359 && inR (wr .i64 v.2.1) 0 10000 && inR (wr .i64 v.2.2.1) 0 (wr .i64 (m - 1))
def okCt (L : List Ct) (m : Int) : Bool := decide ((L.length : Int) ≤ 400) && L.all (ctOk m)
def onCt (L : List Ct) (n : Int) : Bool := L.all fun v => !decide (wr .i64 v.1 ≥ n)
def okCuts (L : List Ct) (K : List (List Int)) : Bool := inR (K.length : Int) 1 8 && okKs K && okCt L K.length
def gvCode (c : List Int) (K : List (List Int)) (L : List Ct) : Int := if okC c = true then (if okCuts L K = true then (if onCt L c.length = true then 0 else 2) else 1) else 1
end Go.Cams


/- Machines that draw, in plain terms. -/
namespace Go.Cams
open Go Go.Fw
abbrev Mk : Type := List Int
abbrev Stp : Type := List Int × (Bool × Unit)
/-- A mark on the plate. -/
structure OnP (a : Mk) : Prop where
  len : a.length = 2
  x : 0 ≤ g a 0 ∧ g a 0 ≤ 63
  y : 0 ≤ g a 1 ∧ g a 1 ≤ 63
theorem OnP.eq {a : Mk} (h : OnP a) : a = [g a 0, g a 1] := by
  have hl := h.len
  match a, hl with
  | [x, y], _ => rfl
theorem onP_pair {x y : Int} (hx : 0 ≤ x ∧ x ≤ 63) (hy : 0 ≤ y ∧ y ≤ 63) : OnP [x, y] := ⟨rfl, hx, hy⟩
def siz (x : Int) : Int := if x < 0 then -x else x
def far (a b : Mk) : Int := max (siz (g a 0 - g b 0)) (siz (g a 1 - g b 1))
/-- The nearest whole number of a fraction. -/
def nr (x n : Int) : Int := (2 * x + n) / (2 * n)
def pt (a b : Mk) (k : Int) (i : Nat) : Int := g a i + nr (k * (g b i - g a i)) (far a b)
def ptM (a b : Mk) (k : Int) : Mk := [pt a b k 0, pt a b k 1]
def lineM (a b : Mk) : List Mk := if far a b = 0 then [a] else (List.range (far a b + 1).toNat).map fun k => ptM a b (k : Nat)
theorem far_bd {a b : Mk} (ha : OnP a) (hb : OnP b) : 0 ≤ far a b ∧ far a b ≤ 63 ∧ (∀ i : Nat, i = 0 ∨ i = 1 → -far a b ≤ g b i - g a i ∧ g b i - g a i ≤ far a b) := by
  have h1 := ha.x; have h2 := ha.y; have h3 := hb.x; have h4 := hb.y
  have e : far a b = max (siz (g a 0 - g b 0)) (siz (g a 1 - g b 1)) := rfl
  have e1 : siz (g a 0 - g b 0) = if g a 0 - g b 0 < 0 then -(g a 0 - g b 0) else g a 0 - g b 0 := rfl
  have e2 : siz (g a 1 - g b 1) = if g a 1 - g b 1 < 0 then -(g a 1 - g b 1) else g a 1 - g b 1 := rfl
  refine ⟨?_, ?_, fun i hi => ?_⟩
  · split at e1 <;> omega
  · split at e1 <;> split at e2 <;> omega
  · rcases hi with rfl | rfl
    · split at e1 <;> omega
    · split at e2 <;> omega
theorem nr_bd {k d n : Int} (hn : 0 < n) (k0 : 0 ≤ k) (k1 : k ≤ n) (h1 : -n ≤ d) (h2 : d ≤ n) : (0 ≤ d → 0 ≤ nr (k * d) n ∧ nr (k * d) n ≤ d) ∧ (d ≤ 0 → d ≤ nr (k * d) n ∧ nr (k * d) n ≤ 0) := by
  have hnn : (2 * (n * d) + n) / (2 * n) = d := by
    rw [show 2 * (n * d) + n = n + (2 * n) * d by rw [Int.mul_assoc]; omega, Int.add_mul_ediv_left _ _ (by omega)]
    rw [Int.ediv_eq_zero_of_lt (by omega) (by omega)]; omega
  have h00 : (2 * 0 + n) / (2 * n) = 0 := Int.ediv_eq_zero_of_lt (by omega) (by omega)
  unfold nr
  constructor
  · intro hd
    have a : 0 ≤ k * d := Int.mul_nonneg k0 hd
    have b : k * d ≤ n * d := Int.mul_le_mul_of_nonneg_right k1 hd
    have c := Int.ediv_le_ediv (c := 2 * n) (by omega) (show 2 * 0 + n ≤ 2 * (k * d) + n by omega)
    have e := Int.ediv_le_ediv (c := 2 * n) (by omega) (show 2 * (k * d) + n ≤ 2 * (n * d) + n by omega)
    omega
  · intro hd
    have a : k * d ≤ 0 := Int.mul_nonpos_of_nonneg_of_nonpos k0 hd
    have b : n * d ≤ k * d := Int.mul_le_mul_of_nonpos_right k1 hd
    have c := Int.ediv_le_ediv (c := 2 * n) (by omega) (show 2 * (k * d) + n ≤ 2 * 0 + n by omega)
    have e := Int.ediv_le_ediv (c := 2 * n) (by omega) (show 2 * (n * d) + n ≤ 2 * (k * d) + n by omega)
    omega
theorem pt_bd {a b : Mk} (ha : OnP a) (hb : OnP b) (hn : far a b ≠ 0) {k : Int} (k0 : 0 ≤ k) (k1 : k ≤ far a b) {i : Nat} (hi : i = 0 ∨ i = 1) : 0 ≤ pt a b k i ∧ pt a b k i ≤ 63 := by
  obtain ⟨f0, f1, f2⟩ := far_bd ha hb
  have hx := ha.x; have hy := ha.y; have kx := hb.x; have ky := hb.y
  obtain ⟨b1, b2⟩ := nr_bd (show 0 < far a b by omega) k0 k1 (f2 i hi).1 (f2 i hi).2
  have hga : 0 ≤ g a i ∧ g a i ≤ 63 := by rcases hi with rfl | rfl <;> assumption
  have hgb : 0 ≤ g b i ∧ g b i ≤ 63 := by rcases hi with rfl | rfl <;> assumption
  unfold pt
  rcases Int.le_total 0 (g b i - g a i) with h | h
  · have := b1 h; omega
  · have := b2 h; omega
theorem nr_zero {n : Int} (hn : 0 < n) : nr 0 n = 0 := by
  unfold nr
  exact Int.ediv_eq_zero_of_lt (by omega) (by omega)
theorem ptM_zero {a b : Mk} (ha : OnP a) (hb : OnP b) (hn : far a b ≠ 0) : ptM a b 0 = a := by
  obtain ⟨f0, _, _⟩ := far_bd ha hb
  have h : ∀ i, pt a b 0 i = g a i := fun i => by
    unfold pt
    rw [Int.zero_mul, nr_zero (by omega)]; omega
  unfold ptM
  rw [h, h]
  exact ha.eq.symm
theorem lineM_on {a b : Mk} (ha : OnP a) (hb : OnP b) : ∀ m ∈ lineM a b, OnP m := by
  intro m hm
  unfold lineM at hm
  split at hm
  · simp at hm; subst hm; exact ha
  · rename_i hn
    simp only [List.mem_map, List.mem_range] at hm
    obtain ⟨k, hk, rfl⟩ := hm
    exact onP_pair (pt_bd ha hb hn (by omega) (by omega) (.inl rfl)) (pt_bd ha hb hn (by omega) (by omega) (.inr rfl))
theorem lineM_same {a : Mk} : lineM a a = [a] := by
  unfold lineM
  rw [if_pos]
  unfold far siz
  simp
/-- Ink on a plate. -/
def inkP (p : List Int) (m : Mk) : List Int := p.set (g m 1).toNat (bitsI .or .u64 (g p (g m 1).toNat) (shl_ .u64 1 (g m 0)))
def inkL (p : List Int) (l : List Mk) : List Int := l.foldl inkP p
/-- The stops of a machine. -/
def stopM (m : Mch) (i : Nat) : Stp := ([g m.1 i, g m.2.1 i], (g m.2.2.1 i == 0), ())
theorem mx_el {l : List Int} (h : mxL l < 64) : ∀ v ∈ l, v ≤ 63 := fun v hv => by
  have := (mxF_ge l (l.headD 0)).2 v hv
  unfold mxL at h; omega
theorem stop_on {m : Mch} (hr : RngM m) (G : GoodM m) {i : Nat} (h : i < m.1.length) : OnP (stopM m i).1 := by
  have h1 := okC_el G.x hr.x _ (g_mem h)
  have h2 := mx_el G.mx _ (g_mem h)
  have h3 := okC_el G.y hr.y _ (g_mem (i := i) (by have := G.xy; omega))
  have h4 := mx_el G.my _ (g_mem (i := i) (by have := G.xy; omega))
  exact onP_pair ⟨h1.1, h2⟩ ⟨h3.1, h4⟩
/-- What the first stops draw. -/
def drawTo (m : Mch) : Nat → List Int
  | 0 => List.replicate 64 0
  | i + 1 => if (stopM m i).2.1 = true then (if (stopM m ((i + 1) % m.1.length)).2.1 = true then inkL (inkP (drawTo m i) (stopM m i).1) (lineM (stopM m i).1 (stopM m ((i + 1) % m.1.length)).1) else inkP (drawTo m i) (stopM m i).1) else drawTo m i
end Go.Cams


/- Motions by laws, runs of a cam, and programs that are found, in plain terms. -/
namespace Go.Cams
open Go Go.Fw
theorem mulB {a b A B : Int} (a0 : 0 ≤ a) (a1 : a ≤ A) (b0 : 0 ≤ b) (b1 : b ≤ B) : 0 ≤ a * b ∧ a * b ≤ A * B := ⟨Int.mul_nonneg a0 b0, Int.mul_le_mul a1 b1 b0 (by omega)⟩
/-- How much of a change is done, as a fraction. -/
def shN (w k n : Int) : Int := if w = 1 then (if 2 * k ≤ n then 2 * k * k else n * n - 2 * (n - k) * (n - k)) else if w = 2 then 3 * k * k * n - 2 * k * k * k else if w = 3 then k * k * k * (10 * n * n - 15 * k * n + 6 * k * k) else k
def shD (w n : Int) : Int := if w = 1 then n * n else if w = 2 then n * n * n else if w = 3 then n * n * n * n * n else n
def liftP (f t w k n : Int) : Int := nr (f * shD w n + (t - f) * shN w k n) (shD w n)
theorem shD_bd {w n : Int} (n0 : 1 ≤ n) (n1 : n ≤ 360) : 1 ≤ shD w n ∧ shD w n ≤ 6046617600000 := by
  have p2 : 1 ≤ n * n := Int.mul_le_mul n0 n0 (by omega) (by omega)
  have q2 := (mulB (show 0 ≤ n by omega) n1 (show 0 ≤ n by omega) n1).2
  have p3 : 1 ≤ n * n * n := Int.mul_le_mul p2 n0 (by omega) (by omega)
  have q3 := (mulB (show 0 ≤ n * n by omega) q2 (show 0 ≤ n by omega) n1).2
  have p4 : 1 ≤ n * n * n * n := Int.mul_le_mul p3 n0 (by omega) (by omega)
  have q4 := (mulB (show 0 ≤ n * n * n by omega) q3 (show 0 ≤ n by omega) n1).2
  have p5 : 1 ≤ n * n * n * n * n := Int.mul_le_mul p4 n0 (by omega) (by omega)
  have q5 := (mulB (show 0 ≤ n * n * n * n by omega) q4 (show 0 ≤ n by omega) n1).2
  unfold shD
  split
  · omega
  split
  · omega
  split <;> omega
/-! ### Runs -/
def kdOf (x : Int) : Int := if x > 0 then 1 else if x < 0 then -1 else 0
def kd (c : List Int) (x : Int) : Int := kdOf (cAt c (x + 1) - cAt c x)
/-! ### Motions that are found -/
abbrev Prg : Type := Int × ((List Ct) × Unit)
/-! ### Marks of three numbers -/
end Go.Cams


/- Plans of cuts, in plain terms. -/
namespace Go.Cams
open Go Go.Fw
/-- A layer of cuts ahead of a step. -/
def la (t : List Int) (above layer w : Int) : Nat → List Ct → Option (List Ct)
  | 0, o => some o
  | s + 1, o => (la t above layer w s o).bind fun o => if g t s ≥ above then some o else if o.length = 400 then none else some (o ++ [((s : Int), max layer (g t s), w, ())])
abbrev R3' : Type := List Ct × (Int × Unit)
/-- Layers, from a height down. -/
def pl (t : List Int) (deep w : Int) : Nat → Int → List Ct → R3'
  | 0, _, _ => ([], 3, ())
  | f + 1, above, o => match la t above (max (above - deep) 0) w t.length o with
    | none => ([], 3, ())
    | some p => if max (above - deep) 0 ≤ mnL t then (p, 0, ()) else pl t deep w f (max (above - deep) 0) p
end Go.Cams


/- Stops that are planned, in plain terms. -/
namespace Go.Cams
open Go Go.Fw
abbrev Stk : Type := List Mk
def gM (L : List Mk) (i : Nat) : Mk := L.getD i []
theorem gM_idx {L : List Mk} {i : Int} (h0 : 0 ≤ i) (h1 : i < L.length) : At L i (gM L i.toNat) := by
  obtain ⟨v, hv⟩ := at_of (l := L) h0 h1
  have : gM L i.toNat = v := getD_at hv
  rw [this]; exact hv
theorem lineM_get {a b : Mk} (hn : far a b ≠ 0) {i : Nat} (h : i < (far a b + 1).toNat) : gM (lineM a b) i = ptM a b (i : Nat) := by
  unfold gM lineM
  rw [if_neg hn, List.getD_eq_getElem?_getD, List.getElem?_map, List.getElem?_range h]
  rfl
theorem lineM_length {a b : Mk} (ha : OnP a) (hb : OnP b) : ((lineM a b).length : Int) = far a b + 1 := by
  obtain ⟨f0, _, _⟩ := far_bd ha hb
  unfold lineM
  split
  · rename_i h; rw [h]; rfl
  · simp; omega
theorem far_zero {a b : Mk} (ha : OnP a) (hb : OnP b) (h : far a b = 0) : a = b := by
  obtain ⟨_, _, f2⟩ := far_bd ha hb
  have h0 := f2 0 (.inl rfl)
  have h1 := f2 1 (.inr rfl)
  rw [ha.eq, hb.eq]
  rw [show g a 0 = g b 0 by omega, show g a 1 = g b 1 by omega]
theorem nr_full {d n : Int} (hn : 0 < n) (k : Int) (hd : d = n ∨ d = -n) : nr (k * d) n = if d = n then k else -k := by
  unfold nr
  rcases hd with rfl | rfl
  · rw [if_pos rfl, show 2 * (k * d) + d = d + (2 * d) * k by rw [Int.mul_assoc, Int.mul_comm d k]; omega, Int.add_mul_ediv_left _ _ (by omega), Int.ediv_eq_zero_of_lt (by omega) (by omega)]; omega
  · rw [if_neg (by omega), show 2 * (k * -n) + n = n + (2 * n) * (-k) by rw [Int.mul_neg k n, Int.mul_neg 2 (k * n), Int.mul_neg (2 * n) k, Int.mul_assoc, Int.mul_comm n k]; omega, Int.add_mul_ediv_left _ _ (by omega), Int.ediv_eq_zero_of_lt (by omega) (by omega)]; omega
theorem nr_end {d n : Int} (hn : 0 < n) : nr (n * d) n = d := by
  unfold nr
  rw [show 2 * (n * d) + n = n + (2 * n) * d by rw [Int.mul_assoc]; omega, Int.add_mul_ediv_left _ _ (by omega), Int.ediv_eq_zero_of_lt (by omega) (by omega)]; omega
theorem nr_step {d n k : Int} (hn : 0 < n) (h1 : -n ≤ d) (h2 : d ≤ n) : -1 ≤ nr ((k + 1) * d) n - nr (k * d) n ∧ nr ((k + 1) * d) n - nr (k * d) n ≤ 1 := by
  unfold nr
  rw [Int.add_mul, Int.one_mul]
  obtain ⟨e, he⟩ : ∃ e, e = k * d := ⟨_, rfl⟩
  rw [← he]
  have a := Int.ediv_le_ediv (c := 2 * n) (by omega) (show 2 * (e + d) + n ≤ (2 * e + n) + 2 * n * 1 by omega)
  rw [Int.add_mul_ediv_left _ _ (by omega)] at a
  have b := Int.ediv_le_ediv (c := 2 * n) (by omega) (show (2 * e + n) + 2 * n * (-1) ≤ 2 * (e + d) + n by omega)
  rw [Int.add_mul_ediv_left _ _ (by omega)] at b
  omega
theorem ptM_end {a b : Mk} (ha : OnP a) (hb : OnP b) (hn : far a b ≠ 0) : ptM a b (far a b) = b := by
  obtain ⟨f0, _, _⟩ := far_bd ha hb
  have h : ∀ i, pt a b (far a b) i = g b i := fun i => by
    unfold pt
    rw [nr_end (by omega)]; omega
  unfold ptM
  rw [h, h]
  exact hb.eq.symm
theorem lineM_one {a b : Mk} (ha : OnP a) (hb : OnP b) (h : far a b = 1) : lineM a b = [a, b] := by
  have h0 := ptM_zero ha hb (by omega)
  have h1 := ptM_end ha hb (by omega)
  rw [h] at h1
  unfold lineM
  rw [if_neg (by omega), h]
  show [ptM a b ((0 : Nat) : Int), ptM a b ((1 : Nat) : Int)] = _
  rw [show ((0 : Nat) : Int) = 0 from rfl, show ((1 : Nat) : Int) = 1 from rfl, h0, h1]
theorem line_step {a b : Mk} (ha : OnP a) (hb : OnP b) {i : Nat} (h : (i : Int) < far a b) : lineM (gM (lineM a b) i) (gM (lineM a b) (i + 1)) = [gM (lineM a b) i, gM (lineM a b) (i + 1)] := by
  obtain ⟨f0, f1, f2⟩ := far_bd ha hb
  have hn : far a b ≠ 0 := by omega
  rw [lineM_get hn (by omega), lineM_get hn (by omega)]
  have p0 := onP_pair (pt_bd ha hb hn (k := (i : Nat)) (by omega) (by omega) (.inl rfl)) (pt_bd ha hb hn (k := (i : Nat)) (by omega) (by omega) (.inr rfl))
  have p1 := onP_pair (pt_bd ha hb hn (k := ((i + 1 : Nat) : Int)) (by omega) (by omega) (.inl rfl)) (pt_bd ha hb hn (k := ((i + 1 : Nat) : Int)) (by omega) (by omega) (.inr rfl))
  refine lineM_one p0 p1 ?_
  have s0 := nr_step (k := (i : Int)) (show 0 < far a b by omega) (f2 0 (.inl rfl)).1 (f2 0 (.inl rfl)).2
  have s1 := nr_step (k := (i : Int)) (show 0 < far a b by omega) (f2 1 (.inr rfl)).1 (f2 1 (.inr rfl)).2
  have e0 : pt a b ((i + 1 : Nat) : Int) 0 - pt a b (i : Int) 0 = nr (((i : Int) + 1) * (g b 0 - g a 0)) (far a b) - nr ((i : Int) * (g b 0 - g a 0)) (far a b) := by
    unfold pt
    rw [show ((i + 1 : Nat) : Int) = (i : Int) + 1 by omega]; omega
  have e1 : pt a b ((i + 1 : Nat) : Int) 1 - pt a b (i : Int) 1 = nr (((i : Int) + 1) * (g b 1 - g a 1)) (far a b) - nr ((i : Int) * (g b 1 - g a 1)) (far a b) := by
    unfold pt
    rw [show ((i + 1 : Nat) : Int) = (i : Int) + 1 by omega]; omega
  have full : ∀ d, d = far a b ∨ d = -far a b → nr (((i : Int) + 1) * d) (far a b) - nr ((i : Int) * d) (far a b) = 1 ∨ nr (((i : Int) + 1) * d) (far a b) - nr ((i : Int) * d) (far a b) = -1 := fun d hd => by
    rw [nr_full (by omega) _ hd, nr_full (by omega) _ hd]
    split <;> omega
  have ef : far a b = max (siz (g a 0 - g b 0)) (siz (g a 1 - g b 1)) := rfl
  have d0 : siz (g a 0 - g b 0) = if g a 0 - g b 0 < 0 then -(g a 0 - g b 0) else g a 0 - g b 0 := rfl
  have d1 : siz (g a 1 - g b 1) = if g a 1 - g b 1 < 0 then -(g a 1 - g b 1) else g a 1 - g b 1 := rfl
  show max (siz (pt a b (i : Int) 0 - pt a b ((i + 1 : Nat) : Int) 0)) (siz (pt a b (i : Int) 1 - pt a b ((i + 1 : Nat) : Int) 1)) = 1
  have h3 : ∀ x, siz x = if x < 0 then -x else x := fun _ => rfl
  rw [h3, h3]
  have hor : g b 0 - g a 0 = far a b ∨ g b 0 - g a 0 = -far a b ∨ g b 1 - g a 1 = far a b ∨ g b 1 - g a 1 = -far a b := by
    split at d0 <;> split at d1 <;> omega
  rcases hor with hh | hh | hh | hh
  · have := full _ (.inl hh)
    split <;> split <;> omega
  · have := full _ (.inr hh)
    split <;> split <;> omega
  · have := full _ (.inl hh)
    split <;> split <;> omega
  · have := full _ (.inr hh)
    split <;> split <;> omega
theorem seg_two {L : List Mk} {i : Nat} (h : i + 1 < L.length) : (L.take (i + 2)).drop i = [gM L i, gM L (i + 1)] := by
  have e0 : L[i]? = some (gM L i) := by unfold gM; rw [List.getD_eq_getElem?_getD, List.getElem?_eq_getElem (by omega)]; rfl
  have e1 : L[i + 1]? = some (gM L (i + 1)) := by unfold gM; rw [List.getD_eq_getElem?_getD, List.getElem?_eq_getElem (by omega)]; rfl
  rw [List.take_add_one, List.take_add_one, e0, e1]
  simp only [Option.toList_some, List.append_assoc]
  rw [List.drop_append_of_le_length (by simp; omega), List.drop_of_length_le (by simp; omega)]
  rfl
/-- The place to go to: as far as the line is the same. -/
def bkJ (L : List Mk) (i : Nat) : Nat → Nat
  | 0 => 0
  | j + 1 => if lineM (gM L i) (gM L (j + 1)) = (L.take (j + 2)).drop i then j + 1 else bkJ L i j
theorem bkJ_le (L : List Mk) (i : Nat) : ∀ j, bkJ L i j ≤ j
  | 0 => Nat.le_refl _
  | j + 1 => by
    unfold bkJ
    split
    · exact Nat.le_refl _
    · have := bkJ_le L i j; omega
theorem bkJ_gt {a b : Mk} (ha : OnP a) (hb : OnP b) {i : Nat} (h : (i : Int) < far a b) : ∀ j, i < j → j < (lineM a b).length → i < bkJ (lineM a b) i j
  | 0, hj, _ => by omega
  | j + 1, hj, hl => by
    unfold bkJ
    split
    · exact hj
    · rename_i hc
      by_cases e : i = j
      · subst e
        exact absurd (by rw [line_step ha hb h, seg_two hl]) hc
      · exact bkJ_gt ha hb h j (by omega) (by omega)
def toJ (most : Nat) (down : Bool) (L : List Mk) (i : Nat) : Nat := if down = true then bkJ L i (min (i + most) (L.length - 1)) else min (i + most) (L.length - 1)
def goF (most : Nat) (down : Bool) (L : List Mk) : Nat → Nat → List Stp
  | 0, _ => []
  | f + 1, i => if i < L.length - 1 then (gM L (toJ most down L i), down, ()) :: goF most down L f (toJ most down L i) else []
theorem toJ_bd {most : Nat} (hm : 1 ≤ most) (down : Bool) {a b : Mk} (ha : OnP a) (hb : OnP b) {i : Nat} (h : i < (lineM a b).length - 1) : i < toJ most down (lineM a b) i ∧ toJ most down (lineM a b) i ≤ (lineM a b).length - 1 := by
  have hl := lineM_length ha hb
  unfold toJ
  split
  · have h1 := bkJ_gt ha hb (i := i) (by omega) (min (i + most) ((lineM a b).length - 1)) (by omega) (by omega)
    have h2 := bkJ_le (lineM a b) i (min (i + most) ((lineM a b).length - 1))
    omega
  · omega
def goL (most : Nat) (down : Bool) (a b : Mk) : List Stp := goF most down (lineM a b) 64 0
theorem goF_last (most : Nat) (down : Bool) (L : List Mk) (f : Nat) {i : Nat} (h : ¬ i < L.length - 1) : goF most down L f i = [] := by
  cases f with
  | zero => rfl
  | succ f => unfold goF; rw [if_neg h]
theorem line_last {a b : Mk} (ha : OnP a) (hb : OnP b) : gM (lineM a b) ((lineM a b).length - 1) = b := by
  have hl := lineM_length ha hb
  obtain ⟨f0, _, _⟩ := far_bd ha hb
  by_cases hn : far a b = 0
  · have := far_zero ha hb hn
    subst this
    rw [lineM_same]; rfl
  · rw [lineM_get hn (by omega), show (((lineM a b).length - 1 : Nat) : Int) = far a b by omega, ptM_end ha hb hn]
/-! ### Strokes -/
structure RngT (K : List Stk) : Prop where
  len : (K.length : Int) * 24 ≤ 140737488351232
  el : ∀ s ∈ K, (s.length : Int) * 4 ≤ 140737488351232 ∧ ∀ m ∈ s, m.length = 2 ∧ ∀ v ∈ m, -32768 ≤ v ∧ v ≤ 32767
def drF (most : Nat) (st : Mk × List Stp) (m : Mk) : Mk × List Stp := (m, st.2 ++ goL most true st.1 m)
def o0 : Mk := List.replicate 2 0
/-! ### Sizes and marks -/
end Go.Cams


/- Machines that are made of stops, in plain terms. -/
namespace Go.Cams
open Go Go.Fw
end Go.Cams


/- Stretches of cams, their grids of bits and their fillings, in plain terms. -/
namespace Go.Cams
open Go Go.Fw

/-! ### Lists told by a function -/
def tb {α : Type} (n : Nat) (G : Nat → α) : List α := (List.range n).map G
theorem tb_len {α : Type} (n : Nat) (G : Nat → α) : (tb n G).length = n := by simp [tb]
theorem tb_get {α : Type} {n : Nat} {G : Nat → α} {i : Nat} (h : i < n) : (tb n G)[i]? = some (G i) := by simp [tb, h]
theorem tb_ext {α : Type} {n : Nat} {G G' : Nat → α} (h : ∀ j, j < n → G j = G' j) : tb n G = tb n G' := List.map_congr_left fun j hj => h j (by simpa using hj)
theorem tb_rep {α : Type} (n : Nat) (a : α) : List.replicate n a = tb n fun _ => a := by
  apply List.ext_getElem?
  intro i
  by_cases h : i < n
  · rw [tb_get h, List.getElem?_replicate, if_pos h]
  · rw [List.getElem?_eq_none (by simpa using h), List.getElem?_eq_none (by rw [tb_len]; omega)]
theorem tb_set {α : Type} (n : Nat) (G : Nat → α) (i : Nat) (v : α) : (tb n G).set i v = tb n fun j => if j = i then v else G j := by
  apply List.ext_getElem?
  intro j
  by_cases h : j < n
  · rw [tb_get h, List.getElem?_set]
    by_cases e : i = j
    · subst e; simp [tb_len, h]
    · rw [if_neg e, tb_get h, if_neg (fun h => e h.symm)]
  · rw [List.getElem?_eq_none (by rw [List.length_set, tb_len]; omega), List.getElem?_eq_none (by rw [tb_len]; omega)]
/-! ### Rows of bits -/
def mkN (p : Nat → Bool) : Nat → Nat
  | 0 => 0
  | n + 1 => 2 ^ n * (if p n = true then 1 else 0) + mkN p n
theorem mkN_lt (p : Nat → Bool) : ∀ n, mkN p n < 2 ^ n
  | 0 => by simp [mkN]
  | n + 1 => by
    have := mkN_lt p n
    have e : 2 ^ (n + 1) = 2 ^ n + 2 ^ n := by rw [Nat.pow_succ]; omega
    unfold mkN
    split <;> omega
theorem mkN_bit (p : Nat → Bool) : ∀ (n y : Nat), (mkN p n).testBit y = (decide (y < n) && p y)
  | 0, y => by simp [mkN]
  | n + 1, y => by
    unfold mkN
    rw [Nat.testBit_two_pow_mul_add _ (mkN_lt p n), mkN_bit p n y]
    by_cases h : y < n
    · rw [if_pos h]; simp [h, show y < n + 1 by omega]
    · rw [if_neg h]
      by_cases h2 : y = n
      · subst h2
        simp only [Nat.sub_self]
        split <;> rename_i h3 <;> simp [h3]
      · have e : decide (y < n + 1) = false := decide_eq_false (by omega)
        rw [e, Bool.false_and]
        split
        · have : (1 : Nat) = 2 ^ 1 - 1 := rfl
          rw [this, Nat.testBit_two_pow_sub_one]
          exact decide_eq_false (by omega)
        · simp
theorem mkN_congr {p q : Nat → Bool} : ∀ {n : Nat}, (∀ y, y < n → p y = q y) → mkN p n = mkN q n
  | 0, _ => rfl
  | n + 1, h => by
    unfold mkN
    rw [h n (by omega), mkN_congr fun y hy => h y (by omega)]
theorem mkN_eq {p : Nat → Bool} {n x : Nat} (hx : x < 2 ^ n) (h : ∀ y, y < n → x.testBit y = p y) : x = mkN p n := by
  apply Nat.eq_of_testBit_eq
  intro y
  rw [mkN_bit]
  by_cases hy : y < n
  · rw [h y hy]; simp [hy]
  · rw [Nat.testBit_lt_two_pow (Nat.lt_of_lt_of_le hx (Nat.pow_le_pow_right (by omega) (by omega)))]
    simp [hy]
theorem mkN_zero {p : Nat → Bool} {n : Nat} (h : ∀ y, y < n → p y = false) : mkN p n = 0 := (mkN_eq (p := p) (x := 0) (Nat.pow_pos (by omega)) (by simpa using fun y hy => (h y hy))).symm
/-- A row of 64 bits, as the program has it. -/
def row (p : Nat → Bool) : Int := ((mkN p 64 : Nat) : Int)
theorem row_lt (p : Nat → Bool) : mkN p 64 < 18446744073709551616 := mkN_lt p 64
theorem row_congr {p q : Nat → Bool} (h : ∀ y, y < 64 → p y = q y) : row p = row q := by unfold row; rw [mkN_congr h]
theorem wrU {x : Int} (h0 : 0 ≤ x) (h1 : x < 18446744073709551616) : wr .u64 x = x := by
  show IntKind.u64.wrap x = x
  simp [IntKind.wrap, IntKind.signed, IntKind.bits]; omega
theorem ofInt_nat {a : Nat} (h : a < 18446744073709551616) : (BitVec.ofInt 64 (a : Int)).toNat = a := by
  rw [BitVec.ofInt_natCast, BitVec.toNat_ofNat]; exact Nat.mod_eq_of_lt (by omega)
theorem and_nat {a b : Nat} (ha : a < 18446744073709551616) (hb : b < 18446744073709551616) : bitsI .and .u64 (a : Int) (b : Int) = ((a &&& b : Nat) : Int) := by
  show IntKind.u64.wrap ((BitVec.ofInt 64 (a : Int) &&& BitVec.ofInt 64 (b : Int)).toNat : Int) = _
  rw [BitVec.toNat_and, ofInt_nat ha, ofInt_nat hb]
  have : a &&& b < 2 ^ 64 := Nat.and_lt_two_pow _ (by omega)
  exact wrU (by omega) (by omega)
theorem or_nat {a b : Nat} (ha : a < 18446744073709551616) (hb : b < 18446744073709551616) : bitsI .or .u64 (a : Int) (b : Int) = ((a ||| b : Nat) : Int) := by
  show IntKind.u64.wrap ((BitVec.ofInt 64 (a : Int) ||| BitVec.ofInt 64 (b : Int)).toNat : Int) = _
  rw [BitVec.toNat_or, ofInt_nat ha, ofInt_nat hb]
  have : a ||| b < 2 ^ 64 := Nat.or_lt_two_pow (by omega) (by omega)
  exact wrU (by omega) (by omega)
theorem row_or (p q : Nat → Bool) : bitsI .or .u64 (row p) (row q) = row fun y => p y || q y := by
  unfold row
  rw [or_nat (row_lt p) (row_lt q)]
  refine Int.ofNat_inj.2 (mkN_eq (Nat.or_lt_two_pow (row_lt p) (row_lt q)) fun y hy => ?_)
  rw [Nat.testBit_or, mkN_bit, mkN_bit]; simp [hy]
theorem row_one {y : Nat} (hy : y < 64) : shl_ .u64 (1 : Int) (y : Int) = row fun z => z == y := by
  show IntKind.u64.wrap (1 * 2 ^ (min (y : Int).toNat 64)) = _
  have h2 : 2 ^ y < 2 ^ 64 := Nat.pow_lt_pow_right (by omega) hy
  have e : (1 : Int) * 2 ^ (min (y : Int).toNat 64) = ((2 ^ y : Nat) : Int) := by
    rw [Int.toNat_natCast, Nat.min_eq_left (by omega), Int.one_mul]; simp
  rw [e]
  have : IntKind.u64.wrap ((2 ^ y : Nat) : Int) = ((2 ^ y : Nat) : Int) := wrU (Int.natCast_nonneg _) (Int.ofNat_lt.2 h2)
  rw [this]
  unfold row
  refine Int.ofNat_inj.2 (mkN_eq h2 fun z hz => ?_)
  rw [Nat.testBit_two_pow]
  by_cases h : y = z
  · subst h; simp
  · have h' : ¬ z = y := fun e => h e.symm
    simp [h, h']
theorem shr_nat {v y : Nat} (hy : y ≤ 64) : shr_ .u64 (v : Int) (y : Int) = ((v / 2 ^ y : Nat) : Int) := by
  show Int.fdiv (v : Int) (2 ^ (min (y : Int).toNat 64)) = _
  rw [Int.toNat_natCast, Nat.min_eq_left hy]
  rw [show (2 : Int) ^ y = ((2 ^ y : Nat) : Int) by simp]
  rw [Int.fdiv_eq_ediv_of_nonneg _ (Int.natCast_nonneg _)]
  exact (Int.natCast_ediv _ _).symm
end Go.Cams


/- Stretches: which heights may follow, what can be reached, and fillings, in plain terms. -/
namespace Go.Cams
open Go Go.Fw
def hgt (c : List Int) (lo s : Int) : Int := cAt c s - lo
/-- May the height z come behind x and y, within the bound b? -/
def sp (b : Int) (x y z : Nat) : Bool := decide (2 * (y : Int) - x - b ≤ z ∧ (z : Int) ≤ 2 * (y : Int) - x + b)
structure GoodS (c : List Int) (f m lo b : Int) : Prop where
  ok : okC c = true
  hf : 0 ≤ f ∧ f < c.length
  hm : 1 ≤ m ∧ m ≤ 40
  hm2 : m ≤ c.length - 4
  hlo : 0 ≤ lo ∧ lo ≤ 9937
  hb : 0 ≤ b ∧ b ≤ 40000
  h1 : 0 ≤ hgt c lo (f - 2) ∧ hgt c lo (f - 2) ≤ 63
  h2 : 0 ≤ hgt c lo (f - 1) ∧ hgt c lo (f - 1) ≤ 63
  h3 : 0 ≤ hgt c lo (f + m) ∧ hgt c lo (f + m) ≤ 63
  h4 : 0 ≤ hgt c lo (f + m + 1) ∧ hgt c lo (f + m + 1) ≤ 63
theorem GoodS.len {c : List Int} {f m lo b : Int} (h : GoodS c f m lo b) : 8 ≤ (c.length : Int) ∧ (c.length : Int) ≤ 360 := okC_len h.ok
/-- The least number for which something holds, by halving. -/
def bs (P : Int → Bool) : Nat → Int → Int → Int
  | 0, lo, _ => lo
  | n + 1, lo, hi => if lo < hi then (if P ((lo + hi) / 2) = true then bs P n lo ((lo + hi) / 2) else bs P n ((lo + hi) / 2 + 1) hi) else lo
/-! ### The spans -/
/-! ### Grids that are being made -/
end Go.Cams
namespace Go.Cams
open Go Go.Fw
end Go.Cams
namespace Go.Cams
open Go Go.Fw
end Go.Cams


/- Fillings that are put into cams, and repairs, in plain terms. -/
namespace Go.Cams
open Go Go.Fw
end Go.Cams
namespace Go.Cams
open Go Go.Fw
end Go.Cams


/- Cuts that are done one behind another, in plain terms. -/
namespace Go.Cams
open Go Go.Fw
end Go.Cams


/- The number of bits of a word, in plain terms. -/
namespace Go.Cams
open Go Go.Fw
/-- The set bits among the first k. -/
def bct (x : Nat) : Nat → Nat
  | 0 => 0
  | k + 1 => bct x k + x / 2 ^ k % 2
def b1 (a : Nat) : Nat := (a / 2 &&& 85) + (a &&& 85)
def b2 (a : Nat) : Nat := (a / 4 &&& 51) + (a &&& 51)
def ps (x : Nat) : Nat → Nat
  | 0 => 0
  | n + 1 => 256 * ps (x / 256) n + bct (x % 256) 8
end Go.Cams


/- Two plates compared, in plain terms. -/
namespace Go.Cams
open Go Go.Fw
theorem wrap_u64 (x : Int) : 0 ≤ wr .u64 x ∧ wr .u64 x < 18446744073709551616 := by
  show 0 ≤ IntKind.u64.wrap x ∧ IntKind.u64.wrap x < _
  simp [IntKind.wrap, IntKind.signed, IntKind.bits]; omega
end Go.Cams


/- Texts of cams, in plain terms. -/
namespace Go.Cams
open Go Go.Fw
end Go.Cams
namespace Go.Cams
open Go Go.Fw
end Go.Cams
namespace Go.Cams
open Go Go.Fw
end Go.Cams


/- Programs and their texts, in plain terms. -/
namespace Go.Cams
open Go Go.Fw
structure RngMo (L : List Ct) : Prop where
  len : (L.length : Int) * 6 ≤ 140737488351232
  el : ∀ v ∈ L, (-128 ≤ v.1 ∧ v.1 ≤ 127) ∧ (-32768 ≤ v.2.1 ∧ v.2.1 ≤ 32767) ∧ (-32768 ≤ v.2.2.1 ∧ v.2.2.1 ≤ 32767)
theorem RngMo.i1 {L : List Ct} (h : RngMo L) {v : Ct} (hv : v ∈ L) : wr .i64 v.1 = v.1 := by have := (h.el v hv).1; exact wrap_id (by omega) (by omega)
theorem RngMo.i2 {L : List Ct} (h : RngMo L) {v : Ct} (hv : v ∈ L) : wr .i64 v.2.1 = v.2.1 := by have := (h.el v hv).2.1; exact wrap_id (by omega) (by omega)
theorem RngMo.i3 {L : List Ct} (h : RngMo L) {v : Ct} (hv : v ∈ L) : wr .i64 v.2.2.1 = v.2.2.1 := by have := (h.el v hv).2.2; exact wrap_id (by omega) (by omega)
structure RngPg (p : Prg) : Prop where
  t : -32768 ≤ p.1 ∧ p.1 ≤ 32767
  m : RngMo p.2.1
def moOk (v : Ct) : Bool := inR (wr .i64 v.1) 0 3 && !decide (v.2.1 < 1) && inR (wr .i64 v.2.2.1) 0 10000
def sumM : List Ct → Int
  | [] => 0
  | v :: r => v.2.1 + sumM r
def lastT (L : List Ct) : Int := ((idx L ((L.length : Int) - 1)).map fun v => v.2.2.1).getD 0
def okPg (p : Prg) : Bool := inR (p.2.1.length : Int) 1 24 && inR (wr .i64 p.1) 0 10000 && p.2.1.all moOk && inR (sumM p.2.1) 8 360 && (lastT p.2.1 == p.1)
end Go.Cams


/- What is drawn out of bytes, and lifts between others, in plain terms. -/
namespace Go.Cams
open Go Go.Fw
theorem shN_in {w k n : Int} (w0 : 0 ≤ w) (w1 : w ≤ 3) (k0 : 0 ≤ k) (k1 : k ≤ n) (n0 : 1 ≤ n) : 0 ≤ shN w k n ∧ shN w k n ≤ shD w n := by
  have m0 : 0 ≤ n - k := by omega
  have nn : 0 ≤ n := by omega
  have kk := Int.mul_nonneg k0 k0
  have kn := Int.mul_nonneg k0 nn
  have mm := Int.mul_nonneg m0 m0
  rcases (show w = 0 ∨ w = 1 ∨ w = 2 ∨ w = 3 by omega) with rfl | rfl | rfl | rfl
  · unfold shN shD; simp; omega
  · unfold shN shD
    rw [if_pos rfl, if_pos rfl]
    split
    · rename_i h
      have a : n * n - 2 * k * k = n * (n - 2 * k) + 2 * (k * (n - k)) := by grind
      have b := Int.mul_nonneg nn (show 0 ≤ n - 2 * k by omega)
      have c := Int.mul_nonneg k0 m0
      have d : 2 * k * k = 2 * (k * k) := by grind
      omega
    · rename_i h
      have a : n * n - 2 * (n - k) * (n - k) = n * (n - 2 * (n - k)) + 2 * ((n - k) * k) := by grind
      have b := Int.mul_nonneg nn (show 0 ≤ n - 2 * (n - k) by omega)
      have c := Int.mul_nonneg m0 k0
      have d : 2 * (n - k) * (n - k) = 2 * ((n - k) * (n - k)) := by grind
      omega
  · unfold shN shD
    rw [if_neg (by decide), if_pos rfl, if_neg (by decide), if_pos rfl]
    have a : 3 * k * k * n - 2 * k * k * k = k * k * (3 * n - 2 * k) := by grind
    have b := Int.mul_nonneg kk (show 0 ≤ 3 * n - 2 * k by omega)
    have c : n * n * n - (3 * k * k * n - 2 * k * k * k) = (n - k) * (n - k) * (n + 2 * k) := by grind
    have d := Int.mul_nonneg mm (show 0 ≤ n + 2 * k by omega)
    omega
  · unfold shN shD
    rw [if_neg (by decide), if_neg (by decide), if_pos rfl, if_neg (by decide), if_neg (by decide), if_pos rfl]
    have a : 10 * n * n - 15 * k * n + 6 * k * k = 6 * ((n - k) * (n - k)) + n * (4 * n - 3 * k) := by grind
    have b := Int.mul_nonneg nn (show 0 ≤ 4 * n - 3 * k by omega)
    have c : 0 ≤ 10 * n * n - 15 * k * n + 6 * k * k := by omega
    have d := Int.mul_nonneg (Int.mul_nonneg kk k0) c
    have e : n * n * n * n * n - k * k * k * (10 * n * n - 15 * k * n + 6 * k * k) = (n - k) * (n - k) * (n - k) * (n * n + 3 * n * k + 6 * k * k) := by grind
    have nn2 := Int.mul_nonneg nn nn
    have f : 0 ≤ n * n + 3 * n * k + 6 * k * k := by
      have e1 : n * n + 3 * n * k + 6 * k * k = n * n + 3 * (k * n) + 6 * (k * k) := by grind
      omega
    have h := Int.mul_nonneg (Int.mul_nonneg mm m0) f
    omega
theorem nr_in {x d lo hi : Int} (hd : 0 < d) (h1 : lo * d ≤ x) (h2 : x ≤ hi * d) : lo ≤ nr x d ∧ nr x d ≤ hi := by
  unfold nr
  constructor
  · apply (Int.le_ediv_iff_mul_le (by omega)).2
    have : lo * (2 * d) = 2 * (lo * d) := by grind
    omega
  · have : (2 * x + d) / (2 * d) < hi + 1 := by
      apply (Int.ediv_lt_iff_lt_mul (by omega)).2
      have : (hi + 1) * (2 * d) = 2 * (hi * d) + 2 * d := by grind
      omega
    omega
/-- A lift of a motion lies between its ends. -/
theorem liftP_in {f t w k n lo hi : Int} (w0 : 0 ≤ w) (w1 : w ≤ 3) (k0 : 0 ≤ k) (k1 : k ≤ n) (n0 : 1 ≤ n) (n1 : n ≤ 360) (f0 : lo ≤ f) (f1 : f ≤ hi) (t0 : lo ≤ t) (t1 : t ≤ hi) : lo ≤ liftP f t w k n ∧ liftP f t w k n ≤ hi := by
  have hd := shD_bd (w := w) n0 n1
  obtain ⟨s0, s1⟩ := shN_in w0 w1 k0 k1 n0
  unfold liftP
  generalize shN w k n = s at *
  generalize shD w n = d at *
  have a1 := Int.mul_nonneg (show 0 ≤ f - lo by omega) (show 0 ≤ d - s by omega)
  have a2 := Int.mul_nonneg (show 0 ≤ t - lo by omega) s0
  have a3 := Int.mul_nonneg (show 0 ≤ hi - f by omega) (show 0 ≤ d - s by omega)
  have a4 := Int.mul_nonneg (show 0 ≤ hi - t by omega) s0
  have e1 : f * d + (t - f) * s - lo * d = (f - lo) * (d - s) + (t - lo) * s := by grind
  have e2 : hi * d - (f * d + (t - f) * s) = (hi - f) * (d - s) + (hi - t) * s := by grind
  exact nr_in (by omega) (by omega) (by omega)
/-- A source of numbers: the bytes, how many have been read, and its state. -/
abbrev Src : Type := List Int × (Int × (Int × Unit))
/-- A number of times that a source is still read. -/
def SrcAt (k : Int) (s : Src) : Prop := (∀ v ∈ s.1, 0 ≤ v ∧ v ≤ 255) ∧ (s.1.length : Int) ≤ 1000000 ∧ 0 ≤ s.2.1 ∧ s.2.1 ≤ k
theorem SrcAt.mono {k j : Int} {s : Src} (h : SrcAt k s) (hk : k ≤ j) : SrcAt j s := ⟨h.1, h.2.1, h.2.2.1, Int.le_trans h.2.2.2 hk⟩
theorem and_255 {a : Nat} (h : a < 18446744073709551616) : bitsI .and .u64 (a : Int) (255 : Int) = ((a % 256 : Nat) : Int) := by
  rw [show (255 : Int) = ((255 : Nat) : Int) from rfl, and_nat h (by omega), show (255 : Nat) = 2 ^ 8 - 1 from rfl, Nat.and_two_pow_sub_one_eq_mod]
end Go.Cams
namespace Go.Fw
/-- A loop whose result is not told beforehand. -/
theorem loop_ex {σ α : Type} {f : Nat → σ → (σ → Option α) → Option α} (I : σ → Prop) (μ : σ → Nat) (Q : α → Prop) {x : σ} (h : I x)
    (step : ∀ x, I x → (∃ y, Q y ∧ Round (fun n ag => f n x ag) y (fun _ => False)) ∨ (∃ x1, I x1 ∧ μ x1 < μ x ∧ ∀ y, Round (fun n ag => f n x ag) y (fun x' => x' = x1))) : ∃ y, Q y ∧ Evt (fun n => loopK (f n) n x) y := by
  have key : ∀ m x, I x → μ x ≤ m → ∃ y, Q y ∧ ∃ N, ∀ n, N ≤ n → ∀ k, m < k → loopK (f n) k x = some y := by
    intro m
    induction m with
    | zero =>
      intro x hx hm
      rcases step x hx with ⟨y, hy, hR⟩ | ⟨x1, _, h2, _⟩
      · rcases hR with ⟨N, hN⟩ | ⟨_, hF, _⟩
        · refine ⟨y, hy, N, fun n hn k hk => ?_⟩
          obtain ⟨k, rfl⟩ : ∃ j, k = j + 1 := ⟨k - 1, by omega⟩
          exact hN n hn _
        · exact hF.elim
      · omega
    | succ m ih =>
      intro x hx hm
      rcases step x hx with ⟨y, hy, hR⟩ | ⟨x1, h1, h2, hR⟩
      · rcases hR with ⟨N, hN⟩ | ⟨_, hF, _⟩
        · refine ⟨y, hy, N, fun n hn k hk => ?_⟩
          obtain ⟨k, rfl⟩ : ∃ j, k = j + 1 := ⟨k - 1, by omega⟩
          exact hN n hn _
        · exact hF.elim
      · obtain ⟨y, hy, M, hM⟩ := ih x1 h1 (by omega)
        rcases hR y with ⟨N, hN⟩ | ⟨x', rfl, N, hN⟩
        · refine ⟨y, hy, N, fun n hn k hk => ?_⟩
          obtain ⟨k, rfl⟩ : ∃ j, k = j + 1 := ⟨k - 1, by omega⟩
          exact hN n hn _
        · refine ⟨y, hy, N + M, fun n hn k hk => ?_⟩
          obtain ⟨k, rfl⟩ : ∃ j, k = j + 1 := ⟨k - 1, by omega⟩
          show f n x (loopK (f n) k) = _
          exact (hN n (by omega) _).trans (hM n (by omega) k (by omega))
  obtain ⟨y, hy, N, hN⟩ := key (μ x) x h (Nat.le_refl _)
  exact ⟨y, hy, N + μ x + 1, fun n hn => hN n (by omega) n (by omega)⟩
end Go.Fw
namespace Go.Cams
open Go Go.Fw
theorem last_split {L : List Ct} (h : 0 < L.length) : ∃ M v, L = M ++ [v] := by
  refine ⟨L.take (L.length - 1), L[L.length - 1]'(by omega), ?_⟩
  have := List.take_concat_get (l := L) (i := L.length - 1) (by omega)
  rw [show L.length - 1 + 1 = L.length by omega, List.take_length] at this
  rw [← List.concat_eq_append]
  exact this.symm
theorem lastT_snoc (M : List Ct) (v : Ct) : lastT (M ++ [v]) = v.2.2.1 := by
  unfold lastT idx
  rw [if_pos (by simp), show (((M ++ [v]).length : Int) - 1).toNat = M.length by simp]
  simp
structure SmPg (p : Prg) : Prop where
  rng : RngPg p
  ok : okPg p = true
  n : (p.2.1.length : Int) ≤ 5
  sum : 8 ≤ sumM p.2.1 ∧ sumM p.2.1 ≤ 45
  t : 0 ≤ p.1 ∧ p.1 ≤ 59
  el : ∀ v ∈ p.2.1, (0 ≤ v.1 ∧ v.1 ≤ 3) ∧ (1 ≤ v.2.1 ∧ v.2.1 ≤ 45) ∧ (0 ≤ v.2.2.1 ∧ v.2.2.1 ≤ 59)
end Go.Cams
namespace Go.Fw
variable {α β σ : Type}
/-- A result of which something is told. -/
def EvtX (f : Nat → Option α) (Q : α → Prop) : Prop := ∃ y, Q y ∧ Evt f y
theorem EvtX.next {f g : Nat → Option α} {Q : α → Prop} (h : EvtX g Q) (e : ∀ n, f (n + 1) = g n) : EvtX f Q := by
  obtain ⟨y, hy, hE⟩ := h
  exact ⟨y, hy, hE.next e⟩
theorem EvtX.bind {f : Nat → Option β} {g : Nat → β → Option α} {x : β} {Q : α → Prop} (h : Evt f x) (k : EvtX (fun n => g n x) Q) : EvtX (fun n => (f n).bind (g n)) Q := by
  obtain ⟨y, hy, hE⟩ := k
  exact ⟨y, hy, Evt.bind h hE⟩
theorem EvtX.loop {f : Nat → σ → (σ → Option α) → Option α} (I : σ → Prop) (μ : σ → Nat) {Q : α → Prop} {x : σ} (h : I x)
    (step : ∀ x, I x → (∃ y, Q y ∧ Round (fun n ag => f n x ag) y (fun _ => False)) ∨ (∃ x1, I x1 ∧ μ x1 < μ x ∧ ∀ y, Round (fun n ag => f n x ag) y (fun x' => x' = x1))) : EvtX (fun n => loopK (f n) n x) Q := loop_ex I μ Q h step
end Go.Fw
namespace Go.Cams
open Go Go.Fw
/-- The lifts of a motion, and of several. -/
def seg (f : Int) (v : Ct) : List Int := (List.range v.2.1.toNat).map fun k => liftP f v.2.2.1 v.1 (k : Nat) v.2.1
def proF (f : Int) : List Ct → List Int
  | [] => []
  | v :: r => seg f v ++ proF v.2.2.1 r
theorem seg_len (f : Int) (v : Ct) : (seg f v).length = v.2.1.toNat := by simp [seg]
theorem seg_el {f : Int} {v : Ct} {lo hi : Int} (w0 : 0 ≤ v.1) (w1 : v.1 ≤ 3) (n0 : 1 ≤ v.2.1) (n1 : v.2.1 ≤ 360) (f0 : lo ≤ f) (f1 : f ≤ hi) (t0 : lo ≤ v.2.2.1) (t1 : v.2.2.1 ≤ hi) : ∀ x ∈ seg f v, lo ≤ x ∧ x ≤ hi := fun x hx => by
  unfold seg at hx
  obtain ⟨k, hk, rfl⟩ := List.mem_map.1 hx
  have := List.mem_range.1 hk
  exact liftP_in w0 w1 (by omega) (by omega) n0 n1 f0 f1 t0 t1
structure MoIn (lo hi : Int) (v : Ct) : Prop where
  w : 0 ≤ v.1 ∧ v.1 ≤ 3
  n : 1 ≤ v.2.1 ∧ v.2.1 ≤ 360
  t : lo ≤ v.2.2.1 ∧ v.2.2.1 ≤ hi
theorem proF_el {lo hi : Int} : ∀ (l : List Ct) {f : Int}, (∀ v ∈ l, MoIn lo hi v) → lo ≤ f → f ≤ hi → ∀ x ∈ proF f l, lo ≤ x ∧ x ≤ hi
  | [], _, _, _, _ => fun x hx => by cases hx
  | v :: r, f, h, f0, f1 => fun x hx => by
    have hv := h v (by simp)
    rcases List.mem_append.1 hx with hx | hx
    · exact seg_el hv.w.1 hv.w.2 hv.n.1 hv.n.2 f0 f1 hv.t.1 hv.t.2 x hx
    · exact proF_el r (fun u hu => h u (by simp [hu])) hv.t.1 hv.t.2 x hx
theorem proF_len : ∀ (l : List Ct) (f : Int), (∀ v ∈ l, 1 ≤ v.2.1) → ((proF f l).length : Int) = sumM l
  | [], _, _ => rfl
  | v :: r, f, h => by
    have h1 := h v (by simp)
    have h2 := proF_len r v.2.2.1 fun u hu => h u (by simp [hu])
    simp only [proF, sumM, List.length_append, seg_len]
    omega
theorem SmPg.ins {p : Prg} (S : SmPg p) : ∀ v ∈ p.2.1, MoIn 0 59 v := fun v hv => by
  have := S.el v hv
  exact ⟨this.1, ⟨this.2.1.1, by omega⟩, this.2.2⟩
/-- A cam as it is drawn. -/
structure SmC (c : List Int) : Prop where
  len : 8 ≤ (c.length : Int) ∧ (c.length : Int) ≤ 45
  el : ∀ v ∈ c, 0 ≤ v ∧ v ≤ 59
theorem SmPg.cam {p : Prg} (S : SmPg p) : SmC (proF p.1 p.2.1) := by
  have h := proF_len p.2.1 p.1 fun v hv => (S.ins v hv).n.1
  have := S.sum
  exact ⟨by omega, proF_el p.2.1 S.ins S.t.1 S.t.2⟩
theorem SmC.rng {c : List Int} (S : SmC c) : Rng c := rng_bd (by have := S.len; omega) fun v hv => by have := S.el v hv; omega
theorem SmC.ok {c : List Int} (S : SmC c) : okC c = true := by
  unfold okC
  have hl := S.len
  simp only [Bool.and_eq_true, inR_iff, List.all_eq_true]
  refine ⟨by omega, fun v hv => ?_⟩
  have := S.el v hv
  unfold okV
  rw [wrap_id (x := v) (by omega) (by omega), inR_iff]
  omega
end Go.Cams
namespace Go.Fw
variable {α β σ : Type}
theorem EvtX.no {c : Bool} {f g : Nat → Option α} {Q : α → Prop} (h : ¬ c = true) (k : EvtX g Q) : EvtX (fun n => if c = true then f n else g n) Q := by
  obtain ⟨y, hy, hE⟩ := k
  exact ⟨y, hy, Evt.no h hE⟩
theorem EvtX.yes {c : Bool} {f g : Nat → Option α} {Q : α → Prop} (h : c = true) (k : EvtX f Q) : EvtX (fun n => if c = true then f n else g n) Q := by
  obtain ⟨y, hy, hE⟩ := k
  exact ⟨y, hy, Evt.yes h hE⟩
theorem EvtX.chk {c : Bool} {f : Nat → Option α} {Q : α → Prop} (h : c = true) (k : EvtX f Q) : EvtX (fun n => chk c (f n)) Q := by
  obtain ⟨y, hy, hE⟩ := k
  exact ⟨y, hy, Evt.chk h hE⟩
end Go.Fw


/- Cutters as they are drawn, and which can replace which, in plain terms. -/
namespace Go.Cams
open Go Go.Fw
structure Ris (H : Nat) (h : Nat → Int) : Prop where
  zero : h 0 = 0
  up : ∀ a b, a ≤ b → b ≤ H → h a ≤ h b
  hi : ∀ a, a ≤ H → h a ≤ 1000
theorem Ris.lo {H : Nat} {h : Nat → Int} (R : Ris H h) {a : Nat} (ha : a ≤ H) : 0 ≤ h a := by
  have := R.up 0 a (by omega) ha
  rw [R.zero] at this; exact this
end Go.Cams


/- Which cutter can replace which, in plain terms. -/
namespace Go.Cams
open Go Go.Fw
/-- How high a cutter stands on another one. -/
def stTo (a b : List Int) (off : Nat) : Nat → Int
  | 0 => 0
  | i + 1 => max (stTo a b off i) (g b (off + i) - g a i)
def st (a b : List Int) (off : Nat) : Int := stTo a b off a.length
end Go.Cams
namespace Go.Cams
open Go Go.Fw
theorem byte_of {l : List Int} (h : Dom (.slc (.int .u8)) l) : ∀ v ∈ l, 0 ≤ v ∧ v ≤ 255 := fun v hv => by
  have h1 := h.2 v hv
  have h2 : IntKind.u8.min ≤ v := h1.1
  have h3 : v ≤ IntKind.u8.max := h1.2
  simp only [IntKind.min, IntKind.max, IntKind.signed, IntKind.bits] at h2 h3
  exact ⟨by simpa using h2, by simpa using h3⟩
end Go.Cams


/- A cam that is read as a program is made again by it, in plain terms. -/
namespace Go.Cams
open Go Go.Fw
end Go.Cams
namespace Go.Cams
open Go Go.Fw
end Go.Cams
namespace Go.Cams
end Go.Cams


/- The lifts of a motion rise evenly, in plain terms. -/
namespace Go.Cams
open Go Go.Fw
end Go.Cams
namespace Go.Cams
open Go Go.Fw
end Go.Cams


/- The least number of steps of a motion, its bends, and planned programs, in plain terms. -/
namespace Go.Cams
open Go Go.Fw
/-! ### Bends of a motion -/
/-! ### Planned programs -/
end Go.Cams


/- Drawn cams, lag and feet, in plain terms. -/
namespace Go.Cams
open Go Go.Fw
/-- A cam as it is drawn. -/
structure SmD (c : List Int) : Prop where
  len : 8 ≤ (c.length : Int) ∧ (c.length : Int) ≤ 36
  el : ∀ v ∈ c, 0 ≤ v ∧ v ≤ 60
theorem SmD.rng {c : List Int} (S : SmD c) : Rng c := rng_bd (by have := S.len; omega) fun v hv => by have := S.el v hv; omega
theorem okC_of {c : List Int} (h : 8 ≤ (c.length : Int) ∧ (c.length : Int) ≤ 360) (he : ∀ v ∈ c, 0 ≤ v ∧ v ≤ 10000) : okC c = true := by
  unfold okC
  simp only [Bool.and_eq_true, inR_iff, List.all_eq_true]
  exact ⟨h, fun v hv => by
    have := he v hv
    unfold okV
    rw [inR_iff, wrap_id (by omega) (by omega)]
    exact this⟩
theorem SmD.ok {c : List Int} (S : SmD c) : okC c = true := okC_of (by have := S.len; omega) fun v hv => by have := S.el v hv; omega
/-! ### What lies beside -/
/-! ### Lag -/
end Go.Cams
namespace Go.Cams
open Go Go.Fw
end Go.Cams


/- Cams that are made of cams, and runs, in plain terms. -/
namespace Go.Cams
open Go Go.Fw
/-! ### Runs -/
def lenS : List Ct → Int
  | [] => 0
  | v :: r => v.2.2.1 + lenS r
def RunOk (c : List Int) : Int → List Ct → Prop
  | _, [] => True
  | s, v :: r => v.1 = kd c s ∧ v.2.1 = s % c.length ∧ 1 ≤ v.2.2.1 ∧ (∀ k : Int, 0 ≤ k → k < v.2.2.1 → kd c (s + k) = v.1) ∧ (r ≠ [] → kd c (s + v.2.2.1) ≠ v.1) ∧ RunOk c (s + v.2.2.1) r
structure RunAt (c : List Int) (s : Int) (L : List Ct) (i : Nat) (v : Ct) : Prop where
  kind : v.1 = kd c (s + lenS (L.take i))
  start : v.2.1 = (s + lenS (L.take i)) % c.length
  one : 1 ≤ v.2.2.1
  all : ∀ k : Int, 0 ≤ k → k < v.2.2.1 → kd c (s + lenS (L.take i) + k) = v.1
  next : i + 1 < L.length → kd c (s + lenS (L.take i) + v.2.2.1) ≠ v.1
theorem RunOk.at {c : List Int} : ∀ {L : List Ct} {s : Int} {i : Nat} {v : Ct}, RunOk c s L → L[i]? = some v → RunAt c s L i v
  | [], _, _, _, _, h => by simp at h
  | u :: r, s, 0, v, ⟨h1, h2, h3, h4, h5, _⟩, h => by
    simp at h
    subst h
    have e : s + lenS ((u :: r).take 0) = s := by simp [lenS]
    refine ⟨by rw [e]; exact h1, by rw [e]; exact h2, h3, by rw [e]; exact h4, fun hl => ?_⟩
    rw [e]
    exact h5 fun e => by rw [e] at hl; simp at hl
  | u :: r, s, i + 1, v, ⟨_, _, _, _, _, h6⟩, h => by
    simp at h
    have A := RunOk.at h6 h
    have e : s + lenS ((u :: r).take (i + 1)) = s + u.2.2.1 + lenS (r.take i) := by rw [List.take_succ_cons, lenS]; omega
    exact ⟨by rw [e]; exact A.kind, by rw [e]; exact A.start, A.one, by rw [e]; exact A.all, fun hl => by rw [e]; exact A.next (by simp at hl; omega)⟩
end Go.Cams


/- Plans of cuts leave what a cutter leaves at best, in plain terms. -/
namespace Go.Cams
open Go Go.Fw
/-- Cuts of one cutter alone. -/
structure OneK (m : Nat) (L : List Ct) : Prop where
  l : (L.length : Int) ≤ 400
  el : ∀ v ∈ L, (0 ≤ v.1 ∧ v.1 < (m : Int)) ∧ (0 ≤ v.2.1 ∧ v.2.1 ≤ 10000) ∧ v.2.2.1 = 0
theorem OneK.rng {m : Nat} {L : List Ct} (h : OneK m L) (hm : m ≤ 360) : RngC L := ⟨by have := h.l; omega, fun v hv => by have := h.el v hv; omega⟩
theorem OneK.cuts {m : Nat} {L : List Ct} (h : OneK m L) (hm : m ≤ 360) {k : List Int} (hk : okK k = true) : okCuts L [k] = true := by
  have hr := h.rng hm
  simp only [okCuts, okCt, Bool.and_eq_true, inR_iff, decide_eq_true_eq, List.all_eq_true]
  refine ⟨⟨by simp, by simp [okKs, hk]⟩, h.l, fun v hv => ?_⟩
  have := h.el v hv
  simp only [ctOk, Bool.and_eq_true, inR_iff]
  rw [hr.i1 hv, hr.i2 hv, hr.i3 hv, wrap_id (by simp) (by simp)]
  simp only [List.length_cons, List.length_nil]
  omega
theorem OneK.on {m : Nat} {L : List Ct} (h : OneK m L) (hm : m ≤ 360) : onCt L (m : Int) = true := by
  have hr := h.rng hm
  simp only [onCt, List.all_eq_true]
  intro v hv
  have := h.el v hv
  rw [hr.i1 hv]
  simp
  omega
theorem OneK.code {c : List Int} {L : List Ct} (h : OneK c.length L) (ok : okC c = true) {k : List Int} (hk : okK k = true) : gvCode c [k] L = 0 := by
  have := okC_len ok
  unfold gvCode
  rw [if_pos ok, if_pos (h.cuts (by omega) hk), if_pos (h.on (by omega))]
/-! ### Cuts without those that take nothing -/
end Go.Cams


/- Fillings keep within their bounds, least bounds are least, and what is reached proves it, in plain terms. -/
namespace Go.Cams
open Go Go.Fw
/-- The heights of a cam from two steps ahead of a stretch on. -/
def hN (c : List Int) (f lo : Int) (j : Nat) : Nat := (hgt c lo (f - 2 + j)).toNat
/-! ### What a filling is -/
/-! ### What is reached -/
end Go.Cams


/- What strokes a machine's stops draw: traced with a stroke at hand, and by lengthening the last one. -/
namespace Go.Cams
open Go Go.Fw
def lastM (s : Stk) : Mk := s.getLastD []
def trS (p : List Stk × Stk) (s : Stp) : List Stk × Stk :=
  if s.2.1 = false then (if p.2 = [] then p.1 else p.1 ++ [p.2], [])
  else if p.2.length = 60 then (p.1 ++ [p.2], [lastM p.2, s.1]) else (p.1, p.2 ++ [s.1])
structure TrOk (p : List Stk × Stk) (n : Nat) : Prop where
  len : p.1.length + (if p.2 = [] then 0 else 1) ≤ n
  el : ∀ s ∈ p.1, s.length ≤ 60 ∧ ∀ m ∈ s, OnP m
  now : p.2.length ≤ 60 ∧ ∀ m ∈ p.2, OnP m
theorem lastM_mem {s : Stk} (h : s ≠ []) : lastM s ∈ s := by
  unfold lastM
  rw [List.getLastD_eq_getLast?, List.getLast?_eq_some_getLast h]
  simp
theorem TrOk.step {p : List Stk × Stk} {n : Nat} {s : Stp} (h : TrOk p n) (hs : OnP s.1) : TrOk (trS p s) (n + 1) := by
  have h1 := h.len
  unfold trS
  split
  · split
    · rename_i e
      rw [if_pos e] at h1
      exact ⟨by simp; omega, h.el, by simp⟩
    · rename_i e
      rw [if_neg e] at h1
      refine ⟨by simp; omega, fun t ht => ?_, by simp⟩
      rcases List.mem_append.1 ht with ht | ht
      · exact h.el t ht
      · rw [List.mem_singleton.1 ht]; exact h.now
  · split
    · rename_i e
      have hne : p.2 ≠ [] := fun e' => by rw [e'] at e; simp at e
      rw [if_neg hne] at h1
      refine ⟨by simp; omega, fun t ht => ?_, by simp, fun m hm => ?_⟩
      · rcases List.mem_append.1 ht with ht | ht
        · exact h.el t ht
        · rw [List.mem_singleton.1 ht]; exact h.now
      · simp only [List.mem_cons, List.not_mem_nil, or_false] at hm
        rcases hm with rfl | rfl
        · exact h.now.2 _ (lastM_mem hne)
        · exact hs
    · rename_i e
      refine ⟨?_, h.el, by simp; have := h.now.1; omega, fun m hm => ?_⟩
      · rw [if_neg (by simp)]
        show p.1.length + 1 ≤ n + 1
        split at h1 <;> omega
      · rcases List.mem_append.1 hm with hm | hm
        · exact h.now.2 m hm
        · rw [List.mem_singleton.1 hm]; exact hs
theorem trS_nil (p : List Stk × Stk) (s : Stp) : (trS p s).2 = [] ↔ s.2.1 = false := by
  unfold trS
  split
  · rename_i h; simp [h]
  · rename_i h
    split <;> simp [h]
theorem getLastD_snoc {α : Type} (l : List α) (x d : α) : (l ++ [x]).getLastD d = x := by
  rw [List.getLastD_eq_getLast?]; simp
theorem onP_rng {m : Mk} (h : OnP m) : ∀ v ∈ m, -32768 ≤ v ∧ v ≤ 32767 := by
  have hx := h.x; have hy := h.y; have hl := h.len
  match m, hl with
  | [a, b], _ =>
    have hx : 0 ≤ a ∧ a ≤ 63 := hx
    have hy : 0 ≤ b ∧ b ≤ 63 := hy
    intro v hv
    simp only [List.mem_cons, List.not_mem_nil, or_false] at hv
    rcases hv with rfl | rfl <;> omega
end Go.Cams


/- What is drawn, as a set of marks: by stops, by strokes, by strokes that are traced, by stops that are planned. -/
namespace Go.Cams
open Go Go.Fw
theorem rev_ind {α : Type} {P : List α → Prop} (h0 : P []) (h1 : ∀ l a, P l → P (l ++ [a])) (l : List α) : P l := by
  rw [← List.reverse_reverse l]
  induction l.reverse with
  | nil => exact h0
  | cons a r ih => rw [List.reverse_cons]; exact h1 _ _ ih
/-! ### Plates of marks -/
def plt (L : List Mk) : List Int := tb 64 fun y => row fun x => decide ([(x : Int), (y : Int)] ∈ L)
theorem inkP_plate (L : List Mk) {m : Mk} (h : OnP m) : inkP (plt L) m = plt (L ++ [m]) := by
  have hx := h.x; have hy := h.y
  have hm := h.eq
  obtain ⟨x, ex⟩ : ∃ x : Nat, g m 0 = x := ⟨(g m 0).toNat, by omega⟩
  obtain ⟨y, ey⟩ : ∃ y : Nat, g m 1 = y := ⟨(g m 1).toNat, by omega⟩
  unfold inkP plt
  have hg : g (tb 64 fun y => row fun x => decide ([(x : Int), (y : Int)] ∈ L)) y = row fun x => decide ([(x : Int), (y : Int)] ∈ L) := by
    unfold g
    rw [List.getD_eq_getElem?_getD, tb_get (by omega)]; rfl
  rw [ex, ey, Int.toNat_natCast, hg, row_one (by omega), row_or, tb_set]
  refine tb_ext fun j hj => ?_
  rw [ex, ey] at hm
  by_cases e : j = y
  · subst e
    rw [if_pos rfl]
    refine row_congr fun z hz => ?_
    rw [hm]
    by_cases e2 : z = x
    · subst e2; simp
    · have : ([(z : Int), (j : Int)] : Mk) ≠ [(x : Int), (j : Int)] := fun h => e2 (by injection h with h _; omega)
      have h2 : ¬ (z : Int) = (x : Int) := by omega
      simp [e2, h2]
  · rw [if_neg e]
    refine row_congr fun z hz => ?_
    rw [hm]
    have h2 : ¬ (j : Int) = (y : Int) := by omega
    simp [h2]
theorem plate_nil : plt [] = List.replicate 64 0 := by
  unfold plt
  rw [tb_rep]
  refine tb_ext fun j hj => ?_
  unfold row
  rw [mkN_zero fun y hy => by simp]; rfl
theorem inkL_plate : ∀ (M L : List Mk), (∀ m ∈ M, OnP m) → inkL (plt L) M = plt (L ++ M)
  | [], L, _ => by simp [inkL]
  | m :: M, L, h => by
    show inkL (inkP (plt L) m) M = _
    rw [inkP_plate L (h m (by simp)), inkL_plate M (L ++ [m]) fun x hx => h x (by simp [hx])]
    simp
/-! ### Marks that stops draw -/
def onk (a : Stp) : List Mk := if a.2.1 = true then [a.1] else []
def sgm (a b : Stp) : List Mk := if a.2.1 = true ∧ b.2.1 = true then lineM a.1 b.1 else []
def drw : List Stp → List Mk
  | [] => []
  | [a] => onk a
  | a :: b :: r => onk a ++ (sgm a b ++ drw (b :: r))
theorem drw_snoc : ∀ (l : List Stp) (a b : Stp) (x : Mk), x ∈ drw (l ++ [a] ++ [b]) ↔ x ∈ drw (l ++ [a]) ∨ x ∈ sgm a b ∨ x ∈ onk b
  | [], a, b, x => by simp [drw]
  | [c], a, b, x => by
    simp only [drw, List.cons_append, List.nil_append, List.mem_append]
    constructor <;> intro h
    · rcases h with h | h | h | h | h <;> simp [h]
    · rcases h with (h | h | h) | h | h <;> simp [h]
  | c :: d :: l, a, b, x => by
    have ih := drw_snoc (d :: l) a b x
    simp only [List.cons_append] at ih
    simp only [List.cons_append, drw, List.mem_append, ih]
    constructor <;> intro h
    · rcases h with h | h | h | h | h <;> simp [h]
    · rcases h with (h | h | h) | h | h <;> simp [h]
theorem drw_mem : ∀ (l : List Stp) (s : Stp), s ∈ l → s.2.1 = true → s.1 ∈ drw l
  | [], _, h, _ => by simp at h
  | [a], s, h, hd => by
    simp only [List.mem_singleton] at h
    subst h
    simp [drw, onk, hd]
  | a :: b :: r, s, h, hd => by
    simp only [drw, List.mem_append]
    rcases List.mem_cons.1 h with h | h
    · subst h; simp [onk, hd]
    · exact .inr (.inr (drw_mem (b :: r) s h hd))
theorem drw_up (l : List Stp) {b : Stp} (hb : b.2.1 = false) (x : Mk) : x ∈ drw (l ++ [b]) ↔ x ∈ drw l := by
  rcases List.eq_nil_or_concat l with rfl | ⟨l, a, rfl⟩
  · simp [drw, onk, hb]
  · rw [List.concat_eq_append, drw_snoc]; simp [sgm, onk, hb]
theorem drw_ups (l : List Stp) : ∀ (m : List Stp), (∀ b ∈ m, b.2.1 = false) → ∀ x, x ∈ drw (l ++ m) ↔ x ∈ drw l := by
  intro m
  refine rev_ind (P := fun m => (∀ b ∈ m, b.2.1 = false) → ∀ x, x ∈ drw (l ++ m) ↔ x ∈ drw l) (fun _ x => by simp) (fun m b ih h x => ?_) m
  · rw [← List.append_assoc, drw_up _ (h b (by simp)), ih fun c hc => h c (by simp [hc])]
/-! ### Marks that strokes draw -/
def dwn (m : Mk) : Stp := (m, true, ())
def drs (s : Stk) : List Mk := drw (s.map dwn)
def drK (K : List Stk) : List Mk := K.flatMap drs
theorem drs_snoc (s : Stk) (a b : Mk) (x : Mk) : x ∈ drs (s ++ [a] ++ [b]) ↔ x ∈ drs (s ++ [a]) ∨ x ∈ lineM a b ∨ x = b := by
  unfold drs
  simp only [List.map_append, List.map_cons, List.map_nil]
  rw [drw_snoc]
  simp [sgm, onk, dwn]
theorem lastM_snoc (s : Stk) (a : Mk) : lastM (s ++ [a]) = a := by unfold lastM; rw [getLastD_snoc]
/-! ### Strokes that are traced draw what the stops draw -/
structure TrD (l : List Stp) (p : List Stk × Stk) : Prop where
  same : ∀ x, x ∈ drw l ↔ x ∈ drK p.1 ∨ x ∈ drs p.2
  last : ∀ k a, l = k ++ [a] → (p.2 ≠ [] → a.1 = lastM p.2 ∧ a.2.1 = true) ∧ (p.2 = [] → a.2.1 = false)
  nil : l = [] → p = ([], [])
theorem TrD.step {l : List Stp} {p : List Stk × Stk} (h : TrD l p) (s : Stp) : TrD (l ++ [s]) (trS p s) := by
  have hnil := trS_nil p s
  refine ⟨fun x => ?_, fun k a e => ?_, fun e => by simp at e⟩
  · cases hs : s.2.1 with
    | false =>
      rw [drw_up l hs, h.same]
      unfold trS
      rw [if_pos hs]
      by_cases e : p.2 = []
      · simp [e]
      · simp [e, drK, drs, drw]
    | true =>
      by_cases e : p.2 = []
      · have h1 : x ∈ drw (l ++ [s]) ↔ x ∈ drw l ∨ x = s.1 := by
          rcases List.eq_nil_or_concat l with rfl | ⟨k, a, rfl⟩
          · simp [drw, onk, hs]
          · rw [List.concat_eq_append, drw_snoc]
            have := (h.last k a (by simp)).2 e
            simp [sgm, onk, hs, this]
        rw [h1, h.same]
        unfold trS
        simp [hs, e, drs, drw, dwn, onk]
      · rcases List.eq_nil_or_concat l with rfl | ⟨k, a, rfl⟩
        · have := h.nil rfl
          rw [this] at e
          exact absurd rfl e
        rw [List.concat_eq_append] at *
        have ha := (h.last k a rfl).1 e
        rw [drw_snoc, h.same]
        obtain ⟨q, b, hq⟩ : ∃ q b, p.2 = q ++ [b] := by
          rcases List.eq_nil_or_concat p.2 with h | ⟨q, b, h⟩
          · exact absurd h e
          · exact ⟨q, b, by rw [h, List.concat_eq_append]⟩
        have hb : lastM p.2 = b := by rw [hq, lastM_snoc]
        have h2 : x ∈ sgm a s ↔ x ∈ lineM b s.1 := by simp [sgm, ha.2, hs, ha.1, hb]
        have h3 : x ∈ onk s ↔ x = s.1 := by simp [onk, hs]
        rw [h2, h3]
        have hbm : b ∈ drs p.2 := by
          rw [hq]
          exact drw_mem _ (dwn b) (by simp [dwn]) rfl
        unfold trS
        rw [if_neg (by simp [hs])]
        split
        · rw [hb]
          have h4 : x ∈ drs [b, s.1] ↔ x = b ∨ x ∈ lineM b s.1 ∨ x = s.1 := by
            have := drs_snoc [] b s.1 x
            simp only [List.nil_append, List.cons_append] at this
            rw [this]
            simp [drs, drw, onk, dwn]
          simp only [drK, List.flatMap_append, List.flatMap_cons, List.flatMap_nil, List.append_nil, List.mem_append, h4]
          constructor <;> intro h
          · rcases h with (h | h) | h | h <;> simp [h]
          · rcases h with (h | h) | h | h | h
            · simp [h]
            · simp [h]
            · subst h; simp [hbm]
            · simp [h]
            · simp [h]
        · rw [hq, drs_snoc]
          constructor <;> intro h
          · rcases h with (h | h) | h | h <;> simp [h]
          · rcases h with h | h | h | h <;> simp [h]
  · have e : l = k ∧ s = a := by
      have := List.append_inj' e rfl
      exact ⟨this.1, by simpa using this.2⟩
    obtain ⟨rfl, rfl⟩ := e
    refine ⟨fun h2 => ?_, fun h2 => hnil.1 h2⟩
    have hs : s.2.1 = true := by
      cases hs : s.2.1 with
      | true => rfl
      | false => exact absurd (hnil.2 hs) h2
    refine ⟨?_, hs⟩
    unfold trS
    rw [if_neg (by simp [hs])]
    split
    · rfl
    · rw [lastM_snoc]
end Go.Cams


/- Stops that are planned draw what the strokes draw, and are not far apart, in plain terms. -/
namespace Go.Cams
open Go Go.Fw
/-! ### Machines -/
/-- The marks that the first stops of a machine draw. -/
def mks (m : Mch) : Nat → List Mk
  | 0 => []
  | i + 1 => mks m i ++ (onk (stopM m i) ++ sgm (stopM m i) (stopM m ((i + 1) % m.1.length)))
theorem drawTo_mks (m : Mch) (hon : ∀ i, i < m.1.length → OnP (stopM m i).1) : ∀ i, i ≤ m.1.length → drawTo m i = plt (mks m i)
  | 0, _ => plate_nil.symm
  | i + 1, hi => by
    have h1 := hon i (by omega)
    have h2 := hon ((i + 1) % m.1.length) (Nat.mod_lt _ (by omega))
    have e : ∀ L, plt (mks m i ++ L) = plt (mks m i ++ L) := fun _ => rfl
    unfold drawTo mks
    rw [drawTo_mks m hon i (by omega)]
    by_cases c : (stopM m i).2.1 = true
    · rw [if_pos c]
      have o1 : onk (stopM m i) = [(stopM m i).1] := by simp [onk, c]
      by_cases c2 : (stopM m ((i + 1) % m.1.length)).2.1 = true
      · have o2 : sgm (stopM m i) (stopM m ((i + 1) % m.1.length)) = lineM (stopM m i).1 (stopM m ((i + 1) % m.1.length)).1 := by unfold sgm; rw [if_pos ⟨c, c2⟩]
        rw [if_pos c2, inkP_plate _ h1, inkL_plate _ _ (lineM_on h1 h2), o1, o2, List.append_assoc]
      · have o2 : sgm (stopM m i) (stopM m ((i + 1) % m.1.length)) = [] := by unfold sgm; rw [if_neg (fun e => c2 e.2)]
        rw [if_neg c2, inkP_plate _ h1, o1, o2, List.append_nil]
    · have o1 : onk (stopM m i) = [] := by simp [onk, c]
      have o2 : sgm (stopM m i) (stopM m ((i + 1) % m.1.length)) = [] := by unfold sgm; rw [if_neg (fun e => c e.1)]
      rw [if_neg c, o1, o2]; simp
/-! ### Plans -/
theorem bkJ_spec (L : List Mk) (i : Nat) : ∀ j, bkJ L i j = 0 ∨ lineM (gM L i) (gM L (bkJ L i j)) = (L.take (bkJ L i j + 1)).drop i
  | 0 => .inl rfl
  | j + 1 => by
    unfold bkJ
    split
    · rename_i h; exact .inr h
    · exact bkJ_spec L i j
theorem goF_down {most : Nat} (hm : 1 ≤ most) {a b : Mk} (ha : OnP a) (hb : OnP b) : ∀ (f i : Nat) (A : List Stp), i < (lineM a b).length → (lineM a b).length ≤ f + i → (∀ x, x ∈ drw (A ++ [dwn (gM (lineM a b) i)] ++ goF most true (lineM a b) f i) ↔ x ∈ drw (A ++ [dwn (gM (lineM a b) i)]) ∨ x ∈ (lineM a b).drop i) ∧ ∃ B, A ++ [dwn (gM (lineM a b) i)] ++ goF most true (lineM a b) f i = B ++ [dwn b]
  | 0, i, A, hi, hf => by omega
  | f + 1, i, A, hi, hf => by
    have hl := line_last ha hb
    unfold goF
    by_cases h : i < (lineM a b).length - 1
    · rw [if_pos h]
      have hj := toJ_bd hm true ha hb h
      obtain ⟨j, ej⟩ : ∃ j, j = toJ most true (lineM a b) i := ⟨_, rfl⟩
      rw [← ej] at hj ⊢
      have hline : lineM (gM (lineM a b) i) (gM (lineM a b) j) = ((lineM a b).take (j + 1)).drop i := by
        have := bkJ_spec (lineM a b) i (min (i + most) ((lineM a b).length - 1))
        have e : toJ most true (lineM a b) i = bkJ (lineM a b) i (min (i + most) ((lineM a b).length - 1)) := by unfold toJ; rw [if_pos rfl]
        rw [← e, ← ej] at this
        rcases this with h | h
        · omega
        · exact h
      obtain ⟨ih1, ih2⟩ := goF_down hm ha hb f j (A ++ [dwn (gM (lineM a b) i)]) (by omega) (by omega)
      have e : A ++ [dwn (gM (lineM a b) i)] ++ (gM (lineM a b) j, true, ()) :: goF most true (lineM a b) f j = A ++ [dwn (gM (lineM a b) i)] ++ [dwn (gM (lineM a b) j)] ++ goF most true (lineM a b) f j := by simp [dwn]
      rw [e]
      refine ⟨fun x => ?_, ih2⟩
      rw [ih1, drw_snoc]
      have h2 : x ∈ sgm (dwn (gM (lineM a b) i)) (dwn (gM (lineM a b) j)) ↔ x ∈ ((lineM a b).take (j + 1)).drop i := by
        unfold sgm
        rw [if_pos ⟨rfl, rfl⟩, ← hline]; rfl
      have h3 : x ∈ onk (dwn (gM (lineM a b) j)) ↔ x = gM (lineM a b) j := by simp [onk, dwn]
      rw [h2, h3]
      have h4 : (lineM a b).drop i = ((lineM a b).take (j + 1)).drop i ++ (lineM a b).drop (j + 1) := by
        conv => lhs; rw [← List.take_append_drop (j + 1) (lineM a b)]
        rw [List.drop_append_of_le_length (by simp; omega)]
      have h5 : x ∈ (lineM a b).drop j ↔ x = gM (lineM a b) j ∨ x ∈ (lineM a b).drop (j + 1) := by
        have hg := gM_idx (L := lineM a b) (i := (j : Int)) (by omega) (by omega)
        have := hg.drop
        rw [Int.toNat_natCast] at this
        rw [this, List.mem_cons]
        have : ((j : Int) + 1).toNat = j + 1 := by omega
        rw [this]
      have h6 : gM (lineM a b) j ∈ ((lineM a b).take (j + 1)).drop i := by
        have hg := (gM_idx (L := lineM a b) (i := (j : Int)) (by omega) (by omega)).get
        rw [Int.toNat_natCast] at hg
        have : (((lineM a b).take (j + 1)).drop i)[j - i]? = some (gM (lineM a b) j) := by
          rw [List.getElem?_drop, List.getElem?_take, if_pos (by omega), show i + (j - i) = j by omega, hg]
        exact List.mem_of_getElem? this
      rw [h5, h4, List.mem_append]
      constructor <;> intro h
      · rcases h with (h | h | h) | h | h
        · simp [h]
        · simp [h]
        · subst h; simp [h6]
        · subst h; simp [h6]
        · simp [h]
      · rcases h with h | h | h <;> simp [h]
    · rw [if_neg h]
      have hi2 : i = (lineM a b).length - 1 := by omega
      refine ⟨fun x => ?_, A, by rw [hi2, hl]; simp⟩
      have hd : (lineM a b).drop i = [gM (lineM a b) i] := by
        have hg := gM_idx (L := lineM a b) (i := (i : Int)) (by omega) (by omega)
        have := hg.drop
        rw [Int.toNat_natCast, show ((i : Int) + 1).toNat = i + 1 by omega, List.drop_of_length_le (i := i + 1) (by omega)] at this
        exact this
      rw [hd, List.append_nil, List.mem_singleton]
      constructor
      · exact .inl
      · rintro (h | rfl)
        · exact h
        · exact drw_mem _ (dwn (gM (lineM a b) i)) (by simp) rfl
theorem goF_ups (most : Nat) (L : List Mk) : ∀ f i, ∀ b ∈ goF most false L f i, b.2.1 = false
  | 0, _, b, h => by simp [goF] at h
  | f + 1, i, b, h => by
    unfold goF at h
    split at h
    · rcases List.mem_cons.1 h with rfl | h
      · rfl
      · exact goF_ups most L f _ b h
    · simp at h
/-- What is known of the stops that are planned so far: where the last is, and what they draw. -/
structure PlD (st : Mk × List Stp) (S : Mk → Prop) : Prop where
  at_ : OnP st.1
  draws : ∀ x, x ∈ drw st.2 ↔ S x
  last : ∀ k a, st.2 = k ++ [a] → a.1 = st.1
theorem gM_zero_line {a b : Mk} (ha : OnP a) (hb : OnP b) : gM (lineM a b) 0 = a := by
  by_cases h : far a b = 0
  · unfold lineM; rw [if_pos h]; rfl
  · obtain ⟨f0, _, _⟩ := far_bd ha hb
    rw [lineM_get h (by omega)]
    exact ptM_zero ha hb h
theorem goF_end {most : Nat} (hm : 1 ≤ most) (down : Bool) {a b : Mk} (ha : OnP a) (hb : OnP b) : ∀ (f i : Nat), i < (lineM a b).length → (lineM a b).length ≤ f + i → ∀ k v, goF most down (lineM a b) f i = k ++ [v] → v.1 = b
  | 0, i, hi, hf => by omega
  | f + 1, i, hi, hf => by
    intro k v e
    unfold goF at e
    split at e
    · rename_i h
      have hj := toJ_bd hm down ha hb h
      by_cases h2 : toJ most down (lineM a b) i < (lineM a b).length - 1
      · cases k with
        | nil =>
          exfalso
          have hne : goF most down (lineM a b) f (toJ most down (lineM a b) i) ≠ [] := by
            cases f with
            | zero => omega
            | succ f => unfold goF; rw [if_pos h2]; simp
          simp at e
          exact hne e.2
        | cons c k =>
          simp only [List.cons_append, List.cons.injEq] at e
          exact goF_end hm down ha hb f _ (by omega) (by omega) k v e.2
      · rw [goF_last most down (lineM a b) f h2] at e
        have e2 : k = [] ∧ (gM (lineM a b) (toJ most down (lineM a b) i), down, ()) = v := by
          have := List.append_inj' (s₁ := []) (t₁ := [(gM (lineM a b) (toJ most down (lineM a b) i), down, ())]) (s₂ := k) (t₂ := [v]) e rfl
          exact ⟨this.1.symm, by simpa using this.2⟩
        rw [← e2.2]
        have : toJ most down (lineM a b) i = (lineM a b).length - 1 := by omega
        show gM (lineM a b) (toJ most down (lineM a b) i) = b
        rw [this, line_last ha hb]
    · simp at e
theorem goL_nil {most : Nat} {down : Bool} {a b : Mk} (ha : OnP a) (hb : OnP b) (h : goL most down a b = []) : a = b := by
  have hl := lineM_length ha hb
  obtain ⟨f0, _, _⟩ := far_bd ha hb
  unfold goL goF at h
  split at h
  · simp at h
  · exact far_zero ha hb (by omega)
theorem PlD.up {most : Nat} (hm : 1 ≤ most) {st : Mk × List Stp} {S : Mk → Prop} (h : PlD st S) {b : Mk} (hb : OnP b) : PlD (b, st.2 ++ goL most false st.1 b) S := by
  have hl := lineM_length h.at_ hb
  obtain ⟨f0, f1, _⟩ := far_bd h.at_ hb
  refine ⟨hb, fun x => ?_, fun k v e => ?_⟩
  · show x ∈ drw (st.2 ++ goL most false st.1 b) ↔ _
    unfold goL
    rw [drw_ups _ _ (goF_ups most _ _ _), h.draws]
  · rcases List.eq_nil_or_concat (goL most false st.1 b) with h2 | ⟨q, w, h2⟩
    · have e : st.2 ++ goL most false st.1 b = k ++ [v] := e
      rw [h2, List.append_nil] at e
      rw [h.last k v e]
      exact goL_nil h.at_ hb h2
    · rw [List.concat_eq_append] at h2
      have e : st.2 ++ goL most false st.1 b = k ++ [v] := e
      rw [h2, ← List.append_assoc] at e
      have e2 : w = v := by have := (List.append_inj' e rfl).2; simpa using this
      rw [← e2]
      exact goF_end hm false h.at_ hb 64 0 (by omega) (by omega) q w h2
theorem PlD.put {st : Mk × List Stp} {S : Mk → Prop} (h : PlD st S) : PlD (st.1, st.2 ++ [dwn st.1]) (fun x => S x ∨ x = st.1) := by
  refine ⟨h.at_, fun x => ?_, fun k v e => ?_⟩
  · show x ∈ drw (st.2 ++ [dwn st.1]) ↔ _
    rcases List.eq_nil_or_concat st.2 with h2 | ⟨q, w, h2⟩
    · have := h.draws x
      rw [h2] at this ⊢
      rw [← this]
      simp [drw, onk, dwn]
    · rw [List.concat_eq_append] at h2
      have hw := h.last q w h2
      have := h.draws x
      rw [h2] at this ⊢
      rw [drw_snoc, this]
      have h3 : x ∈ sgm w (dwn st.1) → x = st.1 := by
        intro h
        unfold sgm at h
        split at h
        · rw [hw] at h
          have e : lineM st.1 (dwn st.1).1 = [st.1] := lineM_same
          rw [e] at h
          simpa using h
        · simp at h
      have h4 : x ∈ onk (dwn st.1) ↔ x = st.1 := by simp [onk, dwn]
      rw [h4]
      constructor <;> intro h
      · rcases h with h | h | h
        · simp [h]
        · simp [h3 h]
        · simp [h]
      · rcases h with h | h <;> simp [h]
  · have e : st.2 ++ [dwn st.1] = k ++ [v] := e
    have e2 : dwn st.1 = v := by have := (List.append_inj' e rfl).2; simpa using this
    rw [← e2]; rfl
theorem PlD.down {most : Nat} (hm : 1 ≤ most) {st : Mk × List Stp} {S : Mk → Prop} (h : PlD st S) (hd : ∃ k, st.2 = k ++ [dwn st.1]) {b : Mk} (hb : OnP b) : PlD (drF most st b) (fun x => S x ∨ x ∈ lineM st.1 b) ∧ ∃ k, (drF most st b).2 = k ++ [dwn (drF most st b).1] := by
  have hl := lineM_length h.at_ hb
  obtain ⟨f0, f1, _⟩ := far_bd h.at_ hb
  obtain ⟨k, hk⟩ := hd
  have h0 := gM_zero_line h.at_ hb
  obtain ⟨h1, B, h2⟩ := goF_down hm h.at_ hb 64 0 k (by omega) (by omega)
  rw [h0, ← hk] at h1 h2
  have e : (drF most st b).2 = st.2 ++ goF most true (lineM st.1 b) 64 0 := rfl
  refine ⟨⟨hb, fun x => ?_, fun q v ev => ?_⟩, B, by rw [e, h2]; rfl⟩
  · rw [e, h1, h.draws, List.drop_zero]
  · rw [e, h2] at ev
    have e2 : dwn b = v := by have := (List.append_inj' ev rfl).2; simpa using this
    rw [← e2]; rfl
end Go.Cams


/- Machines that are compiled of strokes, in plain terms. -/
namespace Go.Cams
open Go Go.Fw
/-! ### Near -/
def endM (a : Mk) : List Stp → Mk
  | [] => a
  | s :: r => endM s.1 r
def Ch (most : Int) (a : Mk) : List Stp → Prop
  | [] => True
  | s :: r => far a s.1 ≤ most ∧ Ch most s.1 r
theorem ch_append {most : Int} : ∀ (l r : List Stp) (a : Mk), Ch most a (l ++ r) ↔ Ch most a l ∧ Ch most (endM a l) r
  | [], r, a => by simp [Ch, endM]
  | s :: l, r, a => by simp [Ch, endM, ch_append l r s.1, and_assoc]
theorem endM_snoc : ∀ (l : List Stp) (a : Mk) (s : Stp), endM a (l ++ [s]) = s.1
  | [], a, s => rfl
  | c :: l, a, s => endM_snoc l c.1 s
theorem far_self (a : Mk) : far a a = 0 := by unfold far siz; simp
/-- Stops that are near one another, on the plate, and end at a place. -/
structure Near (most : Nat) (st : Mk × List Stp) : Prop where
  at_ : OnP st.1
  ch : Ch most o0 st.2
  end_ : endM o0 st.2 = st.1
  on : ∀ v ∈ st.2, OnP v.1
theorem Near.put {most : Nat} {st : Mk × List Stp} (h : Near most st) (d : Bool) : Near most (st.1, st.2 ++ [(st.1, d, ())]) := by
  refine ⟨h.at_, ?_, by rw [endM_snoc], fun v hv => ?_⟩
  · rw [ch_append, h.end_]
    exact ⟨h.ch, by rw [far_self]; omega, trivial⟩
  · rcases List.mem_append.1 hv with hv | hv
    · exact h.on v hv
    · rw [List.mem_singleton.1 hv]; exact h.at_
/-! ### The machine -/
end Go.Cams


/- Inner loops with untold results; drawn strokes. -/
namespace Go.Fw
variable {α β σ τ : Type}
end Go.Fw
namespace Go.Cams
open Go Go.Fw
/-- Strokes as they are drawn. -/
def SmT (K : List Stk) : Prop := K.length ≤ 4 ∧ ∀ s ∈ K, (1 ≤ s.length ∧ s.length ≤ 4) ∧ ∀ m ∈ s, OnP m
theorem SmT.good {K : List Stk} (h : SmT K) : ∀ s ∈ K, (1 ≤ (s.length : Int) ∧ (s.length : Int) ≤ 60) ∧ ∀ m ∈ s, OnP m := fun s hs => ⟨by have := (h.2 s hs).1; omega, (h.2 s hs).2⟩
theorem SmT.rng {K : List Stk} (h : SmT K) : RngT K := ⟨by have := h.1; omega, fun s hs => ⟨by have := (h.2 s hs).1; omega, fun m hm => ⟨((h.2 s hs).2 m hm).len, onP_rng ((h.2 s hs).2 m hm)⟩⟩⟩
/-- No move is longer than told. -/
theorem Ch.get {most : Int} : ∀ {l : List Stp} {a : Mk}, Ch most a l → ∀ {i : Nat} {s t : Stp}, l[i]? = some s → l[i + 1]? = some t → far s.1 t.1 ≤ most
  | [], _, _, i, s, t, h, _ => by simp at h
  | [c], _, _, i, s, t, _, h => by simp at h
  | c :: d :: r, a, h, 0, s, t, h1, h2 => by
    simp at h1 h2
    subst h1; subst h2
    exact h.2.1
  | c :: d :: r, a, h, i + 1, s, t, h1, h2 => Ch.get (l := d :: r) (a := c.1) h.2 (i := i) (by simpa using h1) (by simpa using h2)
theorem Ch.first {most : Int} {l : List Stp} {a : Mk} {t : Stp} (h : Ch most a l) (h2 : l[0]? = some t) : far a t.1 ≤ most := by
  cases l with
  | nil => simp at h2
  | cons c r => simp at h2; subst h2; exact h.1
end Go.Cams
namespace Go.Cams
open Go Go.Fw
end Go.Cams


/- Flat cutters and feet; springs that keep a follower on its cam; shafts that turn with the machine, in plain terms. -/
namespace Go.Cams
open Go Go.Fw
/-! ### Flat cutters -/
/-! ### Springs -/
/-! ### Shafts that turn with the machine -/
end Go.Cams


/- Slopes, bases and wear of cams, in plain terms. -/
namespace Go.Cams
open Go Go.Fw
/-! ### Tracks -/
/-! ### Landings and wear -/
end Go.Cams


/- Slopes and bases, in plain terms. -/
namespace Go.Cams
open Go Go.Fw
abbrev Slp : Type := Int × (Int × Unit)
/-! ### Bases -/
/-! ### Bounds -/
end Go.Cams
namespace Go.Cams
open Go Go.Fw
/-- A slope that can be compared. -/
structure SlB (s : Slp) : Prop where
  p : -1000000000 ≤ s.1 ∧ s.1 ≤ 1000000000
  q : 1 ≤ s.2.1 ∧ s.2.1 ≤ 1000000000
theorem SlB.siz {s : Slp} (h : SlB s) : 0 ≤ Cams.siz s.1 ∧ Cams.siz s.1 ≤ 1000000000 := by
  have := h.p
  unfold Cams.siz; split <;> omega
end Go.Cams
namespace Go.Cams
open Go Go.Fw
end Go.Cams


/- Followers: flown steps, the hardest landing, springs that let go. In plain terms. -/
namespace Go.Cams
open Go Go.Fw
end Go.Cams


/- Texts cut at a byte, numbers read. In plain terms. -/
namespace Go.Cams
open Go Go.Fw
/-! ### Texts cut at a byte -/
end Go.Cams


/- Tracks of followers: on the cam or above it. In plain terms. -/
namespace Go.Cams
open Go Go.Fw
end Go.Cams


/- Texts cut at each byte of a kind; numerals read strictly and with a check. In plain terms. -/
namespace Go.Cams
open Go Go.Fw
/-! ### Words between bytes of a kind -/
/-! ### Numerals -/
end Go.Cams
namespace Go.Cams
open Go Go.Fw
end Go.Cams


/- Programs read from their texts. In plain terms. -/
namespace Go.Cams
open Go Go.Fw
end Go.Cams
namespace Go.Cams
open Go Go.Fw
end Go.Cams


/- Cams read from their texts. In plain terms. -/
namespace Go.Cams
open Go Go.Fw
/-! ### Runs -/
/-! ### Words of runs -/
/-- What is known of a cam as far as it is read. -/
def GoodC (c : List Int) : Prop := c.length ≤ 360 ∧ ∀ v ∈ c, 0 ≤ v ∧ v ≤ 10000
theorem GoodC.rng {c : List Int} (h : GoodC c) : Rng c := ⟨by have := h.1; omega, fun v hv => by have := h.2 v hv; omega⟩
end Go.Cams


/- Texts of shafts. In plain terms. -/
namespace Go.Cams
open Go Go.Fw
structure RngSf (s : Sft) : Prop where
  n : -32768 ≤ s.1 ∧ s.1 ≤ 32767
  d : -32768 ≤ s.2.1 ∧ s.2.1 ≤ 32767
  p : -32768 ≤ s.2.2.1 ∧ s.2.2.1 ≤ 32767
  c : Rng s.2.2.2.1
end Go.Cams


/- Shafts read from their texts. In plain terms. -/
namespace Go.Cams
open Go Go.Fw
/-! ### Lines -/
end Go.Cams


/- Cuts' texts, and what a list of cuts of one cutter does. In plain terms. -/
namespace Go.Cams
open Go Go.Fw
theorem OneK.okCt {m : Nat} {L : List Ct} (h : OneK m L) (hm : m ≤ 360) : okCt L 8 = true := by
  have hr := h.rng hm
  simp only [Go.Cams.okCt, Bool.and_eq_true, decide_eq_true_eq, List.all_eq_true]
  refine ⟨h.l, fun v hv => ?_⟩
  have := h.el v hv
  simp only [ctOk, Bool.and_eq_true, inR_iff]
  rw [hr.i1 hv, hr.i2 hv, hr.i3 hv, wrap_id (by simp) (by simp)]
  omega
/-! ### Sums -/
end Go.Cams


/- Shafts' periods, in plain terms. -/
namespace Go.Cams
open Go Go.Fw
theorem lift_eq2 {s : Sft} (h : Good s) {t : Int} (h0 : 0 ≤ t) (h1 : t ≤ 1000000) : (∃ v, idx s.2.2.2.1 (stp s t) = some v ∧ lift s t = wr .i64 v) ∧ 0 ≤ lift s t ∧ lift s t ≤ 10000 := by
  have hn := h.num
  have hd := h.den
  have hl := h.len
  have hp := h.ph
  have a : 0 * wr .i64 s.1 ≤ t * wr .i64 s.1 := Int.mul_le_mul_of_nonneg_right h0 (by omega)
  have b : t * wr .i64 s.1 ≤ 1000000 * wr .i64 s.1 := Int.mul_le_mul_of_nonneg_right h1 (by omega)
  have e1 : wr .i64 (t * wr .i64 s.1) = t * wr .i64 s.1 := wrap_id (by omega) (by omega)
  have e2 : 0 ≤ Int.tdiv (t * wr .i64 s.1) (wr .i64 s.2.1) := Int.tdiv_nonneg (by omega) (by omega)
  have e3 : Int.tdiv (t * wr .i64 s.1) (wr .i64 s.2.1) ≤ t * wr .i64 s.1 := by
    rw [Int.tdiv_eq_ediv_of_nonneg (by omega)]
    exact Int.ediv_le_self _ (by omega)
  have e4 : stp s t = Int.tmod (wr .i64 s.2.2.1 + Int.tdiv (t * wr .i64 s.1) (wr .i64 s.2.1)) (s.2.2.2.1.length : Int) := by
    unfold stp
    rw [e1, wrap_id (x := Int.tdiv _ _) (by omega) (by omega), wrap_id (by omega) (by omega)]
  have e5 : 0 ≤ stp s t := by rw [e4]; exact Int.tmod_nonneg _ (by omega)
  have e6 : stp s t < (s.2.2.2.1.length : Int) := by rw [e4]; exact Int.tmod_lt_of_pos _ (by omega)
  obtain ⟨v, hv, hv'⟩ := idx_at e5 e6
  have hc := h.cam v (List.mem_of_getElem? hv')
  have : lift s t = wr .i64 v := by unfold lift; rw [hv]
  exact ⟨⟨v, hv, this⟩, by omega, by omega⟩
def nN (s : Sft) : Nat := (wr .i64 s.1).toNat
def nD (s : Sft) : Nat := (wr .i64 s.2.1).toNat
def nL (s : Sft) : Nat := s.2.2.2.1.length
def nP (s : Sft) : Nat := (wr .i64 s.2.2.1).toNat
theorem Good.nn {s : Sft} (h : Good s) : (wr .i64 s.1 = (nN s : Int) ∧ 1 ≤ nN s ∧ nN s ≤ 60) ∧ (wr .i64 s.2.1 = (nD s : Int) ∧ 1 ≤ nD s ∧ nD s ≤ 60) ∧ (8 ≤ nL s ∧ nL s ≤ 360) ∧ (wr .i64 s.2.2.1 = (nP s : Int) ∧ nP s ≤ 360) := by
  have h1 := h.num
  have h2 := h.den
  have h3 := h.len
  have h4 := h.ph
  unfold nN nD nL nP
  omega
/-- A shaft that is drawn. -/
structure DrS (s : Sft) : Prop where
  n : 1 ≤ s.1 ∧ s.1 ≤ 3
  d : 1 ≤ s.2.1 ∧ s.2.1 ≤ 3
  l : 8 ≤ s.2.2.2.1.length ∧ s.2.2.2.1.length ≤ 16
  c : ∀ v ∈ s.2.2.2.1, 0 ≤ v ∧ v ≤ 9
  p : 0 ≤ s.2.2.1 ∧ s.2.2.1 < (s.2.2.2.1.length : Int)
theorem DrS.rng {s : Sft} (h : DrS s) : RngSf s := ⟨by have := h.n; omega, by have := h.d; omega, by have := h.p; have := h.l; omega, rng_bd (by have := h.l; omega) fun v hv => by have := h.c v hv; omega⟩
theorem DrS.ok {s : Sft} (h : DrS s) : okS s = true := by
  have h1 := h.n
  have h2 := h.d
  have h3 := h.l
  have h4 := h.p
  simp only [okS, okC, Bool.and_eq_true, inR_iff, List.all_eq_true]
  rw [wrap_id (x := s.1) (by omega) (by omega), wrap_id (x := s.2.1) (by omega) (by omega), wrap_id (x := s.2.2.1) (by omega) (by omega), wrap_id (by omega) (by omega)]
  refine ⟨⟨⟨by omega, by omega⟩, ⟨by omega, fun v hv => ?_⟩⟩, by omega⟩
  have := h.c v hv
  simp only [okV, inR_iff]
  rw [wrap_id (by omega) (by omega)]
  omega
theorem drA {l : List Sft} (h0 : 1 ≤ l.length ∧ l.length ≤ 3) (h : ∀ s ∈ l, DrS s) : okA l = true := by
  simp only [okA, Bool.and_eq_true, inR_iff, List.all_eq_true]
  exact ⟨by omega, fun s hs => (h s hs).ok⟩
end Go.Cams


/- Cams turned and mirrored, in plain terms. -/
namespace Go.Cams
open Go Go.Fw
/-! ### Mirrors -/
/-! ### Which of two turns comes first -/
def LexP (a b : Int → Int) (n : Nat) : Prop := ∃ i : Nat, i < n ∧ (∀ j : Nat, j < i → a j = b j) ∧ a i < b i
noncomputable instance lexD (a b : Int → Int) (n : Nat) : Decidable (LexP a b n) := Classical.propDecidable _
/-! ### Sums -/
/-! ### The greatest's place -/
end Go.Cams


/- Plates' texts in base 16, in plain terms. -/
namespace Go.Cams
open Go Go.Fw
end Go.Cams


/- Plates read from their texts in base 16, in plain terms. -/
namespace Go.Cams
open Go Go.Fw
end Go.Cams


/- Grids' texts, in plain terms. -/
namespace Go.Cams
open Go Go.Fw
/-! ### Repairs -/
end Go.Cams


/- Digits of base 16 gathered, in plain terms. -/
namespace Go.Cams
open Go Go.Fw
end Go.Cams


/- The greatest of numbers, as the reference finds it. -/
namespace Go.Cams
open Go Go.Fw
end Go.Cams


/- Free stretches of steps, in plain terms. -/
namespace Go.Cams
open Go Go.Fw
def hF (h : List Bool) (j : Nat) : Bool := h.getD (j % h.length) false
/-! ### Sorted -/
end Go.Cams


/- Even fillings, in plain terms. -/
namespace Go.Cams
open Go Go.Fw
/-- The code of a cam and of held steps. -/
def hcode (c : List Int) (h : List Bool) : Int := if okC c = false then 1 else if h.length ≠ c.length then 2 else 0
end Go.Cams


/- Rounds, dwells, even fillings within a cam's range, in plain terms. -/
namespace Go.Cams
open Go Go.Fw
/-- What is kept: the steps, the range, the held lifts. -/
structure KpC (c : List Int) (h : List Bool) (lo hi : Int) (d : List Int) : Prop where
  len : d.length = c.length
  el : ∀ v ∈ d, lo ≤ v ∧ v ≤ hi
  held : ∀ i, i < c.length → hF h i = true → g d i = g c i
theorem KpC.at {c d : List Int} {h : List Bool} {lo hi : Int} (K : KpC c h lo hi d) (h0 : 0 < c.length) (x : Int) : lo ≤ cAt d x ∧ cAt d x ≤ hi := K.el _ (cAt_mem (by rw [K.len]; exact h0) x)
/-! ### Fillings -/
/-! ### Free steps, counted -/
/-! ### Sums -/
end Go.Cams


/- Machines that are turned, flipped, done one behind another; the time of the pen. In plain terms. -/
namespace Go.Cams
open Go Go.Fw
structure DrM (m : Mch) : Prop where
  len : 8 ≤ m.1.length ∧ m.1.length ≤ 27
  ly : m.2.1.length = m.1.length
  lp : m.2.2.1.length = m.1.length
  x : ∀ v ∈ m.1, 0 ≤ v ∧ v ≤ 63
  y : ∀ v ∈ m.2.1, 0 ≤ v ∧ v ≤ 63
  p : ∀ v ∈ m.2.2.1, 0 ≤ v ∧ v ≤ 1
theorem headD_el {l : List Int} {a b : Int} (h : 0 < l.length) (hb : ∀ v ∈ l, a ≤ v ∧ v ≤ b) : a ≤ l.headD 0 ∧ l.headD 0 ≤ b := by
  cases l with
  | nil => exact absurd h (by simp)
  | cons v r => exact hb v (by simp)
theorem mv_of {l : List Int} (h : 8 ≤ l.length ∧ l.length ≤ 360) (hb : ∀ v ∈ l, 0 ≤ v ∧ v ≤ 63) : mv l = true := by
  unfold mv
  rw [okC_of (by omega) (fun v hv => by have := hb v hv; omega)]
  have h1 := mxF_le l (l.headD 0) 63 (headD_el (by omega) hb).2 fun v hv => (hb v hv).2
  have : mxL l < 64 := by show mxF l (l.headD 0) < 64; omega
  simp [this]
theorem okM_of {m : Mch} (h : 8 ≤ m.1.length ∧ m.1.length ≤ 360) (ly : m.2.1.length = m.1.length) (lp : m.2.2.1.length = m.1.length) (x : ∀ v ∈ m.1, 0 ≤ v ∧ v ≤ 63) (y : ∀ v ∈ m.2.1, 0 ≤ v ∧ v ≤ 63) (p : ∀ v ∈ m.2.2.1, 0 ≤ v ∧ v ≤ 1) : okM m = true := by
  unfold okM
  rw [mv_of h x, mv_of (by omega) y, okC_of (c := m.2.2.1) (by omega) (fun v hv => by have := p v hv; omega), ly, lp]
  simp
theorem rngM_of' {m : Mch} (h : m.1.length ≤ 360) (ly : m.2.1.length = m.1.length) (lp : m.2.2.1.length = m.1.length) (x : ∀ v ∈ m.1, 0 ≤ v ∧ v ≤ 63) (y : ∀ v ∈ m.2.1, 0 ≤ v ∧ v ≤ 63) (p : ∀ v ∈ m.2.2.1, 0 ≤ v ∧ v ≤ 1) : RngM m :=
  ⟨rng_bd (by omega) fun v hv => by have := x v hv; omega, rng_bd (by omega) fun v hv => by have := y v hv; omega, rng_bd (by omega) fun v hv => by have := p v hv; omega⟩
theorem DrM.ok {m : Mch} (D : DrM m) : okM m = true := okM_of (by have := D.len; omega) D.ly D.lp D.x D.y D.p
theorem DrM.rng {m : Mch} (D : DrM m) : RngM m := rngM_of' (by have := D.len; omega) D.ly D.lp D.x D.y D.p
theorem DrM.good {m : Mch} (D : DrM m) : GoodM m := goodM D.ok
/-! ### Marks -/
theorem DrM.draws {m : Mch} (D : DrM m) : drawTo m m.1.length = plt (mks m m.1.length) := drawTo_mks m (fun _ hi => stop_on D.rng D.good hi) _ (Nat.le_refl _)
/-! ### Turned -/
/-! ### Backward twice -/
/-! ### Flipped -/
/-! ### Counted twice -/
/-! ### One behind another -/
/-! ### The time of the pen -/
end Go.Cams


/- Machines read back from their texts, in plain terms. -/
namespace Go.Cams
open Go Go.Fw
end Go.Cams


/- Machines read from their texts: both ways answer the same. In plain terms. -/
namespace Go.Cams
open Go Go.Fw
end Go.Cams


/- Programs turned round, raised and joined. In plain terms. -/
namespace Go.Cams
open Go Go.Fw
/-! ### Lifts backwards -/
/-! ### Programs made out of others -/
theorem inR_t {a b c : Int} (h : b ≤ a ∧ a ≤ c) : inR a b c = true := inR_iff.2 h
theorem pg_mk {t : Int} {L : List Ct} (hn : 1 ≤ (L.length : Int) ∧ (L.length : Int) ≤ 24) (ht : 0 ≤ t ∧ t ≤ 10000) (hi : ∀ v ∈ L, MoIn 0 10000 v) (hs : 8 ≤ sumM L ∧ sumM L ≤ 360) (hl : lastT L = t) : RngPg (t, L, ()) ∧ okPg (t, L, ()) = true := by
  have hr : RngPg (t, L, ()) := ⟨by show -32768 ≤ t ∧ t ≤ 32767; omega, ⟨by show (L.length : Int) * 6 ≤ _; omega, fun v hv => by
    have h := hi v hv
    have h1 := h.w
    have h2 := h.n
    have h3 := h.t
    omega⟩⟩
  refine ⟨hr, ?_⟩
  have hm : L.all moOk = true := List.all_eq_true.2 fun v hv => by
    have h := hi v hv
    have h1 := h.w
    have h2 := h.n
    have h3 := h.t
    unfold moOk
    rw [hr.m.i1 hv, hr.m.i3 hv, inR_t h1, inR_t h3, Bool.true_and, Bool.and_true]
    simp
    omega
  unfold okPg
  simp only
  rw [wrap_id (x := t) (by omega) (by omega), inR_t hn, inR_t ht, hm, inR_t hs, hl]
  simp
theorem okPg_last {p : Prg} (h : okPg p = true) : lastT p.2.1 = p.1 := by
  simp only [okPg, Bool.and_eq_true, beq_iff_eq] at h
  exact h.2
theorem SmPg.ne {p : Prg} (S : SmPg p) : p.2.1 ≠ [] := fun e => by
  have h := S.sum
  rw [e] at h
  simp [sumM] at h
theorem SmPg.len1 {p : Prg} (S : SmPg p) : 1 ≤ (p.2.1.length : Int) := by
  have := List.length_pos_iff.2 S.ne
  omega
/-- A program raised. -/
def upL (y : Int) (L : List Ct) : List Ct := L.map fun v => (v.1, v.2.1, v.2.2.1 + y, ())
theorem upL_len (y : Int) (L : List Ct) : (upL y L).length = L.length := by simp [upL]
theorem upL_sum (y : Int) : ∀ L : List Ct, sumM (upL y L) = sumM L
  | [] => rfl
  | v :: l => by show v.2.1 + sumM (upL y l) = _; rw [upL_sum y l]; rfl
theorem upL_last (y : Int) {L : List Ct} (h : L ≠ []) : lastT (upL y L) = lastT L + y := by
  obtain ⟨M, v, rfl⟩ := last_split (List.length_pos_iff.2 h)
  rw [lastT_snoc, show upL y (M ++ [v]) = upL y M ++ [(v.1, v.2.1, v.2.2.1 + y, ())] by simp [upL], lastT_snoc]
theorem SmPg.up {p : Prg} (S : SmPg p) {y : Int} (y0 : 0 ≤ y) (y1 : y ≤ 60) : RngPg (p.1 + y, upL y p.2.1, ()) ∧ okPg (p.1 + y, upL y p.2.1, ()) = true ∧ ∀ v ∈ upL y p.2.1, MoIn 0 10000 v := by
  have hl := S.len1
  have hn := S.n
  have ht := S.t
  have hs := S.sum
  have hi : ∀ v ∈ upL y p.2.1, MoIn 0 10000 v := fun v hv => by
    obtain ⟨u, hu, rfl⟩ := List.mem_map.1 hv
    have h := S.ins u hu
    exact ⟨h.w, h.n, by have := h.t; show 0 ≤ u.2.2.1 + y ∧ u.2.2.1 + y ≤ 10000; omega⟩
  obtain ⟨h1, h2⟩ := pg_mk (t := p.1 + y) (L := upL y p.2.1) (by rw [upL_len]; omega) (by omega) hi (by rw [upL_sum]; omega) (by rw [upL_last y S.ne, okPg_last S.ok])
  exact ⟨h1, h2, hi⟩
end Go.Cams


/- Phases of shafts sought. In plain terms. -/
namespace Go.Cams
open Go Go.Fw
def gSf (S : List Sft) (k : Nat) : Sft := S.getD k (0, 0, 0, [], ())
def smallB (l : List Sft) : Bool := decide ((l.length : Int) ≤ 140737488351232) && l.all fun s => decide ((s.2.2.2.1.length : Int) ≤ 140737488351232)
theorem smallB_iff {l : List Sft} : smallB l = true ↔ Small l := by
  unfold smallB Small
  simp [List.all_eq_true]
/-- Two shafts clash within a period. -/
def ck2 (s u : Sft) (t a : Int) : Bool := (List.range t.toNat).any fun i => decide (lift s (i : Nat) + lift u (i : Nat) > a)
def ckB (S : List Sft) (t a : Int) (k : Nat) (ph bf : Int) : Bool := ck2 (withP (gSf S (k - 1)) bf) (withP (gSf S k) ph) t a
abbrev SkR : Type := Int × List Int × Int
/-- The phases of one shaft, one behind another: what impl does. -/
def skL (next : List Int → Int → SkR) (ck : Int → Int → Bool) (k : Nat) : Nat → Int → List Int → Int → SkR
  | 0, _, ps, l => (6, ps, l)
  | m + 1, ph, ps, l => if l = 0 then (7, ps, l) else if ck ph (ps.getD (k - 1) 0) = true then skL next ck k m (ph + 1) ps (l - 1) else
    if (next (ps.set k ph) (l - 1)).1 ≠ 6 then next (ps.set k ph) (l - 1) else skL next ck k m (ph + 1) (next (ps.set k ph) (l - 1)).2.1 (next (ps.set k ph) (l - 1)).2.2
def skP (S : List Sft) (t a : Int) : Nat → Nat → List Int → Int → SkR
  | 0, _, ps, l => (0, ps, l)
  | d + 1, k, ps, l => skL (skP S t a d (k + 1)) (ckB S t a k) k (gSf S k).2.2.2.1.length 0 ps l
def psI (S : List Sft) : List Int := wr .i64 (gSf S 0).2.2.1 :: List.replicate (S.length - 1) 0
/-- What impl answers. -/
def pfI (S : List Sft) (a b : Int) : List Int × (Int × (Int × Unit)) :=
  if (codeR S (inR a 0 20000 && inR b 0 100000)).2.1 = (0 : Int) then
    (if (skP S (codeR S (inR a 0 20000 && inR b 0 100000)).1 a (S.length - 1) 1 (psI S) b).1 = 0 then ((skP S (codeR S (inR a 0 20000 && inR b 0 100000)).1 a (S.length - 1) 1 (psI S) b).2.1, b - (skP S (codeR S (inR a 0 20000 && inR b 0 100000)).1 a (S.length - 1) 1 (psI S) b).2.2, 0, ()) else ([], 0, (skP S (codeR S (inR a 0 20000 && inR b 0 100000)).1 a (S.length - 1) 1 (psI S) b).1, ()))
  else ([], 0, (codeR S (inR a 0 20000 && inR b 0 100000)).2.1, ())
/-! ### The reference's shafts beside impl's phases -/
structure RelS (S0 : List Sft) (k : Nat) (S : List Sft) (ps : List Int) : Prop where
  len : S.length = S0.length
  pl : ps.length = S0.length
  at' : ∀ i, i < S0.length → ∃ q, 0 ≤ wr .i64 q ∧ wr .i64 q ≤ 360 ∧ S[i]? = some (withP (gSf S0 i) q) ∧ (i < k → ps[i]? = some (wr .i64 q))
theorem gSf_at {S : List Sft} {i : Nat} {s : Sft} (h : S[i]? = some s) : gSf S i = s := by simp [gSf, List.getD_eq_getElem?_getD, h]
theorem gSf_mem {S : List Sft} {i : Nat} (h : i < S.length) : S[i]? = some (gSf S i) := by
  rw [gSf_at (List.getElem?_eq_getElem h)]
  exact List.getElem?_eq_getElem h
theorem gSf_good {S : List Sft} (hG : ∀ s ∈ S, Good s) {i : Nat} (h : i < S.length) : Good (gSf S i) := hG _ (List.mem_of_getElem? (gSf_mem h))
theorem Good.withW {s : Sft} (h : Good s) {q : Int} (q0 : 0 ≤ wr .i64 q) (q1 : wr .i64 q ≤ 360) : Good (Cams.withP s q) := ⟨h.num, h.den, h.len, h.cam, q0, q1⟩
theorem RelS.mono {S0 S : List Sft} {k k' : Nat} {ps : List Int} (h : RelS S0 k S ps) (hk : k' ≤ k) : RelS S0 k' S ps :=
  ⟨h.len, h.pl, fun i hi => by
    obtain ⟨q, q0, q1, e, f⟩ := h.at' i hi
    exact ⟨q, q0, q1, e, fun hik => f (by omega)⟩⟩
theorem RelS.put {S0 S : List Sft} {k : Nat} {ps : List Int} (h : RelS S0 k S ps) {p : Int} (p0 : 0 ≤ wr .i64 p) (p1 : wr .i64 p ≤ 360) : RelS S0 k (S.set k (withP (gSf S0 k) p)) ps :=
  ⟨by rw [List.length_set]; exact h.len, h.pl, fun i hi => by
    by_cases hik : k = i
    · subst hik
      exact ⟨p, p0, p1, by rw [List.getElem?_set_self (by rw [h.len]; exact hi)], fun h => by omega⟩
    · obtain ⟨q, q0, q1, e, f⟩ := h.at' i hi
      exact ⟨q, q0, q1, by rw [List.getElem?_set_ne hik]; exact e, f⟩⟩
theorem RelS.put2 {S0 S : List Sft} {k : Nat} {ps : List Int} (h : RelS S0 k S ps) {p : Int} (p0 : 0 ≤ p) (p1 : p ≤ 360) : RelS S0 (k + 1) (S.set k (withP (gSf S0 k) p)) (ps.set k p) :=
  ⟨by rw [List.length_set]; exact h.len, by rw [List.length_set]; exact h.pl, fun i hi => by
    have hw : wr .i64 p = p := wrap_id (by omega) (by omega)
    by_cases hik : k = i
    · subst hik
      exact ⟨p, by rw [hw]; exact p0, by rw [hw]; exact p1, by rw [List.getElem?_set_self (by rw [h.len]; exact hi)], fun _ => by rw [hw, List.getElem?_set_self (by rw [h.pl]; exact hi)]⟩
    · obtain ⟨q, q0, q1, e, f⟩ := h.at' i hi
      exact ⟨q, q0, q1, by rw [List.getElem?_set_ne hik]; exact e, fun hlt => by rw [List.getElem?_set_ne hik]; exact f (by omega)⟩⟩
theorem ck2_congr {s s' u u' : Sft} (t a : Int) (h : ∀ x, lift s x = lift s' x) (k : ∀ x, lift u x = lift u' x) : ck2 s u t a = ck2 s' u' t a := by
  unfold ck2
  congr 1
  funext i
  rw [h, k]
theorem RelS.ck {S0 S : List Sft} {k : Nat} {ps : List Int} (hG : ∀ s ∈ S0, Good s) (h : RelS S0 k S ps) (h1 : 1 ≤ k) (hk : k < S0.length) (p t a : Int) : ∃ v, S[k - 1]? = some v ∧ Good v ∧ ck2 v (withP (gSf S0 k) p) t a = ckB S0 t a k p (ps.getD (k - 1) 0) := by
  obtain ⟨q, q0, q1, e, f⟩ := h.at' (k - 1) (by omega)
  have hg := (gSf_good hG (i := k - 1) (by omega)).withW q0 q1
  refine ⟨_, e, hg, ?_⟩
  have e2 : ps.getD (k - 1) 0 = wr .i64 q := by rw [List.getD_eq_getElem?_getD, f (by omega)]; rfl
  rw [e2]
  unfold ckB
  exact ck2_congr t a (fun x => (lift_wr hg x).symm) (fun _ => rfl)
theorem relS_start {S : List Sft} (hG : ∀ s ∈ S, Good s) (h1 : 1 ≤ S.length) : RelS S 1 S (psI S) :=
  ⟨rfl, by unfold psI; simp; omega, fun i hi => by
    have hg := gSf_good hG hi
    refine ⟨(gSf S i).2.2.1, hg.ph.1, hg.ph.2, gSf_mem hi, fun h0 => ?_⟩
    have : i = 0 := by omega
    subst this
    rfl⟩
/-- With all phases known they are the shafts' own. -/
theorem RelS.out {S0 S : List Sft} {ps : List Int} (h : RelS S0 S0.length S ps) : S.map (fun s => wr .i64 s.2.2.1) = ps := by
  apply List.ext_getElem?
  intro i
  by_cases hi : i < S0.length
  · obtain ⟨q, q0, q1, e, f⟩ := h.at' i hi
    rw [List.getElem?_map, e, f hi]
    rfl
  · rw [List.getElem?_eq_none (by rw [List.length_map, h.len]; omega), List.getElem?_eq_none (by rw [h.pl]; omega)]
theorem ck2_of {s u : Sft} {t a : Int} {i : Nat} (hi : i < t.toNat) (h : lift s (i : Nat) + lift u (i : Nat) > a) : ck2 s u t a = true := by
  unfold ck2
  rw [List.any_eq_true]
  exact ⟨i, List.mem_range.2 hi, decide_eq_true h⟩
theorem ck2_no {s u : Sft} {t a : Int} (h : ∀ i, i < t.toNat → ¬ lift s (i : Nat) + lift u (i : Nat) > a) : ck2 s u t a = false := by
  unfold ck2
  rw [List.any_eq_false]
  intro i hi
  simpa using h i (List.mem_range.1 hi)
theorem skL_succ (next : List Int → Int → SkR) (ck : Int → Int → Bool) (k m : Nat) (ph : Int) (ps : List Int) (l : Int) : skL next ck k (m + 1) ph ps l = if l = 0 then (7, ps, l) else if ck ph (ps.getD (k - 1) 0) = true then skL next ck k m (ph + 1) ps (l - 1) else
    if (next (ps.set k ph) (l - 1)).1 ≠ 6 then next (ps.set k ph) (l - 1) else skL next ck k m (ph + 1) (next (ps.set k ph) (l - 1)).2.1 (next (ps.set k ph) (l - 1)).2.2 := rfl
theorem skL_len {next : List Int → Int → SkR} (hn : ∀ ps l, (next ps l).2.1.length = ps.length) (ck : Int → Int → Bool) (k : Nat) : ∀ (m : Nat) (ph : Int) (ps : List Int) (l : Int), (skL next ck k m ph ps l).2.1.length = ps.length
  | 0, _, _, _ => rfl
  | m + 1, ph, ps, l => by
    rw [skL_succ]
    by_cases h0 : l = 0
    · rw [if_pos h0]
    · rw [if_neg h0]
      by_cases h1 : ck ph (ps.getD (k - 1) 0) = true
      · rw [if_pos h1, skL_len hn ck k m]
      · rw [if_neg h1]
        by_cases h2 : (next (ps.set k ph) (l - 1)).1 ≠ 6
        · rw [if_pos h2, hn, List.length_set]
        · rw [if_neg h2, skL_len hn ck k m, hn, List.length_set]
theorem skP_len (S : List Sft) (t a : Int) : ∀ (d k : Nat) (ps : List Int) (l : Int), (skP S t a d k ps l).2.1.length = ps.length
  | 0, _, _, _ => rfl
  | d + 1, k, ps, l => skL_len (fun ps l => skP_len S t a d (k + 1) ps l) _ k _ _ ps l
theorem codeR_bad {S : List Sft} (h : okA S = false) (r : Bool) : codeR S r = ((0 : Int), (1 : Int), ()) := by
  unfold codeR
  rw [if_pos h]
theorem codeR_out {S : List Sft} (h : okA S = true) : codeR S false = ((0 : Int), (2 : Int), ()) := by
  unfold codeR
  rw [if_neg (by simp [h]), if_pos rfl]
theorem pfI_code {S : List Sft} {a b : Int} {t c : Int} (h : codeR S (inR a 0 20000 && inR b 0 100000) = (t, c, ())) (hc : ¬ c = 0) : pfI S a b = ([], 0, c, ()) := by
  unfold pfI
  rw [h, if_neg hc]
end Go.Cams


/- Clashes of shafts, first ones, fewest ones, none. In plain terms. -/
namespace Go.Cams
open Go Go.Fw
theorem sc_some {a t : Int} : ∀ {L : List Sft} {i j : Int}, sc a t L i = some j → ∃ (m : Nat) (s u : Sft), j = i + m ∧ L[m]? = some s ∧ L[m + 1]? = some u ∧ lift s t + lift u t > a
  | [], _, _, h => by simp [sc] at h
  | [_], _, _, h => by simp [sc] at h
  | s :: u :: r, i, j, h => by
    unfold sc at h
    split at h
    · rename_i hc
      injection h with h
      exact ⟨0, s, u, by omega, rfl, rfl, hc⟩
    · obtain ⟨m, s', u', e, h1, h2, h3⟩ := sc_some h
      exact ⟨m + 1, s', u', by omega, h1, h2, h3⟩
theorem sc_none {a t : Int} : ∀ {L : List Sft} {i : Int}, (∀ (m : Nat) s u, L[m]? = some s → L[m + 1]? = some u → ¬ lift s t + lift u t > a) → sc a t L i = none
  | [], _, _ => rfl
  | [_], _, _ => rfl
  | s :: u :: r, i, h => by
    unfold sc
    rw [if_neg (h 0 s u rfl rfl)]
    exact sc_none fun m s' u' h1 h2 => h (m + 1) s' u' h1 h2
theorem fc_or (l : List Sft) (a : Int) : ∀ (d : Nat) (t0 : Int), fc l a d t0 = (0, 0, 0, 6, ()) ∨ ∃ (t : Int) (m : Nat) (s u : Sft), fc l a d t0 = (t, (m : Int), (m : Int) + 1, 0, ()) ∧ t0 ≤ t ∧ t < t0 + d ∧ l[m]? = some s ∧ l[m + 1]? = some u ∧ lift s t + lift u t > a
  | 0, _ => .inl rfl
  | d + 1, t0 => by
    unfold fc
    cases hs : sc a t0 l 0 with
    | some i =>
      obtain ⟨m, s, u, e, h1, h2, h3⟩ := sc_some hs
      right
      have e : i = (m : Int) := by omega
      subst e
      exact ⟨t0, m, s, u, rfl, Int.le_refl _, by omega, h1, h2, h3⟩
    | none =>
      rcases fc_or l a d (t0 + 1) with h | ⟨t, m, s, u, h, h1, h2, h3⟩
      · exact .inl h
      · exact .inr ⟨t, m, s, u, h, by omega, by omega, h3⟩
theorem fc_none {l : List Sft} {a : Int} : ∀ {d : Nat} {t0 : Int}, (∀ t, t0 ≤ t → t < t0 + d → sc a t l 0 = none) → fc l a d t0 = (0, 0, 0, 6, ())
  | 0, _, _ => rfl
  | d + 1, t0, h => by
    unfold fc
    rw [h t0 (Int.le_refl _) (by omega)]
    exact fc_none fun t h1 h2 => h t (by omega) (by omega)
theorem bst_spec (s u : Sft) (a : Int) {p : Int} (hp : 0 ≤ p) : ∀ k : Nat, 1 ≤ k → 0 ≤ (bst s u a p k).1 ∧ (bst s u a p k).1 < k ∧ (bst s u a p k).2 = cnt s (withP u (bst s u a p k).1) a p.toNat ∧ ∀ q : Nat, q < k → (bst s u a p k).2 ≤ cnt s (withP u (q : Int)) a p.toNat
  | 0, h => by omega
  | k + 1, _ => by
    have hc := cnt_le s (withP u (k : Int)) a p.toNat
    unfold bst
    by_cases hk : k = 0
    · subst hk
      have : cnt s (withP u ((0 : Nat) : Int)) a p.toNat < (bst s u a p 0).2 := by show _ < p + 1; omega
      rw [if_pos this]
      refine ⟨by simp, by simp, rfl, fun q hq => ?_⟩
      have : q = 0 := by omega
      subst this
      exact Int.le_refl _
    · obtain ⟨h1, h2, h3, h4⟩ := bst_spec s u a hp k (by omega)
      split
      · rename_i hlt
        refine ⟨by show (0 : Int) ≤ (k : Int); omega, by show (k : Int) < ((k + 1 : Nat) : Int); omega, rfl, fun q hq => ?_⟩
        by_cases hqk : q < k
        · have := h4 q hqk
          show cnt s (withP u (k : Int)) a p.toNat ≤ _
          omega
        · have : q = k := by omega
          subst this
          exact Int.le_refl _
      · rename_i hlt
        refine ⟨h1, by omega, h3, fun q hq => ?_⟩
        by_cases hqk : q < k
        · exact h4 q hqk
        · have : q = k := by omega
          subst this
          omega
/-! ### What seeking finds -/
theorem skL_pre {next : List Int → Int → SkR} {k : Nat} (hn : ∀ ps l (i : Nat), i < k + 1 → (next ps l).2.1[i]? = ps[i]?) (ck : Int → Int → Bool) : ∀ (m : Nat) (ph : Int) (ps : List Int) (l : Int) (i : Nat), i < k → (skL next ck k m ph ps l).2.1[i]? = ps[i]?
  | 0, _, _, _, _, _ => rfl
  | m + 1, ph, ps, l, i, hi => by
    have hset : (next (ps.set k ph) (l - 1)).2.1[i]? = ps[i]? := by rw [hn _ _ i (by omega), List.getElem?_set_ne (by omega)]
    rw [skL_succ]
    split
    · rfl
    split
    · exact skL_pre hn ck m _ _ _ i hi
    split
    · exact hset
    · rw [skL_pre hn ck m _ _ _ i hi]
      exact hset
theorem skP_pre (S : List Sft) (t a : Int) : ∀ (d k : Nat) (ps : List Int) (l : Int) (i : Nat), i < k → (skP S t a d k ps l).2.1[i]? = ps[i]?
  | 0, _, _, _, _, _ => rfl
  | d + 1, k, ps, l, i, hi => skL_pre (fun ps l i hi => skP_pre S t a d (k + 1) ps l i hi) _ _ _ ps l i hi
theorem skL_code {next : List Int → Int → SkR} (hn : ∀ ps l, (next ps l).1 = 0 ∨ (next ps l).1 = 6 ∨ (next ps l).1 = 7) (ck : Int → Int → Bool) (k : Nat) : ∀ (m : Nat) (ph : Int) (ps : List Int) (l : Int), (skL next ck k m ph ps l).1 = 0 ∨ (skL next ck k m ph ps l).1 = 6 ∨ (skL next ck k m ph ps l).1 = 7
  | 0, _, _, _ => .inr (.inl rfl)
  | m + 1, ph, ps, l => by
    rw [skL_succ]
    split
    · exact .inr (.inr rfl)
    split
    · exact skL_code hn ck k m _ _ _
    split
    · exact hn _ _
    · exact skL_code hn ck k m _ _ _
theorem skP_code (S : List Sft) (t a : Int) : ∀ (d k : Nat) (ps : List Int) (l : Int), (skP S t a d k ps l).1 = 0 ∨ (skP S t a d k ps l).1 = 6 ∨ (skP S t a d k ps l).1 = 7
  | 0, _, _, _ => .inl rfl
  | d + 1, k, ps, l => skL_code (fun ps l => skP_code S t a d (k + 1) ps l) _ k _ _ ps l
theorem skL_left {next : List Int → Int → SkR} (hn : ∀ ps l, 0 ≤ l → 0 ≤ (next ps l).2.2 ∧ (next ps l).2.2 ≤ l) (ck : Int → Int → Bool) (k : Nat) : ∀ (m : Nat) (ph : Int) (ps : List Int) (l : Int), 0 ≤ l → 0 ≤ (skL next ck k m ph ps l).2.2 ∧ (skL next ck k m ph ps l).2.2 ≤ l
  | 0, _, _, l, h => ⟨h, Int.le_refl _⟩
  | m + 1, ph, ps, l, h => by
    rw [skL_succ]
    split
    · exact ⟨h, Int.le_refl _⟩
    have h1 := hn (ps.set k ph) (l - 1) (by omega)
    split
    · have := skL_left hn ck k m (ph + 1) ps (l - 1) (by omega)
      omega
    split
    · omega
    · have := skL_left hn ck k m (ph + 1) (next (ps.set k ph) (l - 1)).2.1 (next (ps.set k ph) (l - 1)).2.2 h1.1
      omega
theorem skP_left (S : List Sft) (t a : Int) : ∀ (d k : Nat) (ps : List Int) (l : Int), 0 ≤ l → 0 ≤ (skP S t a d k ps l).2.2 ∧ (skP S t a d k ps l).2.2 ≤ l
  | 0, _, _, _, h => ⟨h, Int.le_refl _⟩
  | d + 1, k, ps, l, h => skL_left (fun ps l h => skP_left S t a d (k + 1) ps l h) _ k _ _ ps l h
/-- From a shaft on all phases are places of their cams, and none clashes with the one before it. -/
def FreeFrom (S : List Sft) (t a : Int) (k : Nat) (ps : List Int) : Prop := ∀ j, k ≤ j → j < S.length → ∃ q r, ps[j]? = some q ∧ ps[j - 1]? = some r ∧ 0 ≤ q ∧ q < ((gSf S j).2.2.2.1.length : Int) ∧ ckB S t a j q r = false
theorem skL_ok {S : List Sft} {t a : Int} {next : List Int → Int → SkR} {k : Nat} (k1 : 1 ≤ k) (hk : k < S.length) (hl : ∀ ps l, (next ps l).2.1.length = ps.length) (hp : ∀ ps l (i : Nat), i < k + 1 → (next ps l).2.1[i]? = ps[i]?) (hn : ∀ ps l, ps.length = S.length → (next ps l).1 = 0 → FreeFrom S t a (k + 1) (next ps l).2.1) :
    ∀ (m : Nat) (ph : Int) (ps : List Int) (l : Int), 0 ≤ ph → ph + m = ((gSf S k).2.2.2.1.length : Int) → ps.length = S.length → (skL next (ckB S t a k) k m ph ps l).1 = 0 → FreeFrom S t a k (skL next (ckB S t a k) k m ph ps l).2.1
  | 0, _, _, _, _, _, _, h => absurd h (show ¬ ((6 : Int) = 0) by decide)
  | m + 1, ph, ps, l, h0, h1, hlen, h => by
    rw [skL_succ] at h ⊢
    split at h
    · exact absurd h (show ¬ ((7 : Int) = 0) by decide)
    rename_i c1
    rw [if_neg c1]
    split at h
    · rename_i c2
      rw [if_pos c2]
      exact skL_ok k1 hk hl hp hn m _ _ _ (by omega) (by omega) hlen h
    rename_i c2
    rw [if_neg c2]
    split at h
    · rename_i c3
      rw [if_pos c3]
      intro j hkj hj
      by_cases e : k = j
      · subst e
        have e1 := hp (ps.set k ph) (l - 1) k (by omega)
        have e2 := hp (ps.set k ph) (l - 1) (k - 1) (by omega)
        rw [List.getElem?_set_self (by omega)] at e1
        rw [List.getElem?_set_ne (by omega), List.getElem?_eq_getElem (l := ps) (i := k - 1) (by omega)] at e2
        refine ⟨ph, _, e1, e2, h0, by omega, ?_⟩
        have e3 : ps.getD (k - 1) 0 = ps[k - 1] := by rw [List.getD_eq_getElem?_getD, List.getElem?_eq_getElem (by omega)]; rfl
        rw [e3] at c2
        simpa using c2
      · exact hn _ _ (by rw [List.length_set]; exact hlen) h j (by omega) hj
    · rename_i c3
      rw [if_neg c3]
      exact skL_ok k1 hk hl hp hn m (ph + 1) (next (ps.set k ph) (l - 1)).2.1 (next (ps.set k ph) (l - 1)).2.2 (by omega) (by omega) (by rw [hl, List.length_set]; exact hlen) h
theorem skP_ok {S : List Sft} {t a : Int} : ∀ (d k : Nat) (ps : List Int) (l : Int), 1 ≤ k → k + d = S.length → ps.length = S.length → (skP S t a d k ps l).1 = 0 → FreeFrom S t a k (skP S t a d k ps l).2.1
  | 0, k, ps, l, _, hkd, _, _ => fun j h1 h2 => by omega
  | d + 1, k, ps, l, k1, hkd, hlen, h =>
    skL_ok k1 (by omega) (fun ps l => skP_len S t a d (k + 1) ps l) (fun ps l i hi => skP_pre S t a d (k + 1) ps l i hi) (fun ps l hl hc => skP_ok d (k + 1) ps l (by omega) (by omega) hl hc) _ 0 ps l (Int.le_refl _) (by omega) hlen h
/-! ### Shafts with the phases that are found -/
def zipP (S : List Sft) (ps : List Int) : List Sft := List.zipWith (fun s q => withP s (wr .i16 q)) S ps
theorem phs_ok : ∀ (S : List Sft) (ps : List Int) (b : List Sft), S.length = ps.length → (∀ (i : Nat) s q, S[i]? = some s → ps[i]? = some q → inR q 0 (wr .i64 ((s.2.2.2.1.length : Int) - 1)) = true) → phs S ps b = (b ++ zipP S ps, 0, ())
  | [], _, b, _, _ => by simp [phs, zipP]
  | s :: l, [], b, h, _ => by simp at h
  | s :: l, q :: p, b, h, hi => by
    unfold phs
    rw [if_pos (hi 0 s q rfl rfl), phs_ok l p _ (by simpa using h) fun i s' q' h1 h2 => hi (i + 1) s' q' h1 h2]
    simp [zipP]
theorem per_zip : ∀ (S : List Sft) (ps : List Int) (t : Int), S.length = ps.length → per (zipP S ps) t = per S t
  | [], _, _, _ => by simp [zipP]
  | s :: l, [], t, h => by simp at h
  | s :: l, q :: p, t, h => by
    have ih := per_zip l p (nxt t s) (by simpa using h)
    show (if nxt t s > 20000 then none else per (zipP l p) (nxt t s)) = if nxt t s > 20000 then none else per l (nxt t s)
    rw [ih]
theorem zipP_at {S : List Sft} {ps : List Int} {i : Nat} {s : Sft} (h : (zipP S ps)[i]? = some s) : ∃ s' q, S[i]? = some s' ∧ ps[i]? = some q ∧ s = withP s' (wr .i16 q) := by
  unfold zipP at h
  rw [List.getElem?_zipWith] at h
  split at h
  · rename_i s' q h1 h2
    exact ⟨s', q, h1, h2, by injection h with h; exact h.symm⟩
  · cases h
theorem okS_with {s : Sft} (h : okS s = true) (hl : s.2.2.2.1.length ≤ 360) {q : Int} (q0 : 0 ≤ q) (q1 : q < (s.2.2.2.1.length : Int)) : okS (withP s (wr .i16 q)) = true := by
  have hw : wr .i16 q = q := wrap16 (by omega) (by omega)
  have hw2 : wr .i64 q = q := wrap_id (by omega) (by omega)
  have hw3 : wr .i64 ((s.2.2.2.1.length : Int) - 1) = (s.2.2.2.1.length : Int) - 1 := wrap_id (by omega) (by omega)
  simp only [okS, Bool.and_eq_true] at h ⊢
  obtain ⟨⟨⟨h1, h2⟩, h3⟩, _⟩ := h
  refine ⟨⟨⟨h1, h2⟩, h3⟩, inR_iff.2 ?_⟩
  show 0 ≤ wr .i64 (wr .i16 q) ∧ wr .i64 (wr .i16 q) ≤ wr .i64 ((s.2.2.2.1.length : Int) - 1)
  rw [hw, hw2, hw3]
  omega
/-- With phases that are found the shafts are valid, have the same period, and no first clash. -/
theorem free_set {S : List Sft} {t a : Int} {ps : List Int} (hA : okA S = true) (hper : per S 1 = some t) (ha : inR a 0 20000 = true) (hl : ps.length = S.length) (h0 : ∃ q, ps[0]? = some q ∧ 0 ≤ q ∧ q < ((gSf S 0).2.2.2.1.length : Int)) (hF : FreeFrom S t a 1 ps) :
    phR S ps = (zipP S ps, 0, ()) ∧ Small (zipP S ps) ∧ ans (zipP S ps) a = (0, 0, 0, 6, ()) := by
  obtain ⟨hn, hG⟩ := okA_good hA
  have hq : ∀ (i : Nat) s q, S[i]? = some s → ps[i]? = some q → 0 ≤ q ∧ q < (s.2.2.2.1.length : Int) := fun i s q hs hq => by
    have hiS := (List.getElem?_eq_some_iff.1 hs).1
    have eg := gSf_at hs
    by_cases hi : i = 0
    · subst hi
      obtain ⟨q', e, h1, h2⟩ := h0
      rw [hq] at e
      injection e with e
      subst e
      rw [eg] at h2
      exact ⟨h1, h2⟩
    · obtain ⟨q', r, e, _, h1, h2, _⟩ := hF i (by omega) hiS
      rw [hq] at e
      injection e with e
      subst e
      rw [eg] at h2
      exact ⟨h1, h2⟩
  have hlen : ∀ s ∈ S, s.2.2.2.1.length ≤ 360 := fun s hs => by have := (hG s hs).len; omega
  have hph : phR S ps = (zipP S ps, 0, ()) := by
    unfold phR
    rw [if_neg (by simp [hA]), if_neg (by omega), phs_ok S ps [] hl.symm fun i s q hs hq' => ?_]
    · rfl
    · have hb := hq i s q hs hq'
      have hle := hlen s (List.mem_of_getElem? hs)
      rw [inR_iff, wrap_id (x := (s.2.2.2.1.length : Int) - 1) (by omega) (by omega)]
      omega
  have hzl : (zipP S ps).length = S.length := by unfold zipP; rw [List.length_zipWith, hl, Nat.min_self]
  have hzok : ∀ s ∈ zipP S ps, okS s = true ∧ s.2.2.2.1.length ≤ 360 := fun s hs => by
    obtain ⟨i, hi⟩ := List.mem_iff_getElem?.1 hs
    obtain ⟨s', q, h1, h2, rfl⟩ := zipP_at hi
    have hm := List.mem_of_getElem? h1
    have hok : okS s' = true := by
      simp only [okA, Bool.and_eq_true, List.all_eq_true] at hA
      exact hA.2 s' hm
    have hb := hq i s' q h1 h2
    exact ⟨okS_with hok (hlen s' hm) hb.1 hb.2, hlen s' hm⟩
  have hzA : okA (zipP S ps) = true := by
    simp only [okA, Bool.and_eq_true, List.all_eq_true]
    exact ⟨inR_iff.2 (by rw [hzl]; omega), fun s hs => (hzok s hs).1⟩
  have hsm : Small (zipP S ps) := ⟨by rw [hzl]; omega, fun s hs => by have := (hzok s hs).2; omega⟩
  refine ⟨hph, hsm, ?_⟩
  obtain ⟨t0, t1⟩ := per_le hG (by omega) (by omega) hper
  have hcode : codeR (zipP S ps) (inR a 0 20000) = (t, 0, ()) := by
    unfold codeR
    rw [if_neg (by simp [hzA]), if_neg (by simp [ha])]
    unfold allR
    rw [per_zip S ps 1 hl.symm, hper]
  unfold ans
  rw [hcode]
  rw [if_neg (by simp)]
  show fc (zipP S ps) a t.toNat 0 = _
  refine fc_none fun x h1 h2 => sc_none fun m s u hs hu => ?_
  obtain ⟨s', q, e1, e2, rfl⟩ := zipP_at hs
  obtain ⟨u', r, e3, e4, rfl⟩ := zipP_at hu
  have hm := (List.getElem?_eq_some_iff.1 e3).1
  obtain ⟨q', r', g1, g2, g3, g4, g5⟩ := hF (m + 1) (by omega) hm
  rw [e4] at g1
  injection g1 with g1
  subst g1
  rw [Nat.add_sub_cancel, e2] at g2
  injection g2 with g2
  subst g2
  have hb1 := hq m s' q e1 e2
  have hb2 := hq (m + 1) u' r e3 e4
  have l1 := hlen s' (List.mem_of_getElem? e1)
  have l2 := hlen u' (List.mem_of_getElem? e3)
  rw [wrap16 (x := q) (by omega) (by omega), wrap16 (x := r) (by omega) (by omega)]
  unfold ckB ck2 at g5
  rw [Nat.add_sub_cancel, gSf_at e1, gSf_at e3, List.any_eq_false] at g5
  have h5 := g5 x.toNat (List.mem_range.2 (by omega))
  rw [show ((x.toNat : Nat) : Int) = x by omega] at h5
  simpa using h5
theorem two_of {l : List Sft} (h : (l.length : Int) > 1) : ∃ s u r, l = s :: u :: r := by
  match l, h with
  | s :: u :: r, _ => exact ⟨s, u, r, rfl⟩
  | [_], h => simp at h
  | [], h => simp at h
end Go.Cams

