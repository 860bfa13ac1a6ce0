/- What the functions compute, in plain terms: definitions and laws of lists and numbers, no program in sight. -/
import Derived.Test.YtdhgdfofgeccgaaFwC
import Derived.Lib.TrailingZeros
import Derived.Lib.ItoaLen
import Derived.Lib.ItoaMem
import Derived.Lib.Join
/- What the functions of cams and shafts compute, in plain terms. -/
namespace Go.Cams
open Go Go.Fw
abbrev Sft : Type := Int × (Int × (Int × ((List Int) × Unit)))

def inR (a b c : Int) : Bool := decide (b ≤ a ∧ a ≤ c)
def okV (v : Int) : Bool := inR (wr .i64 v) 0 10000
def okC (l : List Int) : Bool := inR (l.length : Int) 8 360 && l.all okV

/-! ### Validity -/
def fi {α : Type} (p : α → Bool) : List α → Int → Int
  | [], _ => -1
  | v :: r, i => if p v = true then i else fi p r (i + 1)
theorem fi_any {α : Type} (p : α → Bool) : ∀ (l : List α) (i : Int), 0 ≤ i → decide (fi p l i ≥ 0) = l.any p
  | [], i, _ => by simp [fi]
  | v :: r, i, h => by
    unfold fi
    by_cases hp : p v = true
    · simp [hp, h]
    · have hp' : p v = false := by simpa using hp
      simp [hp', fi_any p r (i + 1) (by omega)]

/-- A shaft that is valid. -/
def okS (s : Sft) : Bool := inR (wr .i64 s.1) 1 60 && inR (wr .i64 s.2.1) 1 60 && okC s.2.2.2.1 && inR (wr .i64 s.2.2.1) 0 (wr .i64 ((s.2.2.2.1.length : Int) - 1))
/-- What is known of a list of shafts. -/
def Small (l : List Sft) : Prop := (l.length : Int) ≤ 140737488351232 ∧ ∀ s ∈ l, (s.2.2.2.1.length : Int) ≤ 140737488351232
theorem Small.get {l : List Sft} (h : Small l) {i : Nat} {s : Sft} (hs : l[i]? = some s) : (s.2.2.2.1.length : Int) ≤ 140737488351232 := h.2 s (List.mem_of_getElem? hs)

def okA (l : List Sft) : Bool := inR (l.length : Int) 1 6 && l.all okS
/-! ### The greatest common divisor -/
/-! ### Periods -/
def gg (a b : Int) : Int := ((Nat.gcd a.toNat b.toNat : Nat) : Int)
theorem gg_pos {a b : Int} (ha : 0 < a) : 0 < gg a b := by
  have : 0 < Nat.gcd a.toNat b.toNat := Nat.gcd_pos_of_pos_left _ (by omega)
  unfold gg; omega
theorem gg_le {a b : Int} (ha : 0 < a) : gg a b ≤ a := by
  have : Nat.gcd a.toNat b.toNat ≤ a.toNat := Nat.gcd_le_left _ (by omega)
  unfold gg; omega
theorem div_pos_of {a g : Int} (hg : 0 < g) (h : g ≤ a) : 0 < Int.tdiv a g ∧ Int.tdiv a g ≤ a := by
  rw [Int.tdiv_eq_ediv_of_nonneg (by omega)]
  refine ⟨?_, Int.ediv_le_self _ (by omega)⟩
  have := (Int.le_ediv_iff_mul_le (a := 1) (b := a) hg).2 (by omega)
  omega

theorem bne_pos {a : Int} (h : 0 < a) : (a != 0) = true := by simp; omega
theorem inR_iff {a b c : Int} : inR a b c = true ↔ b ≤ a ∧ a ≤ c := by simp [inR]
structure Good (s : Sft) : Prop where
  num : 1 ≤ wr .i64 s.1 ∧ wr .i64 s.1 ≤ 60
  den : 1 ≤ wr .i64 s.2.1 ∧ wr .i64 s.2.1 ≤ 60
  len : 8 ≤ (s.2.2.2.1.length : Int) ∧ (s.2.2.2.1.length : Int) ≤ 360
  cam : ∀ v ∈ s.2.2.2.1, 0 ≤ wr .i64 v ∧ wr .i64 v ≤ 10000
  ph : 0 ≤ wr .i64 s.2.2.1 ∧ wr .i64 s.2.2.1 ≤ 360
theorem good_of {s : Sft} (h : okS s = true) : Good s := by
  simp only [okS, okC, Bool.and_eq_true, inR_iff, List.all_eq_true] at h
  obtain ⟨⟨⟨h1, h2⟩, h3, h4⟩, h5⟩ := h
  have hw : wr .i64 ((s.2.2.2.1.length : Int) - 1) = (s.2.2.2.1.length : Int) - 1 := wrap_id (by omega) (by omega)
  rw [hw] at h5
  exact ⟨h1, h2, h3, fun v hv => inR_iff.1 (h4 v hv), by omega⟩

def dl (s : Sft) : Int := wr .i64 (wr .i64 s.2.1 * (s.2.2.2.1.length : Int))
theorem dl_eq {s : Sft} (h : Good s) : 8 ≤ dl s ∧ dl s ≤ 21600 := by
  have h1 := h.den
  have h2 := h.len
  have a : wr .i64 s.2.1 * 8 ≤ wr .i64 s.2.1 * (s.2.2.2.1.length : Int) := Int.mul_le_mul_of_nonneg_left h2.1 (by omega)
  have b : wr .i64 s.2.1 * (s.2.2.2.1.length : Int) ≤ 60 * (s.2.2.2.1.length : Int) := Int.mul_le_mul_of_nonneg_right h1.2 (by omega)
  unfold dl
  rw [wrap_id (by omega) (by omega)]
  omega
def own (s : Sft) : Int := wr .i64 (Int.tdiv (dl s) (gg (dl s) (wr .i64 s.1)))
theorem own_eq {s : Sft} (h : Good s) : 1 ≤ own s ∧ own s ≤ 21600 := by
  have h1 := dl_eq h
  have hg := gg_pos (a := dl s) (b := wr .i64 s.1) (by omega)
  have hd := div_pos_of hg (gg_le (b := wr .i64 s.1) (show 0 < dl s by omega))
  unfold own
  rw [wrap_id (by omega) (by omega)]
  omega
/-- The common period, if it is short enough. -/
def nxt (t : Int) (s : Sft) : Int := wr .i64 (wr .i64 (Int.tdiv t (gg t (own s))) * own s)
def per : List Sft → Int → Option Int
  | [], t => some t
  | s :: r, t => if nxt t s > 20000 then none else per r (nxt t s)
theorem nxt_pos {t : Int} {s : Sft} (h : Good s) (h0 : 1 ≤ t) (h1 : t ≤ 20000) : 1 ≤ nxt t s := by
  have ho := own_eq h
  have hg := gg_pos (a := t) (b := own s) (by omega)
  have hd := div_pos_of hg (gg_le (b := own s) (show 0 < t by omega))
  unfold nxt
  rw [wrap_id (x := Int.tdiv t (gg t (own s))) (by omega) (by omega)]
  have a : 1 * own s ≤ Int.tdiv t (gg t (own s)) * own s := Int.mul_le_mul_of_nonneg_right (by omega) (by omega)
  have b : Int.tdiv t (gg t (own s)) * own s ≤ 20000 * own s := Int.mul_le_mul_of_nonneg_right (by omega) (by omega)
  rw [wrap_id (by omega) (by omega)]
  omega

theorem okA_good {l : List Sft} (h : okA l = true) : (1 ≤ (l.length : Int) ∧ (l.length : Int) ≤ 6) ∧ ∀ s ∈ l, Good s := by
  simp only [okA, Bool.and_eq_true, inR_iff, List.all_eq_true] at h
  exact ⟨h.1, fun s hs => good_of (h.2 s hs)⟩

def allR (l : List Sft) : (resTy [.ro (.int .i64), .ro (.int .i64)]).I := match per l 1 with | some t => (t, 0, ()) | none => (0, 3, ())
def perR (l : List Sft) : (resTy [.ro (.int .i64), .ro .bool]).I := match per l 1 with | some t => (t, true, ()) | none => (0, false, ())
/-! ### Codes -/
def fst0 : List Int → Int
  | [] => 0
  | v :: r => if v ≠ 0 then v else fst0 r
def codeR (l : List Sft) (room : Bool) : (resTy [.ro (.int .i64), .ro (.int .i64)]).I := if okA l = false then (0, 1, ()) else if room = false then (0, 2, ()) else allR l
/-! ### Lifts -/
def stp (s : Sft) (t : Int) : Int := Int.tmod (wr .i64 ((wr .i64 s.2.2.1) + (wr .i64 (Int.tdiv (wr .i64 (t * (wr .i64 s.1))) (wr .i64 s.2.1))))) (s.2.2.2.1.length : Int)
def lift (s : Sft) (t : Int) : Int := match idx s.2.2.2.1 (stp s t) with | some v => wr .i64 v | none => 0
theorem lift_eq {s : Sft} (h : Good s) {t : Int} (h0 : 0 ≤ t) (h1 : t ≤ 20000) : (∃ v, idx s.2.2.2.1 (stp s t) = some v ∧ lift s t = wr .i64 v) ∧ 0 ≤ lift s t ∧ lift s t ≤ 10000 := by
  have hn := h.num
  have hd := h.den
  have hl := h.len
  have hp := h.ph
  have a : 0 * wr .i64 s.1 ≤ t * wr .i64 s.1 := Int.mul_le_mul_of_nonneg_right h0 (by omega)
  have b : t * wr .i64 s.1 ≤ 20000 * wr .i64 s.1 := Int.mul_le_mul_of_nonneg_right h1 (by omega)
  have e1 : wr .i64 (t * wr .i64 s.1) = t * wr .i64 s.1 := wrap_id (by omega) (by omega)
  have e2 : 0 ≤ Int.tdiv (t * wr .i64 s.1) (wr .i64 s.2.1) := Int.tdiv_nonneg (by omega) (by omega)
  have e3 : Int.tdiv (t * wr .i64 s.1) (wr .i64 s.2.1) ≤ t * wr .i64 s.1 := by
    rw [Int.tdiv_eq_ediv_of_nonneg (by omega)]
    exact Int.ediv_le_self _ (by omega)
  have e4 : stp s t = Int.tmod (wr .i64 s.2.2.1 + Int.tdiv (t * wr .i64 s.1) (wr .i64 s.2.1)) (s.2.2.2.1.length : Int) := by
    unfold stp
    rw [e1, wrap_id (x := Int.tdiv _ _) (by omega) (by omega), wrap_id (by omega) (by omega)]
  have e5 : 0 ≤ stp s t := by rw [e4]; exact Int.tmod_nonneg _ (by omega)
  have e6 : stp s t < (s.2.2.2.1.length : Int) := by rw [e4]; exact Int.tmod_lt_of_pos _ (by omega)
  obtain ⟨v, hv, hv'⟩ := idx_at e5 e6
  have hc := h.cam v (List.mem_of_getElem? hv')
  have : lift s t = wr .i64 v := by unfold lift; rw [hv]
  exact ⟨⟨v, hv, this⟩, by omega, by omega⟩
theorem den_ne {s : Sft} (h : Good s) : (wr .i64 s.2.1 != 0) = true := bne_pos (by have := h.den; omega)
theorem len_ne {s : Sft} (h : Good s) : (((s.2.2.2.1.length : Nat) : Int) != 0) = true := bne_pos (by have := h.len; omega)
/-! ### Copies -/
theorem set_take {α : Type} {l : List α} {i : Nat} {v z : α} (h : l[i]? = some v) : (l.take i ++ List.replicate (l.length - i) z).set i v = l.take (i + 1) ++ List.replicate (l.length - (i + 1)) z := by
  obtain ⟨hlt, e⟩ := List.getElem?_eq_some_iff.1 h
  have h1 : (l.take i).length = i := by simp; omega
  rw [List.set_append_right _ _ (by omega), h1, Nat.sub_self]
  rw [show l.length - i = (l.length - (i + 1)) + 1 by omega, List.replicate_succ, List.set_cons_zero]
  rw [List.take_add_one, h]
  simp
/-! ### Equal to itself -/
/-! ### Sizes -/
def sz1 (l : List Int) (a : Int) : Int := if wr .i64 (a - (l.length : Int)) < 0 then -1 else wr .i64 (a - (l.length : Int))
def sz (s : Sft) (a : Int) : Int := if sz1 s.2.2.2.1 a < 0 then -1 else sz1 s.2.2.2.1 a
def szf : List Sft → Int → Int
  | [], a => a
  | s :: r, a => if sz s a < 0 then -1 else szf r (sz s a)
/-! ### All lifts -/
/-! ### The search -/
theorem per_le : ∀ {l : List Sft} {t p : Int}, (∀ s ∈ l, Good s) → 1 ≤ t → t ≤ 20000 → per l t = some p → 1 ≤ p ∧ p ≤ 20000
  | [], t, p, _, h0, h1, h => by simp [per] at h; omega
  | s :: r, t, p, hG, h0, h1, h => by
    simp only [per] at h
    split at h
    · cases h
    · rename_i hn
      exact per_le (fun s hs => hG s (by simp [hs])) (nxt_pos (hG s (by simp)) h0 h1) (by omega) h
theorem code_ok {l : List Sft} {room : Bool} (h : (codeR l room).2.1 = (0 : Int)) : okA l = true ∧ (0 : Int) ≤ (codeR l room).1 ∧ (codeR l room).1 ≤ (20000 : Int) := by
  unfold codeR at h ⊢
  split at h
  · exact absurd h (by decide)
  · rename_i h1
    split at h
    · exact absurd h (by decide)
    · rename_i h2
      have hok : okA l = true := by simpa using h1
      unfold allR at h
      cases hp : per l 1 with
      | none => rw [hp] at h; exact absurd h (by decide)
      | some p =>
        have := per_le (okA_good hok).2 (by omega) (by omega) hp
        refine ⟨hok, ?_⟩
        rw [if_neg h1, if_neg h2]
        unfold allR
        rw [hp]
        show (0 : Int) ≤ p ∧ p ≤ 20000
        omega
def sc (a t : Int) : List Sft → Int → Option Int
  | s :: u :: r, i => if lift s t + lift u t > a then some i else sc a t (u :: r) (i + 1)
  | _, _ => none
abbrev R4 : Type := Int × Int × Int × Int × Unit
def fc (l : List Sft) (a : Int) : Nat → Int → R4
  | 0, _ => (0, 0, 0, 6, ())
  | d + 1, t => match sc a t l 0 with
    | some i => (t, i, i + 1, 0, ())
    | none => fc l a d (t + 1)
def ans (l : List Sft) (a : Int) : R4 := if (codeR l (inR a 0 20000)).2.1 ≠ (0 : Int) then (0, 0, 0, (codeR l (inR a 0 20000)).2.1, ()) else fc l a (Int.toNat (codeR l (inR a 0 20000)).1) 0
theorem idx_map {l : List Sft} {t i : Int} {v : Sft} (h : idx l i = some v) : idx (l.map (lift · t)) i = some (lift v t) := by
  unfold idx at h ⊢
  split at h
  · rename_i h0
    rw [if_pos h0, List.getElem?_map, h]
    rfl
  · cases h
end Go.Cams

/- Clashes of two shafts, in plain terms. -/
namespace Go.Cams
open Go Go.Fw
def isAt (l : List Sft) (i : Int) : Bool := inR i 0 (wr .i64 ((l.length : Int) - 1))
theorem isAt_iff {l : List Sft} (h : okA l = true) {i : Int} : isAt l i = true ↔ 0 ≤ i ∧ i < (l.length : Int) := by
  have hG := (okA_good h).1
  rw [isAt, wrap_id (by omega) (by omega), inR_iff]
  omega
/-- A shaft with another phase. -/
def withP (s : Sft) (p : Int) : Sft := (s.1, s.2.1, p, s.2.2.2)
theorem Good.withP {s : Sft} (h : Good s) {p : Int} (h0 : 0 ≤ p) (h1 : p ≤ 360) : Good (withP s p) :=
  ⟨h.num, h.den, h.len, h.cam, by show 0 ≤ wr .i64 p ∧ wr .i64 p ≤ 360; rw [wrap_id (by omega) (by omega)]; omega⟩
theorem withP_self (s : Sft) : withP s s.2.2.1 = s := rfl
theorem lift_wr {s : Sft} (h : Good s) (t : Int) : lift (Cams.withP s (wr .i64 s.2.2.1)) t = lift s t := by
  have hp := h.ph
  unfold lift stp Cams.withP
  simp only [wrap_id (x := wr .i64 s.2.2.1) (by omega) (by omega)]
/-- The clashes ahead of a tick. -/
def cnt (s u : Sft) (a : Int) : Nat → Int
  | 0 => 0
  | k + 1 => if lift s k + lift u k > a then cnt s u a k + 1 else cnt s u a k
theorem cnt_le (s u : Sft) (a : Int) : ∀ k : Nat, 0 ≤ cnt s u a k ∧ cnt s u a k ≤ k
  | 0 => by simp [cnt]
  | k + 1 => by
    have := cnt_le s u a k
    unfold cnt
    split <;> omega
theorem cnt_step (s u : Sft) (a : Int) {i : Int} (h0 : 0 ≤ i) : cnt s u a (i + 1).toNat = if lift s i + lift u i > a then cnt s u a i.toNat + 1 else cnt s u a i.toNat := by
  obtain ⟨k, rfl⟩ : ∃ k : Nat, i = k := ⟨i.toNat, by omega⟩
  show cnt s u a (k + 1) = _
  rfl
theorem cnt_wr {u : Sft} (h : Good u) (s : Sft) (a : Int) : ∀ k : Nat, cnt s (Cams.withP u (wr .i64 u.2.2.1)) a k = cnt s u a k
  | 0 => rfl
  | k + 1 => by simp only [cnt, lift_wr h, cnt_wr h s a k]
/-- What is known of the arguments of a law. -/
abbrev SftTy : Ty := .pair (.int .i16) (.pair (.int .i16) (.pair (.int .i16) (.pair (.slc (.int .i16)) .unit)))
theorem shaftsDom1 {l : List Sft} (h : Dom (.slc SftTy) l) : (l.length : Int) * 32 ≤ 140737488351232 := Int.ofNat_le.2 h.1
theorem shaftsDom2 {l : List Sft} (h : Dom (.slc SftTy) l) : ∀ s ∈ l, (s.2.2.2.1.length : Int) * 2 ≤ 140737488351232 := fun s hs => Int.ofNat_le.2 (h.2 s hs).2.2.2.1.1
abbrev R2 : Type := Int × Int × Unit
/-- How many clashes two shafts of a set have. -/
def clashR (l : List Sft) (i k a : Int) : R2 :=
  if (codeR l (isAt l i && isAt l k && inR a 0 20000)).2.1 ≠ (0 : Int) then (0, (codeR l (isAt l i && isAt l k && inR a 0 20000)).2.1, ())
  else if i = k then (0, 4, ())
  else match idx l i, idx l k with
    | some s, some u => (cnt s u a (Int.toNat (codeR l (isAt l i && isAt l k && inR a 0 20000)).1), 0, ())
    | _, _ => (0, 0, ())
theorem codeR_room {l : List Sft} {room : Bool} (h : (codeR l room).2.1 = (0 : Int)) : room = true := by
  cases room with
  | true => rfl
  | false =>
    exfalso
    unfold codeR at h
    split at h
    · exact absurd h (by decide)
    · rw [if_pos rfl] at h
      exact absurd h (by decide)
end Go.Cams

/- Marks on memory, and what holds them. -/
namespace Go.Cams
open Go Go.Fw
/-- The numbers from k on, as they are laid. -/
def mkL (f : Int → Int) (n : Nat) (k : Int) : List Int := (List.range n).map fun i => f (k + (i : Nat))
theorem mkL_len (f : Int → Int) (n : Nat) (k : Int) : (mkL f n k).length = n := by simp [mkL]
theorem mkL_at (f : Int → Int) (n : Nat) (k : Int) {i : Int} {v : Int} (h : At (mkL f n k) i v) (h0 : 0 ≤ i) : v = f (k + i) := by
  have := h.get
  unfold mkL at this
  rw [List.getElem?_map] at this
  obtain ⟨j, hj, e⟩ := Option.map_eq_some_iff.1 this
  obtain ⟨hlt, e2⟩ := List.getElem?_eq_some_iff.1 hj
  simp at e2
  rw [← e, ← e2, show ((i.toNat : Nat) : Int) = i by omega]
theorem mkL_succ (f : Int → Int) (n : Nat) (k : Int) : mkL f (n + 1) k = mkL f n k ++ [f (k + n)] := by simp [mkL, List.range_succ]
theorem take_set_succ {α : Type} {b : List α} {i : Int} (h0 : 0 ≤ i) (h1 : i < b.length) (v : α) : (b.set i.toNat v).take (i + 1).toNat = b.take i.toNat ++ [v] := by
  rw [show (i + 1).toNat = i.toNat + 1 by omega, List.take_add_one, List.getElem?_set_self (by omega), List.take_set_of_le (by omega)]
  rfl
theorem drop_set_succ {α : Type} {b : List α} {i : Int} (h0 : 0 ≤ i) (v : α) : (b.set i.toNat v).drop (i + 1).toNat = b.drop (i + 1).toNat := by
  rw [List.drop_set_of_lt (by omega)]
theorem get_of_lt {α : Type} {b : List α} {i : Int} (h0 : 0 ≤ i) (h1 : i < b.length) : ∃ u, b[i.toNat]? = some u := ⟨b[i.toNat]'(by omega), by simp⟩
theorem chk_at {α : Type} {b : List α} {i : Int} (h0 : 0 ≤ i) (h1 : i < b.length) : decide (0 ≤ i ∧ i < (b.length : Int)) = true := decide_eq_true ⟨h0, h1⟩

/-- What marks hold a set of shafts. -/
def heldS : List Sft → Int → Option Int
  | [], k => some k
  | s :: r, k => if s.1 = wr .i16 k ∧ s.2.1 = wr .i16 (k + 1) ∧ s.2.2.1 = wr .i16 (k + 1 + 1) ∧ s.2.2.2.1 = mkL (wr .i16) s.2.2.2.1.length (k + 1 + 1 + 1) then heldS r (k + 1 + 1 + 1 + s.2.2.2.1.length) else none
theorem heldS_append : ∀ (a : List Sft) (s : Sft) (k kk : Int), heldS a k = some kk → heldS (a ++ [s]) k = heldS [s] kk
  | [], s, k, kk, h => by simp [heldS] at h; rw [h]; rfl
  | x :: r, s, k, kk, h => by
    unfold heldS at h
    split at h
    · rename_i hx
      show heldS (x :: (r ++ [s])) k = _
      unfold heldS
      rw [if_pos hx, heldS_append r s _ _ h]
      rfl
    · cases h
def totS (l : List Sft) : Int := (l.map fun s => (3 : Int) + s.2.2.2.1.length).sum
theorem totS_cons (s : Sft) (l : List Sft) : totS (s :: l) = 3 + s.2.2.2.1.length + totS l := by simp [totS]
theorem totS_nonneg : ∀ l : List Sft, 0 ≤ totS l
  | [] => by simp [totS]
  | s :: r => by have := totS_nonneg r; rw [totS_cons]; omega
theorem totS_append (a b : List Sft) : totS (a ++ b) = totS a + totS b := by simp [totS]
theorem totS_take (l : List Sft) (i : Nat) : totS (l.take i) + totS (l.drop i) = totS l := by rw [← totS_append, List.take_append_drop]
theorem heldS_ge : ∀ (l : List Sft) (k kk : Int), heldS l k = some kk → kk = k + totS l
  | [], k, kk, h => by simp [heldS] at h; simp [totS, h]
  | s :: r, k, kk, h => by
    unfold heldS at h
    split at h
    · have := heldS_ge r _ _ h
      rw [totS_cons]; omega
    · cases h

/-! ### Sizes -/
theorem sz1_ok {l : List Int} {a : Int} (hl : (l.length : Int) ≤ 140737488351232) (h0 : a ≤ 1048576) (h1 : 0 ≤ a) (h : ¬ sz1 l a < 0) : sz1 l a = a - l.length ∧ (l.length : Int) ≤ a := by
  unfold sz1 at h ⊢
  rw [wrap_id (by omega) (by omega)] at h ⊢
  split at h
  · omega
  · rename_i h2
    rw [if_neg h2]
    omega
theorem szf_ok (l : List Sft) : ∀ {a : Int}, Small l → a ≤ 1048576 → 0 ≤ a → ¬ szf l a < 0 → totS l ≤ a + 3 * l.length := by
  induction l with
  | nil =>
    intro a _ _ h1 _
    have : totS [] = 0 := by simp [totS]
    rw [this]
    simp only [List.length_nil]
    omega
  | cons s r ih =>
    intro a hS h0 h1 h
    have hs := hS.2 s (by simp)
    have hr : Small r := ⟨by have := hS.1; simp only [List.length_cons] at this; omega, fun x hx => hS.2 x (by simp [hx])⟩
    unfold szf at h
    split at h
    · omega
    · rename_i h2
      unfold sz at h h2
      split at h2
      · omega
      · rename_i h3
        rw [if_neg h3] at h
        obtain ⟨e, hle⟩ := sz1_ok hs h0 h1 h3
        rw [e] at h
        have := ih hr (by omega) (by omega) h
        rw [totS_cons]
        simp only [List.length_cons]
        omega
def szS (l : List Sft) (a : Int) : Int := if wr .i64 (a - (l.length : Int)) < 0 then -1 else szf l (wr .i64 (a - (l.length : Int)))
theorem szS_ok {l : List Sft} (hS : Small l) (h : ¬ szS l 1048576 < 0) : totS l ≤ 4194304 ∧ (l.length : Int) ≤ 1048576 := by
  have h0 := hS.1
  unfold szS at h
  rw [wrap_id (by omega) (by omega)] at h
  split at h
  · omega
  · have := szf_ok l hS (by omega) (by omega) h
    omega
end Go.Cams
namespace Go.Cams
open Go Go.Fw
def markOne (s : Sft) (k : Int) : Sft := (wr .i16 k, wr .i16 (k + 1), wr .i16 (k + 1 + 1), mkL (wr .i16) s.2.2.2.1.length (k + 1 + 1 + 1), ())
def markS : List Sft → Int → List Sft
  | [], _ => []
  | s :: r, k => markOne s k :: markS r (k + 1 + 1 + 1 + s.2.2.2.1.length)
theorem markS_held : ∀ (l : List Sft) (k : Int), heldS (markS l k) k = some (k + totS l)
  | [], k => by simp [markS, heldS, totS]
  | s :: r, k => by
    unfold markS heldS
    have hl : (markOne s k).2.2.2.1.length = s.2.2.2.1.length := mkL_len _ _ _
    rw [if_pos ⟨rfl, rfl, rfl, by rw [hl]; rfl⟩, hl, markS_held r]
    rw [totS_cons]
    congr 1
    omega
theorem markS_append : ∀ (a : List Sft) (s : Sft) (k : Int), markS (a ++ [s]) k = markS a k ++ [markOne s (k + totS a)]
  | [], s, k => by simp [markS, totS]
  | x :: r, s, k => by
    show markS (x :: (r ++ [s])) k = _
    unfold markS
    rw [markS_append r, totS_cons, show k + 1 + 1 + 1 + (x.2.2.2.1.length : Int) + totS r = k + (3 + x.2.2.2.1.length + totS r) by omega]
    rfl
/-! ### Phases -/
def phs : List Sft → List Int → List Sft → List Sft × (Int × Unit)
  | s :: l, q :: p, b => if inR q 0 (wr .i64 ((s.2.2.2.1.length : Int) - 1)) = true then phs l p (b ++ [withP s (wr .i16 q)]) else ([], 2, ())
  | _, _, b => (b, 0, ())
def phR (l : List Sft) (p : List Int) : List Sft × (Int × Unit) := if (!okA l) = true then ([], 1, ()) else if (p.length : Int) ≠ l.length then ([], 2, ()) else phs l p []
end Go.Cams
namespace Go.Cams
open Go Go.Fw
theorem heldS_len : ∀ (l : List Sft) (k kk : Int), heldS l k = some kk → (l.length : Int) ≤ kk - k := by
  intro l k kk h
  have hk := heldS_ge l k kk h
  have : ∀ m : List Sft, (m.length : Int) ≤ totS m := by
    intro m
    induction m with
    | nil => simp [totS]
    | cons s r ih => rw [totS_cons]; simp only [List.length_cons]; omega
  have := this l
  omega
theorem phs_small : ∀ (l : List Sft) (p : List Int) (b : List Sft), (∀ s ∈ l, (s.2.2.2.1.length : Int) ≤ 360) → (∀ s ∈ b, (s.2.2.2.1.length : Int) ≤ 360) →
    ((phs l p b).1.length : Int) ≤ b.length + l.length ∧ ∀ s ∈ (phs l p b).1, (s.2.2.2.1.length : Int) ≤ 360
  | s :: l, q :: p, b, hl, hb => by
    unfold phs
    split
    · have := phs_small l p (b ++ [withP s (wr .i16 q)]) (fun x hx => hl x (by simp [hx])) (by
        intro x hx
        rcases List.mem_append.1 hx with hx | hx
        · exact hb x hx
        · simp only [List.mem_singleton] at hx
          subst hx
          exact hl s (by simp))
      refine ⟨?_, this.2⟩
      have h1 := this.1
      simp only [List.length_append, List.length_cons, List.length_nil] at h1 ⊢
      omega
    · exact ⟨by simp only [List.length_nil, List.length_cons]; omega, fun x hx => by cases hx⟩
  | [], p, b, _, hb => by unfold phs; exact ⟨by simp, hb⟩
  | _ :: _, [], b, _, hb => by unfold phs; exact ⟨by simp only [List.length_cons]; omega, hb⟩
theorem totS_le {l : List Sft} (h : ∀ s ∈ l, (s.2.2.2.1.length : Int) ≤ 360) : totS l ≤ 363 * l.length := by
  induction l with
  | nil => simp [totS]
  | cons s r ih =>
    have h1 := h s (by simp)
    have h2 := ih (fun x hx => h x (by simp [hx]))
    rw [totS_cons]
    simp only [List.length_cons]
    omega
theorem phR_small (l : List Sft) (p : List Int) : 0 ≤ totS (phR l p).1 ∧ totS (phR l p).1 ≤ 2178 ∧ ((phR l p).1.length : Int) ≤ 6 ∧ Small (phR l p).1 := by
  have key : ((phR l p).1.length : Int) ≤ 6 ∧ ∀ s ∈ (phR l p).1, (s.2.2.2.1.length : Int) ≤ 360 := by
    unfold phR
    split
    · exact ⟨by simp, fun x hx => by cases hx⟩
    · rename_i h
      have hG := okA_good (l := l) (by simpa using h)
      split
      · exact ⟨by simp, fun x hx => by cases hx⟩
      · have := phs_small l p [] (fun s hs => (hG.2 s hs).len.2) (fun x hx => by cases hx)
        refine ⟨?_, this.2⟩
        have h1 := this.1
        simp only [List.length_nil] at h1
        omega
  have := totS_le key.2
  exact ⟨totS_nonneg _, by omega, key.1, by omega, fun s hs => by have := key.2 s hs; omega⟩
end Go.Cams

/- Best phases and sums of lifts, in plain terms. -/
namespace Go.Cams
open Go Go.Fw
theorem wrap16 {x : Int} (h1 : -32768 ≤ x) (h2 : x ≤ 32767) : wr .i16 x = x := by
  show IntKind.i16.wrap x = x
  simp [IntKind.wrap, IntKind.bits, IntKind.signed]
  omega
/-- The best phase among the first ones, and how many clashes there are with it. -/
def bst (s u : Sft) (a p : Int) : Nat → Int × Int
  | 0 => (0, p + 1)
  | k + 1 => if cnt s (withP u k) a p.toNat < (bst s u a p k).2 then ((k : Int), cnt s (withP u k) a p.toNat) else bst s u a p k
theorem bst_step (s u : Sft) (a p : Int) {i : Int} (h0 : 0 ≤ i) : bst s u a p (i + 1).toNat = if cnt s (withP u i) a p.toNat < (bst s u a p i.toNat).2 then (i, cnt s (withP u i) a p.toNat) else bst s u a p i.toNat := by
  obtain ⟨k, rfl⟩ : ∃ k : Nat, i = k := ⟨i.toNat, by omega⟩
  show bst s u a p (k + 1) = _
  rfl
abbrev R3 : Type := Int × Int × Int × Unit
def bestR (l : List Sft) (i k a : Int) : R3 :=
  if (codeR l (isAt l i && isAt l k && inR a 0 20000)).2.1 ≠ (0 : Int) then (0, 0, (codeR l (isAt l i && isAt l k && inR a 0 20000)).2.1, ())
  else if i = k then (0, 0, 4, ())
  else match idx l i, idx l k with
    | some s, some u => ((bst s u a (codeR l (isAt l i && isAt l k && inR a 0 20000)).1 u.2.2.2.1.length).1, (bst s u a (codeR l (isAt l i && isAt l k && inR a 0 20000)).1 u.2.2.2.1.length).2, 0, ())
    | _, _ => (0, 0, 0, ())
/-- Sums of lifts. -/
def sumL (l : List Sft) (t : Int) : Int := (l.map (lift · t)).sum
theorem sumL_snoc (l : List Sft) (s : Sft) (t : Int) : sumL (l ++ [s]) t = sumL l t + lift s t := by simp [sumL]
theorem sumL_le {l : List Sft} (hG : ∀ s ∈ l, Good s) {t : Int} (h0 : 0 ≤ t) (h1 : t ≤ 20000) : 0 ≤ sumL l t ∧ sumL l t ≤ 10000 * l.length := by
  induction l with
  | nil => simp [sumL]
  | cons s r ih =>
    have h2 := (lift_eq (hG s (by simp)) h0 h1).2
    have h3 := ih fun x hx => hG x (by simp [hx])
    have : sumL (s :: r) t = lift s t + sumL r t := by simp [sumL]
    rw [this]
    simp only [List.length_cons]
    omega
def sums (l : List Sft) (n : Nat) : List Int := (List.range n).map fun j => sumL l (j : Nat)
theorem sums_len (l : List Sft) (n : Nat) : (sums l n).length = n := by simp [sums]
theorem sums_succ (l : List Sft) {i : Int} (h : 0 ≤ i) : sums l (i + 1).toNat = sums l i.toNat ++ [sumL l i] := by
  rw [show (i + 1).toNat = i.toNat + 1 by omega]
  simp only [sums, List.range_succ, List.map_append, List.map_cons, List.map_nil]
  rw [show ((i.toNat : Nat) : Int) = i by omega]
def sumR (l : List Sft) : List Int × (Int × Unit) := if (codeR l true).2.1 ≠ (0 : Int) then ([], (codeR l true).2.1, ()) else (sums l (Int.toNat (codeR l true).1), 0, ())
theorem sumR_len (l : List Sft) : ((sumR l).1.length : Int) ≤ 20000 := by
  unfold sumR
  split
  · simp
  · rename_i h
    have := code_ok (l := l) (room := true) (by simpa using h)
    have h2 := this.2
    show ((sums l _).length : Int) ≤ 20000
    rw [sums_len]
    generalize (codeR l true).1 = p at h2
    change Int at p
    have a : (0 : Int) ≤ p := h2.1
    have b : p ≤ (20000 : Int) := h2.2
    omega
end Go.Cams

/- Machines, turns, and greatest numbers, in plain terms. -/
namespace Go.Cams
open Go Go.Fw
abbrev Mch : Type := List Int × (List Int × (List Int × Unit))
/-- What is known of a list of int16. -/
structure Rng (l : List Int) : Prop where
  len : (l.length : Int) * 2 ≤ 140737488351232
  el : ∀ v ∈ l, -32768 ≤ v ∧ v ≤ 32767
theorem Rng.len' {l : List Int} (h : Rng l) : (l.length : Int) ≤ 70368744175616 := by have := h.len; omega
theorem Rng.id {l : List Int} (h : Rng l) {v : Int} (hv : v ∈ l) : wr .i64 v = v := by have := h.el v hv; exact wrap_id (by omega) (by omega)
theorem rng_of {l : List Int} (h : Dom (.slc (.int .i16)) l) : Rng l :=
  ⟨Int.ofNat_le.2 h.1, fun v hv => by
    have := h.2 v hv
    have e1 : IntKind.i16.min = -32768 := rfl
    have e2 : IntKind.i16.max = 32767 := rfl
    simp only [Dom] at this
    rw [e1, e2] at this
    exact this⟩
structure RngM (m : Mch) : Prop where
  x : Rng m.1
  y : Rng m.2.1
  p : Rng m.2.2.1
theorem rngM_of {m : Mch} (h : Dom (.pair (.slc (.int .i16)) (.pair (.slc (.int .i16)) (.pair (.slc (.int .i16)) .unit))) m) : RngM m := ⟨rng_of h.1, rng_of h.2.1, rng_of h.2.2.1⟩
def mxF (l : List Int) (a : Int) : Int := l.foldl (fun m v => max m v) a
def mnF (l : List Int) (a : Int) : Int := l.foldl (fun m v => min m v) a
theorem mxF_snoc (l : List Int) (a v : Int) : mxF (l ++ [v]) a = max (mxF l a) v := by simp [mxF]
theorem mnF_snoc (l : List Int) (a v : Int) : mnF (l ++ [v]) a = min (mnF l a) v := by simp [mnF]
def mxL (l : List Int) : Int := mxF l (l.headD 0)
def mnL (l : List Int) : Int := mnF l (l.headD 0)
theorem mxF_le : ∀ (l : List Int) (a b : Int), a ≤ b → (∀ v ∈ l, v ≤ b) → mxF l a ≤ b
  | [], a, b, h, _ => h
  | v :: r, a, b, h, hl => mxF_le r (max a v) b (by have := hl v (by simp); omega) (fun x hx => hl x (by simp [hx]))
theorem mxF_ge : ∀ (l : List Int) (a : Int), a ≤ mxF l a ∧ ∀ v ∈ l, v ≤ mxF l a
  | [], a => ⟨Int.le_refl _, fun _ h => by cases h⟩
  | v :: r, a => by
    have h := mxF_ge r (max a v)
    show a ≤ mxF r (max a v) ∧ ∀ x ∈ v :: r, x ≤ mxF r (max a v)
    refine ⟨by have := h.1; omega, fun x hx => ?_⟩
    rcases List.mem_cons.1 hx with rfl | hx
    · have := h.1; omega
    · exact h.2 x hx
theorem mnF_le : ∀ (l : List Int) (a b : Int), b ≤ a → (∀ v ∈ l, b ≤ v) → b ≤ mnF l a
  | [], a, b, h, _ => h
  | v :: r, a, b, h, hl => mnF_le r (min a v) b (by have := hl v (by simp); omega) (fun x hx => hl x (by simp [hx]))
theorem mnF_ge : ∀ (l : List Int) (a : Int), mnF l a ≤ a ∧ ∀ v ∈ l, mnF l a ≤ v
  | [], a => ⟨Int.le_refl _, fun _ h => by cases h⟩
  | v :: r, a => by
    have h := mnF_ge r (min a v)
    show mnF r (min a v) ≤ a ∧ ∀ x ∈ v :: r, mnF r (min a v) ≤ x
    refine ⟨by have := h.1; omega, fun x hx => ?_⟩
    rcases List.mem_cons.1 hx with rfl | hx
    · have := h.1; omega
    · exact h.2 x hx
theorem head_at {l : List Int} {v : Int} (h : At l 0 v) : l.headD 0 = v ∧ l.take 1 = [v] := by
  have := h.get
  cases l with
  | nil => simp at this
  | cons a r => simp at this; simp [this]
def mv (c : List Int) : Bool := okC c && decide (mxL c < 64)
def okM (m : Mch) : Bool := mv m.1 && mv m.2.1 && okC m.2.2.1 && ((m.1.length : Int) == (m.2.1.length : Int)) && ((m.1.length : Int) == (m.2.2.1.length : Int))
theorem okC_len {l : List Int} (h : okC l = true) : 8 ≤ (l.length : Int) ∧ (l.length : Int) ≤ 360 := by
  simp only [okC, Bool.and_eq_true, inR_iff] at h; exact h.1
theorem okC_el {l : List Int} (h : okC l = true) (hr : Rng l) : ∀ v ∈ l, 0 ≤ v ∧ v ≤ 10000 := by
  simp only [okC, Bool.and_eq_true, inR_iff, List.all_eq_true, okV] at h
  intro v hv
  have := h.2 v hv
  rw [hr.id hv] at this
  exact this
structure GoodM (m : Mch) : Prop where
  x : okC m.1 = true
  y : okC m.2.1 = true
  p : okC m.2.2.1 = true
  mx : mxL m.1 < 64
  my : mxL m.2.1 < 64
  xy : m.1.length = m.2.1.length
  xp : m.1.length = m.2.2.1.length
theorem goodM {m : Mch} (h : okM m = true) : GoodM m := by
  simp only [okM, mv, Bool.and_eq_true, decide_eq_true_eq, beq_iff_eq] at h
  obtain ⟨⟨⟨⟨⟨h1, h2⟩, h3, h4⟩, h5⟩, h6⟩, h7⟩ := h
  exact ⟨h1, h3, h5, h2, h4, by omega, by omega⟩

/-! ### Turns -/
def turnL (l : List Int) (m : Nat) : List Int := l.drop m ++ l.take m
theorem turnL_len (l : List Int) (m : Nat) : (turnL l m).length = l.length := by simp [turnL]; omega
theorem turnL_get {l : List Int} {m i : Nat} (hm : m < l.length) (hi : i < l.length) : (turnL l m)[i]? = l[(i + m) % l.length]? := by
  unfold turnL
  by_cases h : i < l.length - m
  · rw [List.getElem?_append_left (by rw [List.length_drop]; exact h), List.getElem?_drop, Nat.add_comm m i, Nat.mod_eq_of_lt (by omega)]
  · rw [List.getElem?_append_right (by rw [List.length_drop]; omega), List.length_drop, List.getElem?_take_of_lt (by omega)]
    congr 1
    have e : i + m = (i - (l.length - m)) + l.length := by omega
    rw [e, Nat.add_mod_right, Nat.mod_eq_of_lt (by omega)]
/-- The place of a step of a turned cam. -/
theorem turn_at {x n : Int} (hn : 0 < n) (h1 : n ≤ 1000000) (hx : -4000000 ≤ x) (hx' : x ≤ 4000000) : Int.tmod (wr .i64 (Int.tmod x n + n)) n = x % n := by
  have h2 := Int.tmod_lt_of_pos x hn
  have h3 : -n < Int.tmod x n := by
    rcases Int.le_total 0 x with h | h
    · have := Int.tmod_nonneg n h; omega
    · have := Int.tmod_lt_of_pos (-x) hn
      rw [Int.neg_tmod] at this
      omega
  rw [wrap_id (by omega) (by omega), Int.tmod_eq_emod_of_nonneg (by omega), Int.add_emod_right]
  rcases Int.le_total 0 x with h | h
  · rw [Int.tmod_eq_emod_of_nonneg h, Int.emod_emod]
  · rw [Int.tmod_def, Int.sub_mul_emod_self_left]
theorem emod_add_place {i b n : Int} (hn : 0 < n) : ((i + b) % n).toNat = (i.toNat + (b % n).toNat) % n.toNat ∨ i < 0 := by
  by_cases h : i < 0
  · exact .inr h
  left
  have hb := Int.emod_nonneg b (show n ≠ 0 by omega)
  have e : (i + b) % n = (i + b % n) % n := by rw [Int.add_emod, Int.add_emod i (b % n), Int.emod_emod]
  rw [e]
  obtain ⟨a, ha⟩ : ∃ a : Nat, i = a := ⟨i.toNat, by omega⟩
  obtain ⟨c, hc⟩ : ∃ c : Nat, b % n = c := ⟨(b % n).toNat, by omega⟩
  obtain ⟨m, hm⟩ : ∃ m : Nat, n = m := ⟨n.toNat, by omega⟩
  rw [hc, ha, hm]
  have : ((a : Int) + c) % m = (((a + c) % m : Nat) : Int) := by simp
  simp only [Int.toNat_natCast]
  rw [this, Int.toNat_natCast]
theorem floorDiv_eq {a b : Int} (hb : 0 < b) : (if Int.tmod a b < 0 then Int.tdiv a b - 1 else Int.tdiv a b) = a / b := by
  have h1 := Int.tmod_lt_of_pos a hb
  have h2 := Int.tmod_def a b
  have h3 : -b < Int.tmod a b := by
    rcases Int.le_total 0 a with h | h
    · have := Int.tmod_nonneg b h; omega
    · have := Int.tmod_lt_of_pos (-a) hb
      rw [Int.neg_tmod] at this
      omega
  split
  · have := (Int.ediv_emod_unique (a := a) (b := b) (r := Int.tmod a b + b) (q := Int.tdiv a b - 1) hb).2 ⟨by rw [Int.mul_sub, Int.mul_one]; omega, by omega, by omega⟩
    exact this.1.symm
  · have := (Int.ediv_emod_unique (a := a) (b := b) (r := Int.tmod a b) (q := Int.tdiv a b) hb).2 ⟨by omega, by omega, by omega⟩
    exact this.1.symm
theorem ediv_bd {a b M : Int} (hb : 0 < b) (h1 : -M ≤ a) (h2 : a ≤ M) (h0 : 0 ≤ M) : -M ≤ a / b ∧ a / b ≤ M := by
  constructor
  · rw [Int.le_ediv_iff_mul_le hb]
    have : M * 1 ≤ M * b := Int.mul_le_mul_of_nonneg_left (by omega) h0
    rw [Int.neg_mul]
    omega
  · have := Int.ediv_le_ediv hb h2
    have := Int.ediv_le_self (a := M) b h0
    omega
def szM (m : Mch) (a : Int) : Int := if sz1 m.1 a < 0 then -1 else if sz1 m.2.1 (sz1 m.1 a) < 0 then -1 else if sz1 m.2.2.1 (sz1 m.2.1 (sz1 m.1 a)) < 0 then -1 else sz1 m.2.2.1 (sz1 m.2.1 (sz1 m.1 a))
theorem szM_ok {m : Mch} (h : RngM m) {a : Int} (h0 : 0 ≤ a) (h1 : a ≤ 1048576) (hs : ¬ szM m a < 0) : (m.1.length : Int) + m.2.1.length + m.2.2.1.length ≤ 1048576 ∧ 0 ≤ szM m a ∧ szM m a ≤ 1048576 := by
  have hx := h.x.len'
  have hy := h.y.len'
  have hp := h.p.len'
  unfold szM at hs ⊢
  split at hs
  · omega
  rename_i c1
  obtain ⟨e1, l1⟩ := sz1_ok (by omega) h1 h0 c1
  rw [if_neg c1]
  split at hs
  · omega
  rename_i c2
  rw [e1] at c2
  obtain ⟨e2, l2⟩ := sz1_ok (by omega) (by omega) (by omega) c2
  rw [e1, if_neg c2]
  split at hs
  · omega
  rename_i c3
  rw [e1, e2] at c3
  obtain ⟨e3, l3⟩ := sz1_ok (by omega) (by omega) (by omega) c3
  rw [e2, if_neg c3, e3]
  omega
def tnM (m : Mch) (by_ : Int) : Mch := (turnL m.1 (by_ % m.1.length).toNat, turnL m.2.1 (by_ % m.2.1.length).toNat, turnL m.2.2.1 (by_ % m.2.2.1.length).toNat, ())
def tnR (m : Mch) (a : Int) : Mch × (Int × Unit) := if (!okM m) = true then (([], [], [], ()), 1, ()) else if (!inR a (-1000000) 1000000) = true then (([], [], [], ()), 2, ()) else (tnM m a, 0, ())
/-- What marks hold a machine. -/
def mkM (m : Mch) (k : Int) : Mch := (mkL (wr .i16) m.1.length k, mkL (wr .i16) m.2.1.length (k + m.1.length), mkL (wr .i16) m.2.2.1.length (k + m.1.length + m.2.1.length), ())
def totM (m : Mch) : Int := (m.1.length : Int) + m.2.1.length + m.2.2.1.length
theorem mkM_len (m : Mch) (k : Int) : (mkM m k).1.length = m.1.length ∧ (mkM m k).2.1.length = m.2.1.length ∧ (mkM m k).2.2.1.length = m.2.2.1.length := ⟨mkL_len _ _ _, mkL_len _ _ _, mkL_len _ _ _⟩
end Go.Cams
namespace Go.Cams
open Go Go.Fw
theorem tnR_small (m : Mch) (a : Int) : ((tnR m a).1.1.length : Int) ≤ 360 ∧ ((tnR m a).1.2.1.length : Int) ≤ 360 ∧ ((tnR m a).1.2.2.1.length : Int) ≤ 360 := by
  unfold tnR
  split
  · simp
  · rename_i h
    have hg := goodM (m := m) (by simpa using h)
    have lx := okC_len hg.x
    have ly := okC_len hg.y
    have lp := okC_len hg.p
    split
    · simp
    · simp only [tnM, turnL_len]
      omega
end Go.Cams

/- Two machines in one, in plain terms. -/
namespace Go.Cams
open Go Go.Fw
def lst (l : List Int) : Int := (idx l ((l.length : Int) - 1)).getD 0
theorem lst_at {l : List Int} (h : 0 < (l.length : Int)) : At l ((l.length : Int) - 1) (lst l) := by
  obtain ⟨v, hv⟩ := at_of (l := l) (i := (l.length : Int) - 1) (by omega) (by omega)
  have : lst l = v := by unfold lst; rw [hv.idx]; rfl
  rw [this]; exact hv
def thenL (a b : List Int) (x y : Int) : List Int := ((a ++ [x]) ++ b) ++ [y]
theorem thenL_len (a b : List Int) (x y : Int) : (thenL a b x y).length = a.length + b.length + 2 := by simp [thenL]; omega
theorem thenL_flat (a b : List Int) (x y : Int) : [a ++ [x], b ++ [y]].flatten = thenL a b x y := by simp [thenL]
def btM (m k : Mch) : Mch := (thenL m.1 k.1 (lst m.1) (lst k.1), thenL m.2.1 k.2.1 (lst m.2.1) (lst k.2.1), thenL m.2.2.1 k.2.2.1 1 1, ())
def btR (m k : Mch) : Mch × (Int × Unit) := if (!okM m) = true then (([], [], [], ()), 1, ()) else if (!okM k) = true then (([], [], [], ()), 1, ()) else if (m.1.length : Int) + k.1.length + 2 > 360 then (([], [], [], ()), 3, ()) else (btM m k, 0, ())
theorem btR_small (m k : Mch) : ((btR m k).1.1.length : Int) ≤ 1000 ∧ ((btR m k).1.2.1.length : Int) ≤ 1000 ∧ ((btR m k).1.2.2.1.length : Int) ≤ 1000 := by
  unfold btR
  split
  · simp
  split
  · simp
  rename_i h1 h2
  have g1 := goodM (m := m) (by simpa using h1)
  have g2 := goodM (m := k) (by simpa using h2)
  have a1 := okC_len g1.x
  have a2 := okC_len g1.y
  have a3 := okC_len g1.p
  have b1 := okC_len g2.x
  have b2 := okC_len g2.y
  have b3 := okC_len g2.p
  split
  · simp
  simp only [btM, thenL_len]
  omega
end Go.Cams

/- Events, in plain terms. -/
namespace Go.Cams
open Go Go.Fw
abbrev Evn : Type := Int × (Int × Unit)
def evOn (s : Sft) (lv t q : Int) : Bool := decide (lift s t ≥ lv) && decide (lift s q < lv)
def evR (lv t q : Int) : List Sft → Int → List Evn
  | [], _ => []
  | s :: r, i => (if evOn s lv t q = true then [(t, i, ())] else []) ++ evR lv t q r (i + 1)
theorem evR_snoc (lv t q : Int) : ∀ (a : List Sft) (s : Sft) (i : Int), evR lv t q (a ++ [s]) i = evR lv t q a i ++ (if evOn s lv t q = true then [(t, i + a.length, ())] else [])
  | [], s, i => by simp [evR]
  | x :: r, s, i => by
    show evR lv t q (x :: (r ++ [s])) i = _
    unfold evR
    rw [evR_snoc lv t q r, List.append_assoc]
    simp only [List.length_cons]
    rw [show i + 1 + (r.length : Int) = i + ((r.length + 1 : Nat) : Int) by omega]
theorem evR_len (lv t q : Int) : ∀ (a : List Sft) (i : Int), (evR lv t q a i).length ≤ a.length
  | [], _ => by simp [evR]
  | x :: r, i => by
    unfold evR
    have := evR_len lv t q r (i + 1)
    split <;> simp <;> omega
def evA (l : List Sft) (lv p : Int) (n : Nat) : List Evn := (List.range n).flatMap fun k => evR lv (k : Nat) (Int.tmod ((k : Nat) + p - 1) p) l 0
theorem evA_succ (l : List Sft) (lv p : Int) {i : Int} (h : 0 ≤ i) : evA l lv p (i + 1).toNat = evA l lv p i.toNat ++ evR lv i (Int.tmod (i + p - 1) p) l 0 := by
  rw [show (i + 1).toNat = i.toNat + 1 by omega]
  simp only [evA, List.range_succ, List.flatMap_append, List.flatMap_cons, List.flatMap_nil, List.append_nil]
  rw [show ((i.toNat : Nat) : Int) = i by omega]
theorem evA_len (l : List Sft) (lv p : Int) : ∀ n, (evA l lv p n).length ≤ n * l.length
  | 0 => by simp [evA]
  | n + 1 => by
    have h := evA_len l lv p n
    have e : evA l lv p (n + 1) = evA l lv p n ++ evR lv (n : Nat) (Int.tmod ((n : Nat) + p - 1) p) l 0 := by simp [evA, List.range_succ]
    have := evR_len lv (n : Nat) (Int.tmod ((n : Nat) + p - 1) p) l 0
    rw [e, List.length_append, Nat.add_mul]
    omega
def evRes (l : List Sft) (lv : Int) : List Evn × (Int × Unit) := if (codeR l (inR lv 0 20000)).2.1 ≠ (0 : Int) then ([], (codeR l (inR lv 0 20000)).2.1, ()) else (evA l lv (codeR l (inR lv 0 20000)).1 (Int.toNat (codeR l (inR lv 0 20000)).1), 0, ())
theorem evRes_len (l : List Sft) (lv : Int) : ((evRes l lv).1.length : Int) ≤ 120000 := by
  unfold evRes
  split
  · simp
  · rename_i h
    have := code_ok (l := l) (room := inR lv 0 20000) (by simpa using h)
    have hl := (okA_good this.1).1
    have h2 := this.2
    show ((evA l lv _ _).length : Int) ≤ 120000
    generalize (codeR l (inR lv 0 20000)).1 = p at h2
    change Int at p
    have a : (0 : Int) ≤ p := h2.1
    have b : p ≤ (20000 : Int) := h2.2
    have h3 := evA_len l lv p p.toNat
    have h4 : p.toNat * l.length ≤ 20000 * 6 := Nat.mul_le_mul (by omega) (by omega)
    omega
/-- The tick ahead of one, round the period. -/
theorem prev_zero {p : Int} (h : 0 < p) : Int.tmod (0 + p - 1) p = p - 1 := by
  rw [Int.tmod_eq_emod_of_nonneg (by omega)]
  exact Int.emod_eq_of_lt (by omega) (by omega) |>.trans (by omega)
theorem prev_pos {t p : Int} (h0 : 0 < t) (h1 : t < p) : Int.tmod (t + p - 1) p = t - 1 := by
  rw [Int.tmod_eq_emod_of_nonneg (by omega), show t + p - 1 = (t - 1) + p by omega, Int.add_emod_right]
  exact Int.emod_eq_of_lt (by omega) (by omega)
theorem prev_bd {t p : Int} (h0 : 0 ≤ t) (h1 : t < p) : 0 ≤ Int.tmod (t + p - 1) p ∧ Int.tmod (t + p - 1) p < p := by
  by_cases h : t = 0
  · subst h; rw [prev_zero h1]; omega
  · rw [prev_pos (by omega) h1]; omega
/-! ### Marks on events -/
def mkE (n : Nat) (k : Int) : List Evn := (List.range n).map fun i => (k + 2 * (i : Nat), k + 2 * (i : Nat) + 1, ())
theorem mkE_len (n : Nat) (k : Int) : (mkE n k).length = n := by simp [mkE]
theorem mkE_succ (n : Nat) (k : Int) : mkE (n + 1) k = mkE n k ++ [(k + 2 * (n : Nat), k + 2 * (n : Nat) + 1, ())] := by simp [mkE, List.range_succ]
theorem mkE_at (n : Nat) (k : Int) {i : Int} {v : Evn} (h : At (mkE n k) i v) (h0 : 0 ≤ i) : v.1 = k + 2 * i ∧ v.2.1 = k + 2 * i + 1 := by
  have := h.get
  unfold mkE at this
  rw [List.getElem?_map] at this
  obtain ⟨j, hj, e⟩ := Option.map_eq_some_iff.1 this
  obtain ⟨hlt, e2⟩ := List.getElem?_eq_some_iff.1 hj
  simp at e2
  rw [← e, ← e2]
  simp only
  omega
end Go.Cams
namespace Go.Cams
open Go Go.Fw
theorem prev_next {t p : Int} (h0 : 0 ≤ t) (h1 : t < p) : Int.tmod (t + 1 + p - 1) p = t := by
  rw [Int.tmod_eq_emod_of_nonneg (by omega), show t + 1 + p - 1 = t + p by omega, Int.add_emod_right]
  exact Int.emod_eq_of_lt (by omega) (by omega)
theorem code_pos {l : List Sft} {room : Bool} (h : (codeR l room).2.1 = (0 : Int)) : (1 : Int) ≤ (codeR l room).1 := by
  have hok := (code_ok h).1
  have hr := codeR_room h
  subst hr
  unfold codeR at h ⊢
  rw [if_neg (by simp [hok]), if_neg (by simp)] at h ⊢
  unfold allR at h ⊢
  cases hp : per l 1 with
  | none => rw [hp] at h; exact absurd h (by decide)
  | some p => exact (per_le (okA_good hok).2 (by omega) (by omega) hp).1
theorem evA_bd {l : List Sft} (hl : l.length ≤ 6) (lv p : Int) {t : Int} (h0 : 0 ≤ t) (h1 : t ≤ 20000) : (evA l lv p t.toNat).length ≤ 120000 := by
  have h3 := evA_len l lv p t.toNat
  have h4 : t.toNat * l.length ≤ 20000 * 6 := Nat.mul_le_mul (by omega) hl
  omega
theorem evR_bd {l : List Sft} (hl : l.length ≤ 6) (lv t q : Int) (i : Nat) : (evR lv t q (l.take i) 0).length ≤ 6 := by
  have := evR_len lv t q (l.take i) 0
  rw [List.length_take] at this
  omega
end Go.Cams

/- Cutters, tips, and what a cutter leaves, in plain terms. -/
namespace Go.Cams
open Go Go.Fw
/-- An element, 0 where there is none. -/
def g (l : List Int) (i : Nat) : Int := l.getD i 0
theorem g_at {l : List Int} {i v : Int} (h : At l i v) : g l i.toNat = v := by
  have := h.get
  unfold g
  rw [List.getD_eq_getElem?_getD, this]; rfl
theorem g_idx {l : List Int} {i : Int} (h0 : 0 ≤ i) (h1 : i < l.length) : At l i (g l i.toNat) := by
  obtain ⟨v, hv⟩ := at_of (l := l) h0 h1
  rw [g_at hv]; exact hv
theorem g_mem {l : List Int} {i : Nat} (h : i < l.length) : g l i ∈ l := by
  have := g_idx (l := l) (i := i) (by omega) (by omega)
  simpa using this.mem
theorem g_set (l : List Int) (i j : Nat) (v : Int) : g (l.set i v) j = if i = j ∧ i < l.length then v else g l j := by
  unfold g
  rw [List.getD_eq_getElem?_getD, List.getD_eq_getElem?_getD, List.getElem?_set]
  by_cases h : i = j
  · subst h
    by_cases h2 : i < l.length
    · simp [h2]
    · simp [h2]
  · simp [h]
def cAt (l : List Int) (x : Int) : Int := g l (x % l.length).toNat

/-! ### Validity -/
def kOne (k : List Int) (i : Nat) : Bool := inR (wr .i64 (g k i)) 0 10000 && (g k (k.length - 1 - i) == g k i) && (decide (i = 0) || !decide (g k (i - 1) < g k i))
def kTwo (k : List Int) (i : Nat) : Bool := inR (wr .i64 (g k i)) 0 10000 && (g k i == g k (k.length - 1 - i)) && !(decide (i > k.length / 2) && decide (g k i < g k (i - 1)))
def allTo (p : Nat → Bool) (n : Nat) : Bool := (List.range n).all p
theorem allTo_succ (p : Nat → Bool) (n : Nat) : allTo p (n + 1) = (allTo p n && p n) := by simp [allTo, List.range_succ]
theorem allTo_iff (p : Nat → Bool) (n : Nat) : allTo p n = true ↔ ∀ i, i < n → p i = true := by simp [allTo]
theorem allTo_false {p : Nat → Bool} {n i : Nat} (h : i < n) (hp : p i = false) : allTo p n = false := by
  rw [Bool.eq_false_iff]
  intro ha
  have := (allTo_iff p n).1 ha i h
  rw [hp] at this
  cases this
def okK (k : List Int) : Bool := inR (k.length : Int) 1 31 && decide (k.length % 2 = 1) && (g k (k.length / 2) == 0) && allTo (kOne k) (k.length / 2 + 1)
theorem kTwo_of {k : List Int} (ho : k.length % 2 = 1) (h : allTo (kOne k) (k.length / 2 + 1) = true) : allTo (kTwo k) k.length = true := by
  rw [allTo_iff] at h ⊢
  have h' : ∀ i, i < k.length / 2 + 1 → (0 ≤ wr .i64 (g k i) ∧ wr .i64 (g k i) ≤ 10000) ∧ g k (k.length - 1 - i) = g k i ∧ (i = 0 ∨ ¬ g k (i - 1) < g k i) := by
    intro i hi
    have := h i hi
    simp only [kOne, Bool.and_eq_true, Bool.or_eq_true, beq_iff_eq, decide_eq_true_eq, inR_iff, Bool.not_eq_true', decide_eq_false_iff_not] at this
    exact ⟨this.1.1, this.1.2, this.2⟩
  intro i hi
  simp only [kTwo, Bool.and_eq_true, beq_iff_eq, inR_iff, Bool.not_eq_true', Bool.and_eq_false_iff, decide_eq_false_iff_not]
  by_cases hc : i < k.length / 2 + 1
  · obtain ⟨a, b, _⟩ := h' i hc
    exact ⟨⟨a, b.symm⟩, .inl (by omega)⟩
  · obtain ⟨a, b, _⟩ := h' (k.length - 1 - i) (by omega)
    rw [show k.length - 1 - (k.length - 1 - i) = i by omega] at b
    obtain ⟨_, b2, d⟩ := h' (k.length - 1 - (i - 1)) (by omega)
    rw [show k.length - 1 - (k.length - 1 - (i - 1)) = i - 1 by omega] at b2
    refine ⟨⟨by rw [b]; exact a, b⟩, .inr ?_⟩
    rcases d with d | d
    · omega
    · rw [show k.length - 1 - (i - 1) - 1 = k.length - 1 - i by omega] at d
      rw [b, b2]; exact d
theorem kOne_of {k : List Int} (ho : k.length % 2 = 1) (h : allTo (kTwo k) k.length = true) : allTo (kOne k) (k.length / 2 + 1) = true := by
  rw [allTo_iff] at h ⊢
  have h' : ∀ i, i < k.length → (0 ≤ wr .i64 (g k i) ∧ wr .i64 (g k i) ≤ 10000) ∧ g k i = g k (k.length - 1 - i) ∧ (¬ i > k.length / 2 ∨ ¬ g k i < g k (i - 1)) := by
    intro i hi
    have := h i hi
    simp only [kTwo, Bool.and_eq_true, beq_iff_eq, inR_iff, Bool.not_eq_true', Bool.and_eq_false_iff, decide_eq_false_iff_not] at this
    exact ⟨this.1.1, this.1.2, this.2⟩
  intro i hi
  obtain ⟨a, b, _⟩ := h' i (by omega)
  simp only [kOne, Bool.and_eq_true, Bool.or_eq_true, beq_iff_eq, decide_eq_true_eq, inR_iff, Bool.not_eq_true', decide_eq_false_iff_not]
  refine ⟨⟨a, b.symm⟩, ?_⟩
  by_cases h0 : i = 0
  · exact .inl h0
  right
  obtain ⟨_, b2, d⟩ := h' (k.length - 1 - (i - 1)) (by omega)
  rw [show k.length - 1 - (k.length - 1 - (i - 1)) = i - 1 by omega] at b2
  rcases d with d | d
  · omega
  · rw [show k.length - 1 - (i - 1) - 1 = k.length - 1 - i by omega, ← b, b2] at d
    exact d
structure GoodK (k : List Int) : Prop where
  lo : 1 ≤ k.length
  hi : k.length ≤ 31
  odd : k.length % 2 = 1
  mid : g k (k.length / 2) = 0
  el : ∀ i, i < k.length → 0 ≤ g k i ∧ g k i ≤ 10000
  sym : ∀ i, i < k.length → g k i = g k (k.length - 1 - i)
theorem goodK {k : List Int} (hr : Rng k) (h : okK k = true) : GoodK k := by
  simp only [okK, Bool.and_eq_true, inR_iff, decide_eq_true_eq, beq_iff_eq] at h
  obtain ⟨⟨⟨h1, h2⟩, h3⟩, h4⟩ := h
  have h5 := (allTo_iff _ _).1 (kTwo_of h2 h4)
  have h6 : ∀ i, i < k.length → (0 ≤ g k i ∧ g k i ≤ 10000) ∧ g k i = g k (k.length - 1 - i) := by
    intro i hi
    have := h5 i hi
    simp only [kTwo, Bool.and_eq_true, beq_iff_eq, inR_iff] at this
    rw [hr.id (g_mem hi)] at this
    exact this.1
  exact ⟨by omega, by omega, h2, h3, fun i hi => (h6 i hi).1, fun i hi => (h6 i hi).2⟩
def cutCode (c k : List Int) : Int := if okC c = true then (if okK k = true then 0 else 1) else 1

/-! ### Tips -/
def half (k : List Int) : Int := (k.length / 2 : Nat)
def tipTo (c k : List Int) (s : Int) : Nat → Int
  | 0 => 0
  | i + 1 => max (tipTo c k s i) (cAt c (s + i - half k) - g k i)
def tip (c k : List Int) (s : Int) : Int := tipTo c k s k.length
def tipsL (c k : List Int) (n : Nat) : List Int := (List.range n).map fun s => tip c k (s : Nat)
theorem tipsL_len (c k : List Int) (n : Nat) : (tipsL c k n).length = n := by simp [tipsL]
theorem tipsL_succ (c k : List Int) {i : Int} (h : 0 ≤ i) : tipsL c k (i + 1).toNat = tipsL c k i.toNat ++ [tip c k i] := by
  rw [show (i + 1).toNat = i.toNat + 1 by omega]
  simp only [tipsL, List.range_succ, List.map_append, List.map_cons, List.map_nil]
  rw [show ((i.toNat : Nat) : Int) = i by omega]
theorem g_tips (c k : List Int) {n i : Nat} (h : i < n) : g (tipsL c k n) i = tip c k i := by
  unfold g tipsL
  rw [List.getD_eq_getElem?_getD, List.getElem?_map, List.getElem?_range h]
  rfl
theorem cAt_mem {c : List Int} (h : 0 < c.length) (x : Int) : cAt c x ∈ c := by
  have h1 := Int.emod_nonneg x (show (c.length : Int) ≠ 0 by omega)
  have h2 := Int.emod_lt_of_pos x (show 0 < (c.length : Int) by omega)
  exact g_mem (by omega)
theorem tipTo_bd {c k : List Int} (hc : 0 < c.length) (hC : ∀ v ∈ c, 0 ≤ v ∧ v ≤ 10000) (hK : ∀ i, i < k.length → 0 ≤ g k i ∧ g k i ≤ 10000) (s : Int) : ∀ i, i ≤ k.length → 0 ≤ tipTo c k s i ∧ tipTo c k s i ≤ 10000
  | 0, _ => by simp [tipTo]
  | i + 1, h => by
    have h1 := tipTo_bd hc hC hK s i (by omega)
    have h2 := hC _ (cAt_mem hc (s + i - half k))
    have h3 := hK i (by omega)
    unfold tipTo
    omega

/-! ### Cuts -/
def place (k : List Int) (s : Int) (n : Nat) (i : Nat) : Nat := ((s + i - half k) % n).toNat
def cutTo (k : List Int) (s tp : Int) (o : List Int) : Nat → List Int × Int
  | 0 => (o, 0)
  | i + 1 => if g (cutTo k s tp o i).1 (place k s o.length i) > tp + g k i then ((cutTo k s tp o i).1.set (place k s o.length i) (tp + g k i), (cutTo k s tp o i).2 + (g (cutTo k s tp o i).1 (place k s o.length i) - (tp + g k i))) else cutTo k s tp o i
theorem cutTo_len (k : List Int) (s tp : Int) (o : List Int) : ∀ i, (cutTo k s tp o i).1.length = o.length
  | 0 => rfl
  | i + 1 => by
    unfold cutTo
    split
    · rw [List.length_set]; exact cutTo_len k s tp o i
    · exact cutTo_len k s tp o i
theorem place_lt (k : List Int) (s : Int) {n : Nat} (h : 0 < n) (i : Nat) : place k s n i < n := by
  have h1 := Int.emod_nonneg (s + i - half k) (show (n : Int) ≠ 0 by omega)
  have h2 := Int.emod_lt_of_pos (s + i - half k) (show 0 < (n : Int) by omega)
  unfold place; omega
/-- Elements of a surface behind a cut: none is higher, and each is as before or as the cutter left it. -/
theorem cutTo_el (k : List Int) (s tp : Int) {o : List Int} (h : 0 < o.length) (p : Nat) (hp : p < o.length) : ∀ i, g (cutTo k s tp o i).1 p ≤ g o p ∧ (∀ j, j < i → place k s o.length j = p → g (cutTo k s tp o i).1 p ≤ tp + g k j) ∧ (g (cutTo k s tp o i).1 p = g o p ∨ ∃ j, j < i ∧ place k s o.length j = p ∧ g (cutTo k s tp o i).1 p = tp + g k j)
  | 0 => ⟨Int.le_refl _, fun j hj => by omega, .inl rfl⟩
  | i + 1 => by
    obtain ⟨h1, h2, h3⟩ := cutTo_el k s tp h p hp i
    have hl := cutTo_len k s tp o i
    have hlt := place_lt k s h i
    unfold cutTo
    split
    · rename_i hgt
      by_cases e : place k s o.length i = p
      · have hg : g ((cutTo k s tp o i).1.set (place k s o.length i) (tp + g k i)) p = tp + g k i := by rw [g_set, if_pos ⟨e, by omega⟩]
        rw [e] at hgt
        simp only [hg]
        refine ⟨by omega, fun j hj hpj => ?_, .inr ⟨i, by omega, e, rfl⟩⟩
        by_cases hji : j = i
        · subst hji; omega
        · have := h2 j (by omega) hpj; omega
      · have hg : g ((cutTo k s tp o i).1.set (place k s o.length i) (tp + g k i)) p = g (cutTo k s tp o i).1 p := by rw [g_set, if_neg (fun h => e h.1)]
        simp only [hg]
        refine ⟨h1, fun j hj hpj => ?_, ?_⟩
        · by_cases hji : j = i
          · subst hji; exact absurd hpj e
          · exact h2 j (by omega) hpj
        · exact h3.imp id fun ⟨j, a, b, c⟩ => ⟨j, by omega, b, c⟩
    · rename_i hgt
      refine ⟨h1, fun j hj hpj => ?_, h3.imp id fun ⟨j, a, b, c⟩ => ⟨j, by omega, b, c⟩⟩
      by_cases hji : j = i
      · subst hji; rw [hpj] at hgt; omega
      · exact h2 j (by omega) hpj
/-- The surface behind cuts at all steps ahead of one. -/
def leftTo (c k : List Int) : Nat → List Int
  | 0 => List.replicate c.length 10000
  | s + 1 => (cutTo k (s : Nat) (tip c k (s : Nat)) (leftTo c k s) k.length).1
theorem leftTo_len (c k : List Int) : ∀ s, (leftTo c k s).length = c.length
  | 0 => by simp [leftTo]
  | s + 1 => by unfold leftTo; rw [cutTo_len, leftTo_len c k s]
theorem leftTo_el {c : List Int} (k : List Int) (h : 0 < c.length) (p : Nat) (hp : p < c.length) : ∀ s, g (leftTo c k s) p ≤ 10000 ∧ (∀ u, u < s → ∀ j, j < k.length → place k u c.length j = p → g (leftTo c k s) p ≤ tip c k u + g k j) ∧ (g (leftTo c k s) p = 10000 ∨ ∃ u j, u < s ∧ j < k.length ∧ place k (u : Nat) c.length j = p ∧ g (leftTo c k s) p = tip c k (u : Nat) + g k j)
  | 0 => by
    have : g (leftTo c k 0) p = 10000 := by unfold g leftTo; rw [List.getD_eq_getElem?_getD, List.getElem?_replicate_of_lt hp]; rfl
    exact ⟨by omega, fun u hu => by omega, .inl this⟩
  | s + 1 => by
    obtain ⟨h1, h2, h3⟩ := leftTo_el k h p hp s
    have hl := leftTo_len c k s
    obtain ⟨c1, c2, c3⟩ := cutTo_el k (s : Nat) (tip c k (s : Nat)) (o := leftTo c k s) (by omega) p (by omega) k.length
    rw [hl] at c2 c3
    unfold leftTo
    refine ⟨by omega, fun u hu j hj hpj => ?_, ?_⟩
    · by_cases e : u = s
      · subst e; exact c2 j hj hpj
      · have := h2 u (by omega) j hj hpj; omega
    · rcases c3 with c3 | ⟨j, a, b, d⟩
      · rw [c3]
        exact h3.imp id fun ⟨u, j, x, y⟩ => ⟨u, j, by omega, y⟩
      · exact .inr ⟨s, j, by omega, a, b, d⟩
def lfTo (c k : List Int) (p : Int) : Nat → Int
  | 0 => tip c k p
  | i + 1 => min (lfTo c k p i) (tip c k ((p + i - half k) % c.length) + g k i)
def lf (c k : List Int) (p : Int) : Int := lfTo c k p k.length
theorem lfTo_el (c k : List Int) (p : Int) : ∀ i, lfTo c k p i ≤ tip c k p ∧ (∀ j, j < i → lfTo c k p i ≤ tip c k ((p + (j : Nat) - half k) % c.length) + g k j) ∧ (lfTo c k p i = tip c k p ∨ ∃ j, j < i ∧ lfTo c k p i = tip c k ((p + (j : Nat) - half k) % c.length) + g k j)
  | 0 => ⟨Int.le_refl _, fun j hj => by omega, .inl rfl⟩
  | i + 1 => by
    obtain ⟨h1, h2, h3⟩ := lfTo_el c k p i
    unfold lfTo
    refine ⟨by omega, fun j hj => ?_, ?_⟩
    · by_cases e : j = i
      · subst e; omega
      · have := h2 j (by omega); omega
    · rcases Int.le_total (lfTo c k p i) (tip c k ((p + (i : Nat) - half k) % c.length) + g k i) with hle | hle
      · rw [Int.min_eq_left hle]
        exact h3.imp id fun ⟨j, a, b⟩ => ⟨j, by omega, b⟩
      · rw [Int.min_eq_right hle]
        exact .inr ⟨i, by omega, rfl⟩
/-- Both ways to tell what is left are one. -/
theorem left_eq {c k : List Int} (hc : 0 < c.length) (hC : ∀ v ∈ c, 0 ≤ v ∧ v ≤ 10000) (G : GoodK k) (p : Nat) (hp : p < c.length) : g (leftTo c k c.length) p = lf c k p := by
  obtain ⟨a1, a2, a3⟩ := leftTo_el k hc p hp c.length
  obtain ⟨b1, b2, b3⟩ := lfTo_el c k (p : Nat) k.length
  have hodd := G.odd
  have hhalf : half k = ((k.length / 2 : Nat) : Int) := rfl
  have hmid : (k.length / 2) < k.length := by have := G.lo; omega
  -- a pair of a step and a place that meets p is a place seen from p
  have to : ∀ u j : Nat, u < c.length → j < k.length → place k (u : Nat) c.length j = p → ((p : Nat) + ((k.length - 1 - j : Nat) : Int) - half k) % c.length = (u : Nat) := by
    intro u j hu hj hpj
    unfold place at hpj
    have h1 := Int.emod_nonneg ((u : Int) + j - half k) (show (c.length : Int) ≠ 0 by omega)
    have e : ((u : Int) + j - half k) % c.length = (p : Nat) := by omega
    have hd := Int.emod_def ((u : Int) + j - half k) c.length
    rw [e] at hd
    have e2 : (p : Int) + ((k.length - 1 - j : Nat) : Int) - half k = (u : Int) - c.length * (((u : Int) + j - half k) / c.length) := by
      rw [hhalf] at hd ⊢
      omega
    rw [e2, Int.sub_mul_emod_self_left]
    exact Int.emod_eq_of_lt (by omega) (by omega)
  have frm : ∀ j : Nat, j < k.length → ∃ u : Nat, u < c.length ∧ ((p : Nat) + ((j : Nat) : Int) - half k) % c.length = (u : Nat) ∧ place k (u : Nat) c.length (k.length - 1 - j) = p := by
    intro j hj
    have h1 := Int.emod_nonneg ((p : Int) + j - half k) (show (c.length : Int) ≠ 0 by omega)
    have h2 := Int.emod_lt_of_pos ((p : Int) + j - half k) (show 0 < (c.length : Int) by omega)
    refine ⟨(((p : Int) + j - half k) % c.length).toNat, by omega, by omega, ?_⟩
    have hu : (((((p : Int) + j - half k) % c.length).toNat : Nat) : Int) = ((p : Int) + j - half k) % c.length := by omega
    unfold place
    rw [hu]
    have hd := Int.emod_def ((p : Int) + j - half k) c.length
    have e2 : ((p : Int) + j - half k) % c.length + ((k.length - 1 - j : Nat) : Int) - half k = (p : Int) - c.length * (((p : Int) + j - half k) / c.length) := by
      rw [hd, hhalf]
      omega
    rw [e2, Int.sub_mul_emod_self_left, Int.emod_eq_of_lt (by omega) (by omega)]
    simp
  have tipbd := (tipTo_bd hc hC G.el (p : Nat) k.length (Nat.le_refl _)).2
  have htip : tip c k (p : Nat) ≤ 10000 := tipbd
  apply Int.le_antisymm
  · show _ ≤ lfTo c k (p : Nat) k.length
    rcases b3 with b3 | ⟨j, hj, b3⟩
    · rw [b3]
      obtain ⟨u, hu, e, hpl⟩ := frm (k.length / 2) hmid
      have e0 : ((p : Nat) + ((k.length / 2 : Nat) : Int) - half k) % c.length = (p : Nat) := by
        rw [hhalf, show (p : Int) + ((k.length / 2 : Nat) : Int) - ((k.length / 2 : Nat) : Int) = p by omega]
        exact Int.emod_eq_of_lt (by omega) (by omega)
      have hup : u = p := by omega
      subst hup
      have := a2 u hu (k.length - 1 - k.length / 2) (by omega) hpl
      rw [show k.length - 1 - k.length / 2 = k.length / 2 by omega, G.mid] at this
      omega
    · rw [b3]
      obtain ⟨u, hu, e, hpl⟩ := frm j hj
      have := a2 u hu (k.length - 1 - j) (by omega) hpl
      rw [← G.sym j hj] at this
      rw [e]
      exact this
  · show lfTo c k (p : Nat) k.length ≤ _
    rcases a3 with a3 | ⟨u, j, hu, hj, hpl, a3⟩
    · rw [a3]; omega
    · rw [a3]
      have := b2 (k.length - 1 - j) (by omega)
      rw [to u j hu hj hpl, ← G.sym j hj] at this
      exact this
end Go.Cams
namespace Go.Cams
open Go Go.Fw
theorem tipTo_succ (c k : List Int) (s : Int) (i : Nat) : tipTo c k s (i + 1) = max (tipTo c k s i) (cAt c (s + i - half k) - g k i) := rfl
theorem lfTo_succ (c k : List Int) (p : Int) (i : Nat) : lfTo c k p (i + 1) = min (lfTo c k p i) (tip c k ((p + i - half k) % c.length) + g k i) := rfl
theorem cutTo_succ (k : List Int) (s tp : Int) (o : List Int) (i : Nat) : cutTo k s tp o (i + 1) = if g (cutTo k s tp o i).1 (place k s o.length i) > tp + g k i then ((cutTo k s tp o i).1.set (place k s o.length i) (tp + g k i), (cutTo k s tp o i).2 + (g (cutTo k s tp o i).1 (place k s o.length i) - (tp + g k i))) else cutTo k s tp o i := rfl
theorem leftTo_succ (c k : List Int) (s : Nat) : leftTo c k (s + 1) = (cutTo k (s : Nat) (tip c k (s : Nat)) (leftTo c k s) k.length).1 := rfl
/-- A surface stays within its bounds. -/
theorem cutTo_bd (k : List Int) (s : Int) {tp : Int} {o : List Int} (h : 0 < o.length) (hp : 0 ≤ tp) (hK : ∀ i, i < k.length → 0 ≤ g k i) (ho : ∀ v ∈ o, 0 ≤ v ∧ v ≤ 10000) : ∀ i, i ≤ k.length → (∀ v ∈ (cutTo k s tp o i).1, 0 ≤ v ∧ v ≤ 10000) ∧ 0 ≤ (cutTo k s tp o i).2 ∧ (cutTo k s tp o i).2 ≤ 10000 * i
  | 0, _ => ⟨ho, by simp [cutTo], by simp [cutTo]⟩
  | i + 1, hi => by
    obtain ⟨h1, h2, h3⟩ := cutTo_bd k s h hp hK ho i (by omega)
    have hk := hK i (by omega)
    have hlt := place_lt k s h i
    have hl := cutTo_len k s tp o i
    have hm := h1 _ (g_mem (l := (cutTo k s tp o i).1) (i := place k s o.length i) (by omega))
    rw [cutTo_succ]
    split
    · rename_i hgt
      refine ⟨fun v hv => ?_, ?_, ?_⟩
      · rcases List.mem_or_eq_of_mem_set hv with hv | hv
        · exact h1 v hv
        · rw [hv]; omega
      · simp only; omega
      · simp only; omega
    · exact ⟨h1, h2, by omega⟩
theorem rng_bd {l : List Int} (hl : (l.length : Int) ≤ 1000000) (h : ∀ v ∈ l, 0 ≤ v ∧ v ≤ 10000) : Rng l := ⟨by omega, fun v hv => by have := h v hv; omega⟩
theorem leftTo_bd {c k : List Int} (hc : 0 < c.length) (hC : ∀ v ∈ c, 0 ≤ v ∧ v ≤ 10000) (G : GoodK k) : ∀ s, ∀ v ∈ leftTo c k s, 0 ≤ v ∧ v ≤ 10000
  | 0 => fun v hv => by
    unfold leftTo at hv
    rw [List.mem_replicate] at hv
    omega
  | s + 1 => by
    have h := leftTo_bd hc hC G s
    have hl := leftTo_len c k s
    have ht := (tipTo_bd hc hC G.el (s : Nat) k.length (Nat.le_refl _)).1
    rw [leftTo_succ]
    exact (cutTo_bd k (s : Nat) (by omega) ht (fun i hi => (G.el i hi).1) h k.length (Nat.le_refl _)).1
def leftL (c k : List Int) : List Int := leftTo c k c.length
theorem leftL_len (c k : List Int) : (leftL c k).length = c.length := leftTo_len c k _
/-- The steps that are not reached. -/
def nrTo (c l : List Int) : Nat → List Int
  | 0 => []
  | i + 1 => if g l i > g c i then nrTo c l i ++ [(i : Int)] else nrTo c l i
theorem nrTo_succ (c l : List Int) (i : Nat) : nrTo c l (i + 1) = if g l i > g c i then nrTo c l i ++ [(i : Int)] else nrTo c l i := rfl
theorem nrTo_len (c l : List Int) : ∀ i, (nrTo c l i).length ≤ i
  | 0 => Nat.le_refl _
  | i + 1 => by
    have := nrTo_len c l i
    rw [nrTo_succ]
    split
    · simp; omega
    · omega
def nrR (c k : List Int) : List Int × (Int × Unit) := if cutCode c k ≠ 0 then ([], cutCode c k, ()) else (nrTo c (leftL c k) c.length, 0, ())
theorem cutCode_ok {c k : List Int} (h : cutCode c k = 0) : okC c = true ∧ okK k = true := by
  unfold cutCode at h
  split at h
  · rename_i h1
    split at h
    · rename_i h2; exact ⟨h1, h2⟩
    · exact absurd h (by decide)
  · exact absurd h (by decide)
theorem nrR_len (c k : List Int) : ((nrR c k).1.length : Int) ≤ 360 := by
  unfold nrR
  split
  · simp
  · rename_i h
    have h1 := okC_len (cutCode_ok (c := c) (k := k) (by simpa using h)).1
    have := nrTo_len c (leftL c k) c.length
    simp only
    omega
/-- What is left, a step at a time. -/
theorem leftL_take {c k : List Int} (hc : 0 < c.length) (hC : ∀ v ∈ c, 0 ≤ v ∧ v ≤ 10000) (G : GoodK k) {i : Nat} (h : i < c.length) : (leftL c k).take (i + 1) = (leftL c k).take i ++ [lf c k i] := by
  have hl := leftL_len c k
  have e : (leftL c k)[i]? = some (lf c k i) := by
    rw [← left_eq hc hC G i h]
    have := (g_idx (l := leftL c k) (i := (i : Int)) (by omega) (by omega)).get
    simpa [leftL] using this
  rw [List.take_add_one, e]; rfl
theorem lf_bd {c k : List Int} (hc : 0 < c.length) (hC : ∀ v ∈ c, 0 ≤ v ∧ v ≤ 10000) (G : GoodK k) {i : Nat} (h : i < c.length) : 0 ≤ lf c k i ∧ lf c k i ≤ 10000 := by
  rw [← left_eq hc hC G i h]
  exact leftTo_bd hc hC G c.length _ (g_mem (by rw [leftTo_len]; exact h))
end Go.Cams

/- Waste, and the best cutter, in plain terms. -/
namespace Go.Cams
open Go Go.Fw
structure RngS (K : List (List Int)) : Prop where
  len : (K.length : Int) * 24 ≤ 140737488351232
  el : ∀ k ∈ K, Rng k
theorem rngS_of {K : List (List Int)} (h : Dom (.slc (.slc (.int .i16))) K) : RngS K := ⟨Int.ofNat_le.2 h.1, fun k hk => rng_of (h.2 k hk)⟩
theorem RngS.len' {K : List (List Int)} (h : RngS K) : (K.length : Int) ≤ 5864062014635 := by have := h.len; omega
def szLf : List (List Int) → Int → Int
  | [], a => a
  | s :: r, a => if sz1 s a < 0 then -1 else szLf r (sz1 s a)
def szL (K : List (List Int)) (a : Int) : Int := if wr .i64 (a - (K.length : Int)) < 0 then -1 else szLf K (wr .i64 (a - (K.length : Int)))
def totL (K : List (List Int)) : Int := (K.map fun k => (k.length : Int)).sum
theorem totL_cons (k : List Int) (K : List (List Int)) : totL (k :: K) = k.length + totL K := by simp [totL]
theorem totL_nonneg : ∀ K : List (List Int), 0 ≤ totL K
  | [] => by simp [totL]
  | s :: r => by have := totL_nonneg r; rw [totL_cons]; omega
theorem totL_append (a b : List (List Int)) : totL (a ++ b) = totL a + totL b := by simp [totL]
theorem totL_take (l : List (List Int)) (i : Nat) : totL (l.take i) + totL (l.drop i) = totL l := by rw [← totL_append, List.take_append_drop]
theorem szLf_ok (l : List (List Int)) : ∀ {a : Int}, (∀ k ∈ l, Rng k) → a ≤ 1048576 → 0 ≤ a → ¬ szLf l a < 0 → totL l ≤ a ∧ szLf l a = a - totL l := by
  induction l with
  | nil =>
    intro a _ _ h1 _
    have : totL [] = 0 := by simp [totL]
    rw [this]
    exact ⟨h1, by simp [szLf]⟩
  | cons s r ih =>
    intro a hS h0 h1 h
    have hs := (hS s (by simp)).len'
    unfold szLf at h ⊢
    split at h
    · omega
    · rename_i h3
      obtain ⟨e, hle⟩ := sz1_ok (by omega) h0 h1 h3
      rw [if_neg h3]
      rw [e] at h ⊢
      have := ih (fun k hk => hS k (by simp [hk])) (by omega) (by omega) h
      rw [totL_cons]
      omega
theorem szL_ok {K : List (List Int)} (hS : RngS K) {a : Int} (h0 : 0 ≤ a) (h1 : a ≤ 1048576) (h : ¬ szL K a < 0) : (K.length : Int) + totL K ≤ a ∧ szL K a = a - K.length - totL K := by
  have h2 := hS.len'
  unfold szL at h ⊢
  rw [wrap_id (by omega) (by omega)] at h ⊢
  split at h
  · omega
  · rename_i h3
    rw [if_neg h3]
    obtain ⟨h4, h5⟩ := szLf_ok K hS.el (by omega) (by omega) h
    rw [h5]
    omega
def okKs (K : List (List Int)) : Bool := K.all okK
/-! ### What is left is not less -/
theorem tipTo_mono (c k : List Int) (s : Int) : ∀ n i : Nat, i < n → cAt c (s + i - half k) - g k i ≤ tipTo c k s n
  | 0, i, h => by omega
  | n + 1, i, h => by
    rw [tipTo_succ]
    by_cases e : i = n
    · subst e; omega
    · have := tipTo_mono c k s n i (by omega); omega
theorem cAt_self {c : List Int} {p : Nat} (h : p < c.length) : cAt c (p : Nat) = g c p := by
  unfold cAt
  rw [Int.emod_eq_of_lt (by omega) (by omega)]
  simp
theorem lf_ge {c k : List Int} (hc : 0 < c.length) (G : GoodK k) {p : Nat} (hp : p < c.length) : g c p ≤ lf c k p := by
  have hodd := G.odd
  have hlo := G.lo
  have hhalf : half k = ((k.length / 2 : Nat) : Int) := rfl
  have base : g c p ≤ tip c k (p : Nat) := by
    have := tipTo_mono c k (p : Nat) k.length (k.length / 2) (by omega)
    rw [G.mid, hhalf, show (p : Int) + ((k.length / 2 : Nat) : Int) - ((k.length / 2 : Nat) : Int) = (p : Nat) by omega, cAt_self hp] at this
    unfold tip
    omega
  have key : ∀ j, j < k.length → g c p ≤ tip c k ((p + (j : Nat) - half k) % c.length) + g k j := by
    intro j hj
    have := tipTo_mono c k (((p : Nat) + (j : Nat) - half k) % c.length) k.length (k.length - 1 - j) (by omega)
    rw [← G.sym j hj] at this
    have e : cAt c (((p : Nat) + (j : Nat) - half k) % c.length + ((k.length - 1 - j : Nat) : Int) - half k) = g c p := by
      have h1 : (((p : Int) + (j : Nat) - half k) % c.length + ((k.length - 1 - j : Nat) : Int) - half k) % c.length = (p : Int) % c.length := by
        rw [show ((p : Int) + (j : Nat) - half k) % c.length + ((k.length - 1 - j : Nat) : Int) - half k = ((p : Int) + (j : Nat) - half k) % c.length + (((k.length - 1 - j : Nat) : Int) - half k) by omega, Int.emod_add_emod]
        congr 1
        rw [hhalf]
        omega
      unfold cAt
      rw [h1, ← cAt, cAt_self hp]
    rw [e] at this
    unfold tip
    omega
  obtain ⟨_, _, h3⟩ := lfTo_el c k (p : Nat) k.length
  unfold lf
  rcases h3 with h3 | ⟨j, hj, h3⟩
  · rw [h3]; exact base
  · rw [h3]; exact key j hj
def wsTo (c l : List Int) : Nat → Int
  | 0 => 0
  | i + 1 => wsTo c l i + (g l i - g c i)
theorem wsTo_succ (c l : List Int) (i : Nat) : wsTo c l (i + 1) = wsTo c l i + (g l i - g c i) := rfl
def waste (c k : List Int) : Int := wsTo c (leftL c k) c.length
theorem leftL_g {c k : List Int} (hc : 0 < c.length) (hC : ∀ v ∈ c, 0 ≤ v ∧ v ≤ 10000) (G : GoodK k) {i : Nat} (h : i < c.length) : g (leftL c k) i = lf c k i := left_eq hc hC G i h
theorem wsTo_bd {c k : List Int} (hc : 0 < c.length) (hC : ∀ v ∈ c, 0 ≤ v ∧ v ≤ 10000) (G : GoodK k) : ∀ i, i ≤ c.length → 0 ≤ wsTo c (leftL c k) i ∧ wsTo c (leftL c k) i ≤ 10000 * i
  | 0, _ => by simp [wsTo]
  | i + 1, h => by
    have h1 := wsTo_bd hc hC G i (by omega)
    have h2 := lf_ge hc G (p := i) (by omega)
    have h3 := lf_bd hc hC G (i := i) (by omega)
    have h4 := hC _ (g_mem (l := c) (i := i) (by omega))
    rw [wsTo_succ, leftL_g hc hC G (by omega)]
    omega
/-- The best cutter of the first ones, and its waste. -/
def bkTo (c : List Int) (K : List (List Int)) : Nat → Int × Int
  | 0 => (0, -1)
  | i + 1 => if (bkTo c K i).2 < 0 ∨ waste c (K.getD i []) < (bkTo c K i).2 then ((i : Int), waste c (K.getD i [])) else bkTo c K i
theorem bkTo_succ (c : List Int) (K : List (List Int)) (i : Nat) : bkTo c K (i + 1) = if (bkTo c K i).2 < 0 ∨ waste c (K.getD i []) < (bkTo c K i).2 then ((i : Int), waste c (K.getD i [])) else bkTo c K i := rfl
theorem getD_at {α : Type} {l : List α} {i : Int} {v d : α} (h : At l i v) : l.getD i.toNat d = v := by rw [List.getD_eq_getElem?_getD, h.get]; rfl
structure GoodKs (K : List (List Int)) : Prop where
  el : ∀ k ∈ K, GoodK k
theorem goodKs {K : List (List Int)} (hr : RngS K) (h : okKs K = true) : GoodKs K := ⟨fun k hk => goodK (hr.el k hk) (List.all_eq_true.1 h k hk)⟩
theorem bkTo_pos {c : List Int} {K : List (List Int)} (hc : 0 < c.length) (hC : ∀ v ∈ c, 0 ≤ v ∧ v ≤ 10000) (G : GoodKs K) : ∀ i, 0 < i → i ≤ K.length → 0 ≤ (bkTo c K i).2
  | 0, h, _ => by omega
  | i + 1, _, h => by
    have hm : K.getD i [] ∈ K := by
      obtain ⟨v, hv⟩ := at_of (l := K) (i := (i : Int)) (by omega) (by omega)
      have := getD_at (d := []) hv
      rw [Int.toNat_natCast] at this
      rw [this]; exact hv.mem
    have hw := (wsTo_bd hc hC (G.el _ hm) c.length (Nat.le_refl _)).1
    rw [bkTo_succ]
    split
    · exact hw
    · omega
def bcR (c : List Int) (K : List (List Int)) : R3 := if okC c = true then (if okKs K = true then (if inR (K.length : Int) 1 8 = true then ((bkTo c K K.length).1, (bkTo c K K.length).2, 0, ()) else (0, 0, 2, ())) else (0, 0, 1, ())) else (0, 0, 1, ())
end Go.Cams

/- Cuts, in plain terms. -/
namespace Go.Cams
open Go Go.Fw
abbrev Ct : Type := Int × (Int × (Int × Unit))
abbrev CtTy : Ty := .pair (.int .i16) (.pair (.int .i16) (.pair (.int .i8) .unit))
structure RngC (L : List Ct) : Prop where
  len : (L.length : Int) * 6 ≤ 140737488351232
  el : ∀ v ∈ L, (-32768 ≤ v.1 ∧ v.1 ≤ 32767) ∧ (-32768 ≤ v.2.1 ∧ v.2.1 ≤ 32767) ∧ (-128 ≤ v.2.2.1 ∧ v.2.2.1 ≤ 127)
theorem rngC_of {L : List Ct} (h : Dom (.slc CtTy) L) : RngC L := ⟨Int.ofNat_le.2 h.1, fun v hv => (h.2 v hv).elim fun a b => ⟨a, b.1, b.2.1⟩⟩
theorem RngC.len' {L : List Ct} (h : RngC L) : (L.length : Int) ≤ 23456248058538 := by have := h.len; omega
theorem RngC.i1 {L : List Ct} (h : RngC L) {v : Ct} (hv : v ∈ L) : wr .i64 v.1 = v.1 := by have := (h.el v hv).1; exact wrap_id (by omega) (by omega)
theorem RngC.i2 {L : List Ct} (h : RngC L) {v : Ct} (hv : v ∈ L) : wr .i64 v.2.1 = v.2.1 := by have := (h.el v hv).2.1; exact wrap_id (by omega) (by omega)
theorem RngC.i3 {L : List Ct} (h : RngC L) {v : Ct} (hv : v ∈ L) : wr .i64 v.2.2.1 = v.2.2.1 := by have := (h.el v hv).2.2; exact wrap_id (by omega) (by omega)
def ctOk (m : Int) (v : Ct) : Bool := inR (wr .i64 v.1) 0 359 && inR (wr .i64 v.2.1) 0 10000 && inR (wr .i64 v.2.2.1) 0 (wr .i64 (m - 1))
def okCt (L : List Ct) (m : Int) : Bool := decide ((L.length : Int) ≤ 400) && L.all (ctOk m)
def onCt (L : List Ct) (n : Int) : Bool := L.all fun v => !decide (wr .i64 v.1 ≥ n)
def okCuts (L : List Ct) (K : List (List Int)) : Bool := inR (K.length : Int) 1 8 && okKs K && okCt L K.length
def gvCode (c : List Int) (K : List (List Int)) (L : List Ct) : Int := if okC c = true then (if okCuts L K = true then (if onCt L c.length = true then 0 else 2) else 1) else 1
structure GoodG (c : List Int) (K : List (List Int)) (L : List Ct) : Prop where
  hc : okC c = true
  hk : okKs K = true
  n : 1 ≤ (K.length : Int) ∧ (K.length : Int) ≤ 8
  l : (L.length : Int) ≤ 400
  el : ∀ v ∈ L, (0 ≤ v.1 ∧ v.1 < (c.length : Int)) ∧ (0 ≤ v.2.1 ∧ v.2.1 ≤ 10000) ∧ (0 ≤ v.2.2.1 ∧ v.2.2.1 < (K.length : Int))
theorem goodG {c : List Int} {K : List (List Int)} {L : List Ct} (hr : RngC L) (h : gvCode c K L = 0) : GoodG c K L := by
  unfold gvCode at h
  split at h
  · rename_i h1
    split at h
    · rename_i h2
      split at h
      · rename_i h3
        simp only [okCuts, okCt, Bool.and_eq_true, inR_iff, decide_eq_true_eq, List.all_eq_true] at h2
        obtain ⟨⟨a, b⟩, d, e⟩ := h2
        refine ⟨h1, b, a, d, fun v hv => ?_⟩
        have e1 := e v hv
        simp only [ctOk, Bool.and_eq_true, inR_iff] at e1
        rw [hr.i1 hv, hr.i2 hv, hr.i3 hv, wrap_id (by omega) (by omega)] at e1
        have e2 := List.all_eq_true.1 h3 v hv
        rw [hr.i1 hv] at e2
        have e2 : ¬ v.1 ≥ (c.length : Int) := by simpa using e2
        omega
      · exact absurd h (by decide)
    · exact absurd h (by decide)
  · exact absurd h (by decide)
def deepF (c : List Int) (K : List (List Int)) (v : Ct) : Bool := decide (v.2.1 < tip c (K.getD v.2.2.1.toNat []) v.1)
abbrev R2' : Type := Int × (Int × Unit)
def ftR (c : List Int) (K : List (List Int)) (L : List Ct) : R2' := if gvCode c K L ≠ 0 then (0, gvCode c K L, ()) else if fi (deepF c K) L 0 < 0 then (0, 6, ()) else (fi (deepF c K) L 0, 0, ())
theorem all_false {α : Type} {p : α → Bool} {l : List α} {v : α} (h : v ∈ l) (hp : p v = false) : l.all p = false := by
  rw [Bool.eq_false_iff]
  intro ha
  have := List.all_eq_true.1 ha v h
  rw [hp] at this
  cases this
end Go.Cams

/- Machines that draw, in plain terms. -/
namespace Go.Cams
open Go Go.Fw
abbrev Mk : Type := List Int
abbrev Stp : Type := List Int × (Bool × Unit)
theorem wrapU64 {x : Int} (h1 : 0 ≤ x) (h2 : x ≤ 18446744073709551615) : wr .u64 x = x := by
  show IntKind.u64.wrap x = x
  simp [IntKind.wrap, IntKind.bits, IntKind.signed]
  omega
/-- A mark on the plate. -/
structure OnP (a : Mk) : Prop where
  len : a.length = 2
  x : 0 ≤ g a 0 ∧ g a 0 ≤ 63
  y : 0 ≤ g a 1 ∧ g a 1 ≤ 63
theorem OnP.get0 {a : Mk} (h : OnP a) : a[0]? = some (g a 0) := by
  have := (g_idx (l := a) (i := 0) (by omega) (by have := h.len; omega)).get
  simpa using this
theorem OnP.get1 {a : Mk} (h : OnP a) : a[1]? = some (g a 1) := by
  have := (g_idx (l := a) (i := 1) (by omega) (by have := h.len; omega)).get
  simpa using this
theorem OnP.idx0 {a : Mk} (h : OnP a) : idx a 0 = some (g a 0) := (g_idx (l := a) (i := 0) (by omega) (by have := h.len; omega)).idx
theorem OnP.idx1 {a : Mk} (h : OnP a) : idx a 1 = some (g a 1) := (g_idx (l := a) (i := 1) (by omega) (by have := h.len; omega)).idx
theorem OnP.eq {a : Mk} (h : OnP a) : a = [g a 0, g a 1] := by
  have hl := h.len
  match a, hl with
  | [x, y], _ => rfl
theorem onP_pair {x y : Int} (hx : 0 ≤ x ∧ x ≤ 63) (hy : 0 ≤ y ∧ y ≤ 63) : OnP [x, y] := ⟨rfl, hx, hy⟩
def siz (x : Int) : Int := if x < 0 then -x else x
def far (a b : Mk) : Int := max (siz (g a 0 - g b 0)) (siz (g a 1 - g b 1))
/-- The nearest whole number of a fraction. -/
def nr (x n : Int) : Int := (2 * x + n) / (2 * n)
def pt (a b : Mk) (k : Int) (i : Nat) : Int := g a i + nr (k * (g b i - g a i)) (far a b)
def ptM (a b : Mk) (k : Int) : Mk := [pt a b k 0, pt a b k 1]
def lineM (a b : Mk) : List Mk := if far a b = 0 then [a] else (List.range (far a b + 1).toNat).map fun k => ptM a b (k : Nat)
theorem far_bd {a b : Mk} (ha : OnP a) (hb : OnP b) : 0 ≤ far a b ∧ far a b ≤ 63 ∧ (∀ i : Nat, i = 0 ∨ i = 1 → -far a b ≤ g b i - g a i ∧ g b i - g a i ≤ far a b) := by
  have h1 := ha.x; have h2 := ha.y; have h3 := hb.x; have h4 := hb.y
  have e : far a b = max (siz (g a 0 - g b 0)) (siz (g a 1 - g b 1)) := rfl
  have e1 : siz (g a 0 - g b 0) = if g a 0 - g b 0 < 0 then -(g a 0 - g b 0) else g a 0 - g b 0 := rfl
  have e2 : siz (g a 1 - g b 1) = if g a 1 - g b 1 < 0 then -(g a 1 - g b 1) else g a 1 - g b 1 := rfl
  refine ⟨?_, ?_, fun i hi => ?_⟩
  · split at e1 <;> omega
  · split at e1 <;> split at e2 <;> omega
  · rcases hi with rfl | rfl
    · split at e1 <;> omega
    · split at e2 <;> omega
theorem nr_bd {k d n : Int} (hn : 0 < n) (k0 : 0 ≤ k) (k1 : k ≤ n) (h1 : -n ≤ d) (h2 : d ≤ n) : (0 ≤ d → 0 ≤ nr (k * d) n ∧ nr (k * d) n ≤ d) ∧ (d ≤ 0 → d ≤ nr (k * d) n ∧ nr (k * d) n ≤ 0) := by
  have hnn : (2 * (n * d) + n) / (2 * n) = d := by
    rw [show 2 * (n * d) + n = n + (2 * n) * d by rw [Int.mul_assoc]; omega, Int.add_mul_ediv_left _ _ (by omega)]
    rw [Int.ediv_eq_zero_of_lt (by omega) (by omega)]; omega
  have h00 : (2 * 0 + n) / (2 * n) = 0 := Int.ediv_eq_zero_of_lt (by omega) (by omega)
  unfold nr
  constructor
  · intro hd
    have a : 0 ≤ k * d := Int.mul_nonneg k0 hd
    have b : k * d ≤ n * d := Int.mul_le_mul_of_nonneg_right k1 hd
    have c := Int.ediv_le_ediv (c := 2 * n) (by omega) (show 2 * 0 + n ≤ 2 * (k * d) + n by omega)
    have e := Int.ediv_le_ediv (c := 2 * n) (by omega) (show 2 * (k * d) + n ≤ 2 * (n * d) + n by omega)
    omega
  · intro hd
    have a : k * d ≤ 0 := Int.mul_nonpos_of_nonneg_of_nonpos k0 hd
    have b : n * d ≤ k * d := Int.mul_le_mul_of_nonpos_right k1 hd
    have c := Int.ediv_le_ediv (c := 2 * n) (by omega) (show 2 * (k * d) + n ≤ 2 * 0 + n by omega)
    have e := Int.ediv_le_ediv (c := 2 * n) (by omega) (show 2 * (n * d) + n ≤ 2 * (k * d) + n by omega)
    omega
theorem pt_bd {a b : Mk} (ha : OnP a) (hb : OnP b) (hn : far a b ≠ 0) {k : Int} (k0 : 0 ≤ k) (k1 : k ≤ far a b) {i : Nat} (hi : i = 0 ∨ i = 1) : 0 ≤ pt a b k i ∧ pt a b k i ≤ 63 := by
  obtain ⟨f0, f1, f2⟩ := far_bd ha hb
  have hx := ha.x; have hy := ha.y; have kx := hb.x; have ky := hb.y
  obtain ⟨b1, b2⟩ := nr_bd (show 0 < far a b by omega) k0 k1 (f2 i hi).1 (f2 i hi).2
  have hga : 0 ≤ g a i ∧ g a i ≤ 63 := by rcases hi with rfl | rfl <;> assumption
  have hgb : 0 ≤ g b i ∧ g b i ≤ 63 := by rcases hi with rfl | rfl <;> assumption
  unfold pt
  rcases Int.le_total 0 (g b i - g a i) with h | h
  · have := b1 h; omega
  · have := b2 h; omega
theorem kd_bd {a b : Mk} (ha : OnP a) (hb : OnP b) {k : Int} (k0 : 0 ≤ k) (k1 : k ≤ 63) {i : Nat} (hi : i = 0 ∨ i = 1) : -4000 ≤ k * (g b i - g a i) ∧ k * (g b i - g a i) ≤ 4000 := by
  obtain ⟨f0, f1, f2⟩ := far_bd ha hb
  have h := f2 i hi
  have a1 : k * (-63) ≤ k * (g b i - g a i) := Int.mul_le_mul_of_nonneg_left (by omega) k0
  have a2 : k * (g b i - g a i) ≤ k * 63 := Int.mul_le_mul_of_nonneg_left (by omega) k0
  omega
theorem nr_from {a x n : Int} (hn : 0 < n) : nr (a * n + x) n = a + nr x n := by
  unfold nr
  rw [show 2 * (a * n + x) + n = (2 * x + n) + (2 * n) * a by rw [Int.mul_add, Int.mul_comm a n, ← Int.mul_assoc]; omega, Int.add_mul_ediv_left _ _ (by omega)]
  omega
theorem nr_zero {n : Int} (hn : 0 < n) : nr 0 n = 0 := by
  unfold nr
  exact Int.ediv_eq_zero_of_lt (by omega) (by omega)
theorem ptM_zero {a b : Mk} (ha : OnP a) (hb : OnP b) (hn : far a b ≠ 0) : ptM a b 0 = a := by
  obtain ⟨f0, _, _⟩ := far_bd ha hb
  have h : ∀ i, pt a b 0 i = g a i := fun i => by
    unfold pt
    rw [Int.zero_mul, nr_zero (by omega)]; omega
  unfold ptM
  rw [h, h]
  exact ha.eq.symm
theorem lineM_on {a b : Mk} (ha : OnP a) (hb : OnP b) : ∀ m ∈ lineM a b, OnP m := by
  intro m hm
  unfold lineM at hm
  split at hm
  · simp at hm; subst hm; exact ha
  · rename_i hn
    simp only [List.mem_map, List.mem_range] at hm
    obtain ⟨k, hk, rfl⟩ := hm
    exact onP_pair (pt_bd ha hb hn (by omega) (by omega) (.inl rfl)) (pt_bd ha hb hn (by omega) (by omega) (.inr rfl))
theorem lineM_len {a b : Mk} (ha : OnP a) (hb : OnP b) : ((lineM a b).length : Int) ≤ 64 := by
  obtain ⟨f0, f1, f2⟩ := far_bd ha hb
  unfold lineM
  split
  · simp
  · simp; omega
theorem lineM_same {a : Mk} : lineM a a = [a] := by
  unfold lineM
  rw [if_pos]
  unfold far siz
  simp
/-- Ink on a plate. -/
def inkP (p : List Int) (m : Mk) : List Int := p.set (g m 1).toNat (bitsI .or .u64 (g p (g m 1).toNat) (shl_ .u64 1 (g m 0)))
def inkL (p : List Int) (l : List Mk) : List Int := l.foldl inkP p
theorem inkP_len (p : List Int) (m : Mk) : (inkP p m).length = p.length := by simp [inkP]
theorem inkL_len : ∀ (l : List Mk) (p : List Int), (inkL p l).length = p.length
  | [], _ => rfl
  | m :: r, p => by
    show (inkL (inkP p m) r).length = _
    rw [inkL_len r, inkP_len]
theorem inkL_snoc (p : List Int) (l : List Mk) (m : Mk) : inkL p (l ++ [m]) = inkP (inkL p l) m := by simp [inkL]
/-- The stops of a machine. -/
def stopM (m : Mch) (i : Nat) : Stp := ([g m.1 i, g m.2.1 i], (g m.2.2.1 i == 0), ())
def stopsM (m : Mch) : List Stp := (List.range m.1.length).map (stopM m)
theorem stopsM_at (m : Mch) {i : Nat} (h : i < m.1.length) : At (stopsM m) (i : Int) (stopM m i) := by
  have hl : (stopsM m).length = m.1.length := by simp [stopsM]
  obtain ⟨v, hv⟩ := at_of (l := stopsM m) (i := (i : Int)) (by omega) (by omega)
  have := hv.get
  rw [stopsM, Int.toNat_natCast, List.getElem?_map, List.getElem?_range h] at this
  simp only [Option.map_some, Option.some.injEq] at this
  rw [this]; exact hv
theorem mx_el {l : List Int} (h : mxL l < 64) : ∀ v ∈ l, v ≤ 63 := fun v hv => by
  have := (mxF_ge l (l.headD 0)).2 v hv
  unfold mxL at h; omega
theorem stop_on {m : Mch} (hr : RngM m) (G : GoodM m) {i : Nat} (h : i < m.1.length) : OnP (stopM m i).1 := by
  have h1 := okC_el G.x hr.x _ (g_mem h)
  have h2 := mx_el G.mx _ (g_mem h)
  have h3 := okC_el G.y hr.y _ (g_mem (i := i) (by have := G.xy; omega))
  have h4 := mx_el G.my _ (g_mem (i := i) (by have := G.xy; omega))
  exact onP_pair ⟨h1.1, h2⟩ ⟨h3.1, h4⟩
/-- What the first stops draw. -/
def drawTo (m : Mch) : Nat → List Int
  | 0 => List.replicate 64 0
  | i + 1 => if (stopM m i).2.1 = true then (if (stopM m ((i + 1) % m.1.length)).2.1 = true then inkL (inkP (drawTo m i) (stopM m i).1) (lineM (stopM m i).1 (stopM m ((i + 1) % m.1.length)).1) else inkP (drawTo m i) (stopM m i).1) else drawTo m i
theorem drawTo_len (m : Mch) : ∀ i, (drawTo m i).length = 64
  | 0 => by simp [drawTo]
  | i + 1 => by
    unfold drawTo
    split
    · split
      · rw [inkL_len, inkP_len, drawTo_len m i]
      · rw [inkP_len, drawTo_len m i]
    · exact drawTo_len m i
def dmR (m : Mch) : List Int × (Int × Unit) := if okM m = true then (drawTo m m.1.length, 0, ()) else (List.replicate 64 0, 1, ())
theorem dmR_len (m : Mch) : (dmR m).1.length = 64 := by
  unfold dmR
  split
  · exact drawTo_len m _
  · simp
end Go.Cams

/- Motions by laws, runs of a cam, and programs that are found, in plain terms. -/
namespace Go.Cams
open Go Go.Fw
theorem mulB {a b A B : Int} (a0 : 0 ≤ a) (a1 : a ≤ A) (b0 : 0 ≤ b) (b1 : b ≤ B) : 0 ≤ a * b ∧ a * b ≤ A * B := ⟨Int.mul_nonneg a0 b0, Int.mul_le_mul a1 b1 b0 (by omega)⟩
/-- How much of a change is done, as a fraction. -/
def shN (w k n : Int) : Int := if w = 1 then (if 2 * k ≤ n then 2 * k * k else n * n - 2 * (n - k) * (n - k)) else if w = 2 then 3 * k * k * n - 2 * k * k * k else if w = 3 then k * k * k * (10 * n * n - 15 * k * n + 6 * k * k) else k
def shD (w n : Int) : Int := if w = 1 then n * n else if w = 2 then n * n * n else if w = 3 then n * n * n * n * n else n
def liftP (f t w k n : Int) : Int := nr (f * shD w n + (t - f) * shN w k n) (shD w n)
theorem shD_bd {w n : Int} (n0 : 1 ≤ n) (n1 : n ≤ 360) : 1 ≤ shD w n ∧ shD w n ≤ 6046617600000 := by
  have p2 : 1 ≤ n * n := Int.mul_le_mul n0 n0 (by omega) (by omega)
  have q2 := (mulB (show 0 ≤ n by omega) n1 (show 0 ≤ n by omega) n1).2
  have p3 : 1 ≤ n * n * n := Int.mul_le_mul p2 n0 (by omega) (by omega)
  have q3 := (mulB (show 0 ≤ n * n by omega) q2 (show 0 ≤ n by omega) n1).2
  have p4 : 1 ≤ n * n * n * n := Int.mul_le_mul p3 n0 (by omega) (by omega)
  have q4 := (mulB (show 0 ≤ n * n * n by omega) q3 (show 0 ≤ n by omega) n1).2
  have p5 : 1 ≤ n * n * n * n * n := Int.mul_le_mul p4 n0 (by omega) (by omega)
  have q5 := (mulB (show 0 ≤ n * n * n * n by omega) q4 (show 0 ≤ n by omega) n1).2
  unfold shD
  split
  · omega
  split
  · omega
  split <;> omega
theorem shN_bd {w k n : Int} (k0 : 0 ≤ k) (k1 : k ≤ n) (n1 : n ≤ 360) : -170000000000000 ≤ shN w k n ∧ shN w k n ≤ 170000000000000 := by
  have q2 := mulB (show 0 ≤ n by omega) n1 (show 0 ≤ n by omega) n1
  have kk := mulB (show 0 ≤ 2 * k by omega) (show 2 * k ≤ 720 by omega) k0 (show k ≤ 360 by omega)
  have dd := mulB (show 0 ≤ 2 * (n - k) by omega) (show 2 * (n - k) ≤ 720 by omega) (show 0 ≤ n - k by omega) (show n - k ≤ 360 by omega)
  have k3 := mulB (show 0 ≤ 3 * k by omega) (show 3 * k ≤ 1080 by omega) k0 (show k ≤ 360 by omega)
  have k3n := mulB k3.1 k3.2 (show 0 ≤ n by omega) n1
  have kkk := mulB kk.1 kk.2 k0 (show k ≤ 360 by omega)
  have c2 := mulB k0 (show k ≤ 360 by omega) k0 (show k ≤ 360 by omega)
  have c3 := mulB c2.1 c2.2 k0 (show k ≤ 360 by omega)
  have e1 := mulB (show 0 ≤ 10 * n by omega) (show 10 * n ≤ 3600 by omega) (show 0 ≤ n by omega) n1
  have e2 := mulB (show 0 ≤ 15 * k by omega) (show 15 * k ≤ 5400 by omega) (show 0 ≤ n by omega) n1
  have e3 := mulB (show 0 ≤ 6 * k by omega) (show 6 * k ≤ 2160 by omega) k0 (show k ≤ 360 by omega)
  unfold shN
  split
  · split <;> omega
  split
  · omega
  split
  · have a1 : k * k * k * (-1944000) ≤ k * k * k * (10 * n * n - 15 * k * n + 6 * k * k) := Int.mul_le_mul_of_nonneg_left (by omega) c3.1
    have a2 : k * k * k * (10 * n * n - 15 * k * n + 6 * k * k) ≤ k * k * k * 2073600 := Int.mul_le_mul_of_nonneg_left (by omega) c3.1
    omega
  · omega
theorem lift_bd {f t w k n : Int} (f0 : 0 ≤ f) (f1 : f ≤ 10000) (t0 : 0 ≤ t) (t1 : t ≤ 10000) (k0 : 0 ≤ k) (k1 : k ≤ n) (n0 : 1 ≤ n) (n1 : n ≤ 360) : (0 ≤ f * shD w n ∧ f * shD w n ≤ 60466176000000000) ∧ (-1700000000000000000 ≤ (t - f) * shN w k n ∧ (t - f) * shN w k n ≤ 1700000000000000000) := by
  have hd := shD_bd (w := w) n0 n1
  have hn := shN_bd (w := w) k0 k1 n1
  have a := mulB f0 f1 (show 0 ≤ shD w n by omega) hd.2
  refine ⟨by omega, ?_⟩
  rcases Int.le_total 0 (t - f) with h | h
  · have b1 : (t - f) * (-170000000000000) ≤ (t - f) * shN w k n := Int.mul_le_mul_of_nonneg_left hn.1 h
    have b2 : (t - f) * shN w k n ≤ (t - f) * 170000000000000 := Int.mul_le_mul_of_nonneg_left hn.2 h
    omega
  · have b1 : (t - f) * 170000000000000 ≤ (t - f) * shN w k n := Int.mul_le_mul_of_nonpos_left h hn.2
    have b2 : (t - f) * shN w k n ≤ (t - f) * (-170000000000000) := Int.mul_le_mul_of_nonpos_left h hn.1
    omega
/-! ### Runs -/
def kdOf (x : Int) : Int := if x > 0 then 1 else if x < 0 then -1 else 0
def kd (c : List Int) (x : Int) : Int := kdOf (cAt c (x + 1) - cAt c x)
theorem cAt_mod (c : List Int) (x : Int) : cAt c (x % c.length) = cAt c x := by
  unfold cAt; rw [Int.emod_emod]
theorem cAt_add (c : List Int) (x : Int) : cAt c (x + c.length) = cAt c x := by
  unfold cAt; rw [Int.add_emod_right]
theorem kd_add (c : List Int) (x : Int) : kd c (x + c.length) = kd c x := by
  unfold kd
  rw [show x + (c.length : Int) + 1 = x + 1 + c.length by omega, cAt_add, cAt_add]
theorem cAt_mod' (c : List Int) (x d : Int) : cAt c (x % c.length + d) = cAt c (x + d) := by
  unfold cAt; rw [Int.emod_add_emod]
theorem kd_mod (c : List Int) (x : Int) : kd c (x % c.length) = kd c x := by
  unfold kd
  rw [cAt_mod', cAt_mod]
def chgL (c : List Int) : List Int := (List.range c.length).map fun i => cAt c ((i : Nat) + 1) - cAt c (i : Nat)
theorem chgL_len (c : List Int) : (chgL c).length = c.length := by simp [chgL]
theorem chgL_at {c : List Int} (h : 0 < c.length) (x : Int) : At (chgL c) (x % c.length) (cAt c (x + 1) - cAt c x) := by
  have h1 := Int.emod_nonneg x (show (c.length : Int) ≠ 0 by omega)
  have h2 := Int.emod_lt_of_pos x (show 0 < (c.length : Int) by omega)
  obtain ⟨v, hv⟩ := at_of (l := chgL c) h1 (by rw [chgL_len]; omega)
  have e := hv.get
  rw [chgL, List.getElem?_map, List.getElem?_range (by omega)] at e
  simp only [Option.map_some, Option.some.injEq] at e
  rw [show (((x % (c.length : Int)).toNat : Nat) : Int) = x % c.length by omega, cAt_mod', cAt_mod] at e
  rw [e]; exact hv
/-- How many steps ahead of a place are of the kind of step 0, no more than so many. -/
def bkF (K : Int → Int) : Nat → Nat → Nat
  | 0, b => b
  | f + 1, b => if K (-(b : Int) - 1) = K 0 then bkF K f (b + 1) else b
theorem bkF_spec (K : Int → Int) : ∀ f b, (∀ i : Nat, i < b → K (-(i : Int) - 1) = K 0) → b ≤ bkF K f b ∧ bkF K f b ≤ b + f ∧ (∀ i : Nat, i < bkF K f b → K (-(i : Int) - 1) = K 0) ∧ (bkF K f b < b + f → K (-(bkF K f b : Int) - 1) ≠ K 0)
  | 0, b, h => ⟨Nat.le_refl _, Nat.le_refl _, h, fun h => absurd h (by simp [bkF])⟩
  | f + 1, b, h => by
    unfold bkF
    split
    · rename_i hc
      obtain ⟨a1, a2, a3, a4⟩ := bkF_spec K f (b + 1) (fun i hi => by
        by_cases e : i = b
        · subst e; exact hc
        · exact h i (by omega))
      exact ⟨by omega, by omega, a3, fun hh => a4 (by omega)⟩
    · rename_i hc
      exact ⟨Nat.le_refl _, by omega, h, fun _ => hc⟩
/-- How long a run is. -/
def rlF (K : Int → Int) (s : Int) : Nat → Nat → Nat
  | 0, l => l
  | f + 1, l => if K (s + l) = K s then rlF K s f (l + 1) else l
theorem rlF_spec (K : Int → Int) (s : Int) : ∀ f l, (∀ i : Nat, i < l → K (s + i) = K s) → l ≤ rlF K s f l ∧ rlF K s f l ≤ l + f ∧ (∀ i : Nat, i < rlF K s f l → K (s + i) = K s) ∧ (rlF K s f l < l + f → K (s + (rlF K s f l : Nat)) ≠ K s)
  | 0, l, h => ⟨Nat.le_refl _, Nat.le_refl _, h, fun h => absurd h (by simp [rlF])⟩
  | f + 1, l, h => by
    unfold rlF
    split
    · rename_i hc
      obtain ⟨a1, a2, a3, a4⟩ := rlF_spec K s f (l + 1) (fun i hi => by
        by_cases e : i = l
        · subst e; exact hc
        · exact h i (by omega))
      exact ⟨by omega, by omega, a3, fun hh => a4 (by omega)⟩
    · rename_i hc
      exact ⟨Nat.le_refl _, by omega, h, fun _ => hc⟩
theorem rlF_uniq (K : Int → Int) (s : Int) {f l m : Nat} (hl : ∀ i : Nat, i < l → K (s + i) = K s) (h1 : l ≤ m) (h2 : m ≤ l + f) (h3 : ∀ i : Nat, i < m → K (s + i) = K s) (h4 : m < l + f → K (s + (m : Nat)) ≠ K s) : rlF K s f l = m := by
  obtain ⟨a1, a2, a3, a4⟩ := rlF_spec K s f l hl
  rcases Nat.lt_trichotomy (rlF K s f l) m with h | h | h
  · exact absurd (h3 _ h) (a4 (by omega))
  · exact h
  · exact absurd (a3 _ h) (h4 (by omega))
def rl (K : Int → Int) (s : Int) (left : Nat) : Nat := rlF K s (left - 1) 1
theorem rl_one (K : Int → Int) (s : Int) : ∀ i : Nat, i < 1 → K (s + i) = K s := fun i hi => by
  have : i = 0 := by omega
  subst this
  simp
theorem rl_spec (K : Int → Int) (s : Int) {left : Nat} (h : 0 < left) : 1 ≤ rl K s left ∧ rl K s left ≤ left ∧ (∀ i : Nat, i < rl K s left → K (s + i) = K s) ∧ (rl K s left < left → K (s + (rl K s left : Nat)) ≠ K s) := by
  obtain ⟨a1, a2, a3, a4⟩ := rlF_spec K s (left - 1) 1 (rl_one K s)
  unfold rl
  exact ⟨a1, by omega, a3, fun hh => a4 (by omega)⟩
theorem rl_is (K : Int → Int) (s : Int) {left m : Nat} (h : 1 ≤ m) (h2 : m ≤ left) (h3 : ∀ i : Nat, i < m → K (s + i) = K s) (h4 : m < left → K (s + (m : Nat)) ≠ K s) : rl K s left = m :=
  rlF_uniq K s (rl_one K s) h (by omega) h3 (fun hh => h4 (by omega))
/-- Runs, from a step on, so many steps. -/
def rsF (c : List Int) : Nat → Int → Nat → List Ct
  | 0, _, _ => []
  | f + 1, s, left => if left = 0 then [] else (kd c s, s % c.length, ((rl (kd c) s left : Nat) : Int), ()) :: rsF c f (s + (rl (kd c) s left : Nat)) (left - rl (kd c) s left)
theorem rl_add (c : List Int) (s : Int) {left : Nat} (h : 0 < left) : rl (kd c) (s + c.length) left = rl (kd c) s left := by
  obtain ⟨a1, a2, a3, a4⟩ := rl_spec (kd c) s h
  have e : ∀ i : Int, kd c (s + c.length + i) = kd c (s + i) := fun i => by rw [show s + (c.length : Int) + i = s + i + c.length by omega, kd_add]
  refine rl_is (kd c) _ a1 a2 (fun i hi => ?_) (fun hh => ?_)
  · rw [e, kd_add]; exact a3 i hi
  · rw [e, kd_add]; exact a4 hh
theorem rsF_add (c : List Int) : ∀ f s left, rsF c f (s + c.length) left = rsF c f s left
  | 0, _, _ => rfl
  | f + 1, s, left => by
    unfold rsF
    by_cases h : left = 0
    · rw [if_pos h, if_pos h]
    · rw [if_neg h, if_neg h, rl_add c s (by omega), kd_add, Int.add_emod_right, show s + (c.length : Int) + ((rl (kd c) s left : Nat) : Int) = s + ((rl (kd c) s left : Nat) : Int) + c.length by omega, rsF_add c f]
theorem rsF_more (c : List Int) : ∀ f s left, left ≤ f → rsF c f s left = rsF c left s left
  | 0, s, left, h => by
    have : left = 0 := by omega
    subst this; rfl
  | f + 1, s, left, h => by
    by_cases h0 : left = 0
    · subst h0
      unfold rsF; rfl
    obtain ⟨l, rfl⟩ : ∃ l, left = l + 1 := ⟨left - 1, by omega⟩
    obtain ⟨a1, a2, _, _⟩ := rl_spec (kd c) s (left := l + 1) (by omega)
    unfold rsF
    rw [if_neg h0, if_neg h0, rsF_more c f _ _ (by omega), rsF_more c l _ _ (by omega)]
def rs (c : List Int) (s : Int) (left : Nat) : List Ct := rsF c left s left
theorem rs_zero (c : List Int) (s : Int) : rs c s 0 = [] := rfl
theorem rs_pos (c : List Int) (s : Int) {left : Nat} (h : 0 < left) : rs c s left = (kd c s, s % c.length, ((rl (kd c) s left : Nat) : Int), ()) :: rs c (s + (rl (kd c) s left : Nat)) (left - rl (kd c) s left) := by
  obtain ⟨l, rfl⟩ : ∃ l, left = l + 1 := ⟨left - 1, by omega⟩
  obtain ⟨a1, a2, _, _⟩ := rl_spec (kd c) s (left := l + 1) (by omega)
  unfold rs
  rw [rsF, if_neg (by omega), rsF_more c l _ _ (by omega)]
theorem rs_add (c : List Int) (s : Int) (left : Nat) : rs c (s + c.length) left = rs c s left := rsF_add c left s left
theorem rs_el (c : List Int) (h0 : 0 < c.length) : ∀ (left : Nat) (s : Int), ∀ v ∈ rs c s left, (v.1 = 1 ∨ v.1 = -1 ∨ v.1 = 0) ∧ (0 ≤ v.2.1 ∧ v.2.1 < (c.length : Int)) ∧ (1 ≤ v.2.2.1 ∧ v.2.2.1 ≤ (left : Int)) := by
  intro left
  induction left using Nat.strongRecOn with
  | _ left ih =>
    intro s v hv
    by_cases h : left = 0
    · subst h; rw [rs_zero] at hv; cases hv
    rw [rs_pos c s (by omega)] at hv
    obtain ⟨a1, a2, _, _⟩ := rl_spec (kd c) s (left := left) (by omega)
    rcases List.mem_cons.1 hv with rfl | hv
    · have h1 := Int.emod_nonneg s (show (c.length : Int) ≠ 0 by omega)
      have h2 := Int.emod_lt_of_pos s (show 0 < (c.length : Int) by omega)
      refine ⟨?_, ⟨h1, h2⟩, by show (1 : Int) ≤ ((rl (kd c) s left : Nat) : Int); omega, by show ((rl (kd c) s left : Nat) : Int) ≤ left; omega⟩
      show kdOf _ = 1 ∨ kdOf _ = -1 ∨ kdOf _ = 0
      unfold kdOf
      split
      · exact .inl rfl
      split
      · exact .inr (.inl rfl)
      · exact .inr (.inr rfl)
    · have := ih (left - rl (kd c) s left) (by omega) _ v hv
      omega
theorem rs_len (c : List Int) : ∀ (left : Nat) (s : Int), (rs c s left).length ≤ left := by
  intro left
  induction left using Nat.strongRecOn with
  | _ left ih =>
    intro s
    by_cases h : left = 0
    · subst h; simp [rs_zero]
    rw [rs_pos c s (by omega)]
    obtain ⟨a1, a2, _, _⟩ := rl_spec (kd c) s (left := left) (by omega)
    have := ih (left - rl (kd c) s left) (by omega) (s + (rl (kd c) s left : Nat))
    rw [List.length_cons]; omega
/-- Steps ahead of step 0 that are of its kind: all of them, or none but so many. -/
def bk (c : List Int) : Nat := bkF (kd c) c.length 0
def runsP (c : List Int) : List Ct := if bk c = c.length then [(kd c 0, 0, (c.length : Int), ())] else rs c (-(bk c : Int)) c.length
theorem bk_spec (c : List Int) : bk c ≤ c.length ∧ (∀ i : Nat, i < bk c → kd c (-(i : Int) - 1) = kd c 0) ∧ (bk c < c.length → kd c (-(bk c : Int) - 1) ≠ kd c 0) := by
  obtain ⟨_, a2, a3, a4⟩ := bkF_spec (kd c) c.length 0 (fun i hi => by omega)
  unfold bk
  exact ⟨by omega, a3, fun h => a4 (by omega)⟩
theorem bk_lt (c : List Int) (h0 : 0 < c.length) (h : bk c ≠ c.length) : bk c + 2 ≤ c.length := by
  obtain ⟨a1, a2, a3⟩ := bk_spec c
  by_cases e : bk c + 1 = c.length
  · exact absurd (by
      have := a3 (by omega)
      have e2 : -(bk c : Int) - 1 = 0 + -(c.length : Int) := by omega
      have : kd c (-(bk c : Int) - 1) = kd c 0 := by
        have := kd_add c (-(bk c : Int) - 1)
        rw [show -(bk c : Int) - 1 + c.length = 0 by omega] at this
        exact this.symm
      exact this) (a3 (by omega))
  · omega
/-- The same from one step less. -/
theorem bkF_less (c : List Int) (h0 : 0 < c.length) : bkF (kd c) (c.length - 1) 0 = if bk c = c.length then c.length - 1 else bk c := by
  obtain ⟨_, b2, b3, b4⟩ := bkF_spec (kd c) (c.length - 1) 0 (fun i hi => by omega)
  obtain ⟨a1, a2, a3⟩ := bk_spec c
  split
  · rename_i h
    by_cases e : bkF (kd c) (c.length - 1) 0 = c.length - 1
    · exact e
    · exact absurd (a2 _ (by omega)) (b4 (by omega))
  · rename_i h
    have := bk_lt c h0 h
    rcases Nat.lt_trichotomy (bkF (kd c) (c.length - 1) 0) (bk c) with e | e | e
    · exact absurd (a2 _ e) (b4 (by omega))
    · exact e
    · exact absurd (b3 _ e) (a3 (by omega))
/-- Where all steps are of a kind. -/
theorem all_kind {c : List Int} (h : bk c = c.length) (h0 : 0 < c.length) (x : Int) : kd c x = kd c 0 := by
  obtain ⟨_, a2, _⟩ := bk_spec c
  have h1 := Int.emod_nonneg x (show (c.length : Int) ≠ 0 by omega)
  have h2 := Int.emod_lt_of_pos x (show 0 < (c.length : Int) by omega)
  have := a2 (c.length - 1 - (x % c.length).toNat) (by omega)
  rw [show -((c.length - 1 - (x % (c.length : Int)).toNat : Nat) : Int) - 1 = x % c.length + -(c.length : Int) by omega] at this
  have e := kd_add c (x % c.length + -(c.length : Int))
  rw [show x % (c.length : Int) + -(c.length : Int) + c.length = x % c.length by omega, kd_mod] at e
  rw [e]; exact this
/-- What the specification finds first. -/
def specRuns (c : List Int) : List Ct := rs c (if bkF (kd c) (c.length - 1) 0 = 0 then 0 else (c.length : Int) - (bkF (kd c) (c.length - 1) 0 : Nat)) c.length
def fixOne (l : List Ct) : List Ct := match l with
  | [v] => [(v.1, 0, v.2.2)]
  | l => l
theorem rs_all {c : List Int} (h : bk c = c.length) (h0 : 0 < c.length) (s : Int) : rs c s c.length = [(kd c 0, s % c.length, (c.length : Int), ())] := by
  have hl : rl (kd c) s c.length = c.length := rl_is (kd c) s (by omega) (Nat.le_refl _) (fun i _ => by rw [all_kind h h0, all_kind h h0 s]) (fun hh => by omega)
  rw [rs_pos c s h0, hl, Nat.sub_self, rs_zero, all_kind h h0]
theorem first_long {c : List Int} (h : bk c ≠ c.length) (h0 : 0 < c.length) : bk c + 1 ≤ rl (kd c) (-(bk c : Int)) c.length ∧ rl (kd c) (-(bk c : Int)) c.length < c.length := by
  have hb := bk_lt c h0 h
  obtain ⟨a1, a2, a3⟩ := bk_spec c
  obtain ⟨r1, r2, r3, r4⟩ := rl_spec (kd c) (-(bk c : Int)) h0
  have hs : kd c (-(bk c : Int)) = kd c 0 := by
    by_cases e : bk c = 0
    · rw [e]; rfl
    · have := a2 (bk c - 1) (by omega)
      rw [show -((bk c - 1 : Nat) : Int) - 1 = -(bk c : Int) by omega] at this
      exact this
  constructor
  · by_cases hh : bk c + 1 ≤ rl (kd c) (-(bk c : Int)) c.length
    · exact hh
    · have := r4 (by omega)
      rw [hs] at this
      exact absurd (by
        by_cases e : rl (kd c) (-(bk c : Int)) c.length = bk c
        · rw [e, show -(bk c : Int) + (bk c : Nat) = 0 by omega]
        · have := a2 (bk c - 1 - rl (kd c) (-(bk c : Int)) c.length) (by omega)
          rw [show -((bk c - 1 - rl (kd c) (-(bk c : Int)) c.length : Nat) : Int) - 1 = -(bk c : Int) + (rl (kd c) (-(bk c : Int)) c.length : Nat) by omega] at this
          exact this) this
  · by_cases hh : rl (kd c) (-(bk c : Int)) c.length < c.length
    · exact hh
    · have e : rl (kd c) (-(bk c : Int)) c.length = c.length := by omega
      rw [e] at r3
      have := r3 (c.length - 1) (by omega)
      rw [hs] at this
      have e2 := kd_add c (-(bk c : Int) - 1)
      rw [show -(bk c : Int) - 1 + c.length = -(bk c : Int) + ((c.length - 1 : Nat) : Int) by omega, this] at e2
      exact absurd e2.symm (a3 (by omega))
theorem spec_runs {c : List Int} (h0 : 0 < c.length) : fixOne (specRuns c) = runsP c := by
  unfold specRuns runsP
  rw [bkF_less c h0]
  by_cases h : bk c = c.length
  · rw [if_pos h, if_pos h, rs_all h h0]; rfl
  · rw [if_neg h, if_neg h]
    have e : rs c (if bk c = 0 then 0 else (c.length : Int) - (bk c : Nat)) c.length = rs c (-(bk c : Int)) c.length := by
      by_cases hb : bk c = 0
      · rw [if_pos hb, hb]; rfl
      · rw [if_neg hb, show (c.length : Int) - (bk c : Nat) = -(bk c : Int) + c.length by omega, rs_add]
    rw [e]
    obtain ⟨f1, f2⟩ := first_long h h0
    obtain ⟨r1, r2, _, _⟩ := rl_spec (kd c) (-(bk c : Int)) h0
    rw [rs_pos c _ h0, rs_pos c _ (left := c.length - rl (kd c) (-(bk c : Int)) c.length) (by omega)]
    rfl
/-- Runs from step 0 on. -/
def strP (c : List Int) : List Ct := match runsP c with
  | [] => []
  | v :: r => if v.2.1 > 0 then (v.1, 0, v.2.1 + v.2.2.1 - c.length, ()) :: r ++ [(v.1, v.2.1, (c.length : Int) - v.2.1, ())] else v :: r
theorem runsP_cons {c : List Int} (h0 : 0 < c.length) : ∃ v r, runsP c = v :: r ∧ (0 ≤ v.2.1 ∧ v.2.1 < (c.length : Int)) ∧ (1 ≤ v.2.2.1 ∧ v.2.2.1 ≤ (c.length : Int)) ∧ (0 < v.2.1 → (c.length : Int) < v.2.1 + v.2.2.1) ∧ (r.length < c.length) ∧ (∀ u ∈ v :: r, (u.1 = 1 ∨ u.1 = -1 ∨ u.1 = 0) ∧ (0 ≤ u.2.1 ∧ u.2.1 < (c.length : Int)) ∧ (1 ≤ u.2.2.1 ∧ u.2.2.1 ≤ (c.length : Int))) := by
  unfold runsP
  by_cases h : bk c = c.length
  · rw [if_pos h]
    refine ⟨_, _, rfl, ⟨Int.le_refl _, by show (0 : Int) < _; omega⟩, ⟨by show (1 : Int) ≤ c.length; omega, Int.le_refl _⟩, fun hh => absurd hh (Int.lt_irrefl _), by simp; omega, fun u hu => ?_⟩
    have hu : u = (kd c 0, 0, (c.length : Int), ()) := by simpa using hu
    subst hu
    refine ⟨?_, ⟨Int.le_refl _, by show (0 : Int) < _; omega⟩, by show (1 : Int) ≤ c.length; omega, Int.le_refl _⟩
    show kdOf _ = 1 ∨ kdOf _ = -1 ∨ kdOf _ = 0
    unfold kdOf
    split
    · exact .inl rfl
    split
    · exact .inr (.inl rfl)
    · exact .inr (.inr rfl)
  · rw [if_neg h]
    have hel := rs_el c h0 c.length (-(bk c : Int))
    have hlen := rs_len c c.length (-(bk c : Int))
    obtain ⟨f1, f2⟩ := first_long h h0
    have hb := bk_lt c h0 h
    rw [rs_pos c _ h0] at hel hlen ⊢
    have := hel _ List.mem_cons_self
    refine ⟨_, _, rfl, this.2.1, this.2.2, fun hh => ?_, by rw [List.length_cons] at hlen; omega, hel⟩
    show (c.length : Int) < (-(bk c : Int)) % c.length + (rl (kd c) (-(bk c : Int)) c.length : Nat)
    have hh : 0 < (-(bk c : Int)) % (c.length : Int) := hh
    have e : (-(bk c : Int)) % (c.length : Int) = if bk c = 0 then 0 else (c.length : Int) - bk c := by
      by_cases hb0 : bk c = 0
      · rw [if_pos hb0, hb0]; simp
      · rw [if_neg hb0]
        have := Int.add_emod_right (-(bk c : Int)) c.length
        rw [← this]
        exact (Int.emod_eq_of_lt (by omega) (by omega)).trans (by omega)
    rw [e] at hh ⊢
    split at hh
    · omega
    · rename_i hb0
      rw [if_neg hb0]; omega
theorem strP_el {c : List Int} (h0 : 0 < c.length) : (strP c).length ≤ c.length + 1 ∧ ∀ u ∈ strP c, (u.1 = 1 ∨ u.1 = -1 ∨ u.1 = 0) ∧ (0 ≤ u.2.1 ∧ u.2.1 < (c.length : Int)) ∧ (1 ≤ u.2.2.1 ∧ u.2.2.1 ≤ (c.length : Int)) := by
  obtain ⟨v, r, e, h1, h2, h3, h4, h5⟩ := runsP_cons h0
  have es : strP c = if v.2.1 > 0 then (v.1, 0, v.2.1 + v.2.2.1 - c.length, ()) :: r ++ [(v.1, v.2.1, (c.length : Int) - v.2.1, ())] else v :: r := by unfold strP; rw [e]
  rw [es]
  split
  · rename_i hp
    have h3 := h3 hp
    refine ⟨by simp; omega, fun u hu => ?_⟩
    simp only [List.cons_append, List.mem_cons, List.mem_append, List.mem_nil_iff, or_false] at hu
    have hv := (h5 v List.mem_cons_self).1
    rcases hu with rfl | hu | rfl
    · exact ⟨hv, ⟨Int.le_refl _, by show (0 : Int) < _; omega⟩, by show (1 : Int) ≤ v.2.1 + v.2.2.1 - c.length; omega, by show v.2.1 + v.2.2.1 - c.length ≤ (c.length : Int); omega⟩
    · exact h5 u (List.mem_cons_of_mem _ hu)
    · exact ⟨hv, h1, by show (1 : Int) ≤ (c.length : Int) - v.2.1; omega, by show (c.length : Int) - v.2.1 ≤ (c.length : Int); omega⟩
  · exact ⟨by simp; omega, h5⟩
/-! ### Motions that are found -/
def fitTo (c : List Int) (s l w : Int) (k : Nat) : Bool := allTo (fun i => cAt c (s + ((i : Nat) + 1)) == liftP (cAt c s) (cAt c (s + l)) w ((i : Nat) + 1) l) k
def fitW (c : List Int) (s l w : Int) : Bool := fitTo c s l w (l - 1).toNat
def fitL (c : List Int) (s l : Int) : Int := if fitW c s l 0 = true then 0 else if fitW c s l 1 = true then 1 else if fitW c s l 2 = true then 2 else if fitW c s l 3 = true then 3 else -1
theorem fitL_bd (c : List Int) (s l : Int) : -1 ≤ fitL c s l ∧ fitL c s l ≤ 3 := by
  unfold fitL
  split
  · omega
  split
  · omega
  split
  · omega
  split <;> omega
def motP (c : List Int) (v : Ct) : Ct := (fitL c v.2.1 v.2.2.1, v.2.2.1, cAt c (v.2.1 + v.2.2.1), ())
abbrev Prg : Type := Int × ((List Ct) × Unit)
def fpR (c : List Int) : Prg × (Int × Unit) := if okC c = false then ((0, [], ()), 1, ()) else if ((strP c).length : Int) > 24 then ((0, [], ()), 3, ()) else if (strP c).all (fun v => !decide (fitL c v.2.1 v.2.2.1 < 0)) = true then ((g c 0, (strP c).map (motP c), ()), 0, ()) else ((0, [], ()), 6, ())
/-! ### Marks of three numbers -/
def mkC (f1 f2 f3 : Int → Int) (n : Nat) (k : Int) : List Ct := (List.range n).map fun i => (f1 (k + 3 * (i : Nat)), f2 (k + 3 * (i : Nat) + 1), f3 (k + 3 * (i : Nat) + 1 + 1), ())
theorem mkC_len (f1 f2 f3 : Int → Int) (n : Nat) (k : Int) : (mkC f1 f2 f3 n k).length = n := by simp [mkC]
theorem mkC_succ (f1 f2 f3 : Int → Int) (n : Nat) (k : Int) : mkC f1 f2 f3 (n + 1) k = mkC f1 f2 f3 n k ++ [(f1 (k + 3 * (n : Nat)), f2 (k + 3 * (n : Nat) + 1), f3 (k + 3 * (n : Nat) + 1 + 1), ())] := by simp [mkC, List.range_succ]
theorem mkC_at (f1 f2 f3 : Int → Int) (n : Nat) (k : Int) {i : Int} {v : Ct} (h : At (mkC f1 f2 f3 n k) i v) (h0 : 0 ≤ i) : v.1 = f1 (k + 3 * i) ∧ v.2.1 = f2 (k + 3 * i + 1) ∧ v.2.2.1 = f3 (k + 3 * i + 1 + 1) := by
  have := h.get
  unfold mkC at this
  rw [List.getElem?_map] at this
  cases hr : (List.range n)[i.toNat]? with
  | none => rw [hr] at this; cases this
  | some j =>
    rw [hr] at this
    simp only [Option.map_some, Option.some.injEq] at this
    have hj : j = i.toNat := by
      rw [List.getElem?_eq_some_iff] at hr
      obtain ⟨hl, e⟩ := hr
      rw [List.getElem_range] at e
      exact e.symm
    rw [← this, hj, show ((i.toNat : Nat) : Int) = i by omega]
    exact ⟨rfl, rfl, rfl⟩
theorem fpR_len (c : List Int) : ((fpR c).1.2.1.length : Int) ≤ 24 := by
  unfold fpR
  split
  · simp
  split
  · simp
  split
  · rename_i h _
    show (((strP c).map (motP c)).length : Int) ≤ 24
    rw [List.length_map]; omega
  · simp
theorem wrap8 {x : Int} (h1 : -128 ≤ x) (h2 : x ≤ 127) : wr .i8 x = x := by
  show IntKind.i8.wrap x = x
  simp [IntKind.wrap, IntKind.bits, IntKind.signed]
  omega
end Go.Cams

/- Plans of cuts, in plain terms. -/
namespace Go.Cams
open Go Go.Fw
/-- A layer of cuts ahead of a step. -/
def la (t : List Int) (above layer w : Int) : Nat → List Ct → Option (List Ct)
  | 0, o => some o
  | s + 1, o => (la t above layer w s o).bind fun o => if g t s ≥ above then some o else if o.length = 400 then none else some (o ++ [((s : Int), max layer (g t s), w, ())])
theorem la_len (t : List Int) (above layer w : Int) : ∀ s o o', o.length ≤ 400 → la t above layer w s o = some o' → o'.length ≤ 400
  | 0, o, o', h, e => by
    simp only [la, Option.some.injEq] at e
    subst e; exact h
  | s + 1, o, o', h, e => by
    simp only [la] at e
    cases hl : la t above layer w s o with
    | none => rw [hl] at e; cases e
    | some p =>
      have hp := la_len t above layer w s o p h hl
      rw [hl] at e
      simp only [Option.bind_some] at e
      split at e
      · cases e; exact hp
      · split at e
        · cases e
        · cases e
          simp only [List.length_append, List.length_cons, List.length_nil]
          omega
theorem la_none (t : List Int) (above layer w : Int) {s : Nat} {o : List Ct} (h : la t above layer w s o = none) : ∀ u, s ≤ u → la t above layer w u o = none
  | 0, hu => by have : s = 0 := by omega
                subst this; exact h
  | u + 1, hu => by
    by_cases e : s = u + 1
    · subst e; exact h
    · simp only [la]
      rw [la_none t above layer w h u (by omega)]; rfl
abbrev R3' : Type := List Ct × (Int × Unit)
/-- Layers, from a height down. -/
def pl (t : List Int) (deep w : Int) : Nat → Int → List Ct → R3'
  | 0, _, _ => ([], 3, ())
  | f + 1, above, o => match la t above (max (above - deep) 0) w t.length o with
    | none => ([], 3, ())
    | some p => if max (above - deep) 0 ≤ mnL t then (p, 0, ()) else pl t deep w f (max (above - deep) 0) p
theorem pl_len (t : List Int) (deep w : Int) : ∀ f above o, o.length ≤ 400 → (pl t deep w f above o).1.length ≤ 400
  | 0, _, _, _ => by simp [pl]
  | f + 1, above, o, h => by
    unfold pl
    split
    · simp
    · rename_i p hp
      have := la_len _ _ _ _ _ _ _ h hp
      split
      · exact this
      · exact pl_len t deep w f _ _ this
def pcCode (c : List Int) (high : Int) (K : List (List Int)) (w deep : Int) : Int :=
  if (okC c && inR (K.length : Int) 1 8 && okKs K) = false then 1 else if (inR high 0 10000 && inR w 0 ((K.length : Int) - 1) && inR deep 1 10000) = false then 2 else if mxL c > high then 4 else 0
def pcR (c : List Int) (high : Int) (K : List (List Int)) (w deep : Int) : R3' := if pcCode c high K w deep ≠ 0 then ([], pcCode c high K w deep, ()) else pl (tipsL c (K.getD w.toNat []) c.length) deep w (high.toNat + 1) high []
theorem pcR_len (c : List Int) (high : Int) (K : List (List Int)) (w deep : Int) : (pcR c high K w deep).1.length ≤ 400 := by
  unfold pcR
  split
  · simp
  · exact pl_len _ _ _ _ _ _ (by simp)
structure GoodP (c : List Int) (high : Int) (K : List (List Int)) (w deep : Int) : Prop where
  hc : okC c = true
  hk : okKs K = true
  n : 1 ≤ (K.length : Int) ∧ (K.length : Int) ≤ 8
  hi : 0 ≤ high ∧ high ≤ 10000
  w : 0 ≤ w ∧ w < (K.length : Int)
  d : 1 ≤ deep ∧ deep ≤ 10000
theorem goodP {c : List Int} {high : Int} {K : List (List Int)} {w deep : Int} (h1 : (okC c && inR (K.length : Int) 1 8 && okKs K) = true) (h2 : (inR high 0 10000 && inR w 0 ((K.length : Int) - 1) && inR deep 1 10000) = true) : GoodP c high K w deep := by
  simp only [Bool.and_eq_true, inR_iff] at h1 h2
  exact ⟨h1.1.1, h1.2, h1.1.2, h2.1.1, ⟨h2.1.2.1, by omega⟩, h2.2⟩
theorem tipsL_el {c k : List Int} (hl0 : 0 < c.length) (hC : ∀ v ∈ c, 0 ≤ v ∧ v ≤ 10000) (G : GoodK k) : ∀ v ∈ tipsL c k c.length, 0 ≤ v ∧ v ≤ 10000 := by
  intro v hv
  simp only [tipsL, List.mem_map, List.mem_range] at hv
  obtain ⟨s, hs, rfl⟩ := hv
  exact tipTo_bd hl0 hC G.el _ _ (Nat.le_refl _)
/-- Cutters with marks. -/
def mkKs : List (List Int) → Int → List (List Int)
  | [], _ => []
  | r :: l, k => mkL (wr .i16) r.length k :: mkKs l (k + r.length)
theorem mkKs_snoc : ∀ (l : List (List Int)) (v : List Int) (k : Int), mkKs (l ++ [v]) k = mkKs l k ++ [mkL (wr .i16) v.length (k + totL l)]
  | [], v, k => by simp [mkKs, totL]
  | r :: l, v, k => by
    have := mkKs_snoc l v (k + r.length)
    simp only [List.cons_append, mkKs, this, totL_cons, Int.add_assoc]
end Go.Cams

/- Stops that are planned, in plain terms. -/
namespace Go.Cams
open Go Go.Fw
abbrev Stk : Type := List Mk
def gM (L : List Mk) (i : Nat) : Mk := L.getD i []
theorem gM_idx {L : List Mk} {i : Int} (h0 : 0 ≤ i) (h1 : i < L.length) : At L i (gM L i.toNat) := by
  obtain ⟨v, hv⟩ := at_of (l := L) h0 h1
  have : gM L i.toNat = v := getD_at hv
  rw [this]; exact hv
theorem lineM_get {a b : Mk} (hn : far a b ≠ 0) {i : Nat} (h : i < (far a b + 1).toNat) : gM (lineM a b) i = ptM a b (i : Nat) := by
  unfold gM lineM
  rw [if_neg hn, List.getD_eq_getElem?_getD, List.getElem?_map, List.getElem?_range h]
  rfl
theorem lineM_length {a b : Mk} (ha : OnP a) (hb : OnP b) : ((lineM a b).length : Int) = far a b + 1 := by
  obtain ⟨f0, _, _⟩ := far_bd ha hb
  unfold lineM
  split
  · rename_i h; rw [h]; rfl
  · simp; omega
theorem far_zero {a b : Mk} (ha : OnP a) (hb : OnP b) (h : far a b = 0) : a = b := by
  obtain ⟨_, _, f2⟩ := far_bd ha hb
  have h0 := f2 0 (.inl rfl)
  have h1 := f2 1 (.inr rfl)
  rw [ha.eq, hb.eq]
  rw [show g a 0 = g b 0 by omega, show g a 1 = g b 1 by omega]
theorem nr_full {d n : Int} (hn : 0 < n) (k : Int) (hd : d = n ∨ d = -n) : nr (k * d) n = if d = n then k else -k := by
  unfold nr
  rcases hd with rfl | rfl
  · rw [if_pos rfl, show 2 * (k * d) + d = d + (2 * d) * k by rw [Int.mul_assoc, Int.mul_comm d k]; omega, Int.add_mul_ediv_left _ _ (by omega), Int.ediv_eq_zero_of_lt (by omega) (by omega)]; omega
  · rw [if_neg (by omega), show 2 * (k * -n) + n = n + (2 * n) * (-k) by rw [Int.mul_neg k n, Int.mul_neg 2 (k * n), Int.mul_neg (2 * n) k, Int.mul_assoc, Int.mul_comm n k]; omega, Int.add_mul_ediv_left _ _ (by omega), Int.ediv_eq_zero_of_lt (by omega) (by omega)]; omega
theorem nr_end {d n : Int} (hn : 0 < n) : nr (n * d) n = d := by
  unfold nr
  rw [show 2 * (n * d) + n = n + (2 * n) * d by rw [Int.mul_assoc]; omega, Int.add_mul_ediv_left _ _ (by omega), Int.ediv_eq_zero_of_lt (by omega) (by omega)]; omega
theorem nr_step {d n k : Int} (hn : 0 < n) (h1 : -n ≤ d) (h2 : d ≤ n) : -1 ≤ nr ((k + 1) * d) n - nr (k * d) n ∧ nr ((k + 1) * d) n - nr (k * d) n ≤ 1 := by
  unfold nr
  rw [Int.add_mul, Int.one_mul]
  obtain ⟨e, he⟩ : ∃ e, e = k * d := ⟨_, rfl⟩
  rw [← he]
  have a := Int.ediv_le_ediv (c := 2 * n) (by omega) (show 2 * (e + d) + n ≤ (2 * e + n) + 2 * n * 1 by omega)
  rw [Int.add_mul_ediv_left _ _ (by omega)] at a
  have b := Int.ediv_le_ediv (c := 2 * n) (by omega) (show (2 * e + n) + 2 * n * (-1) ≤ 2 * (e + d) + n by omega)
  rw [Int.add_mul_ediv_left _ _ (by omega)] at b
  omega
theorem ptM_end {a b : Mk} (ha : OnP a) (hb : OnP b) (hn : far a b ≠ 0) : ptM a b (far a b) = b := by
  obtain ⟨f0, _, _⟩ := far_bd ha hb
  have h : ∀ i, pt a b (far a b) i = g b i := fun i => by
    unfold pt
    rw [nr_end (by omega)]; omega
  unfold ptM
  rw [h, h]
  exact hb.eq.symm
theorem lineM_one {a b : Mk} (ha : OnP a) (hb : OnP b) (h : far a b = 1) : lineM a b = [a, b] := by
  have h0 := ptM_zero ha hb (by omega)
  have h1 := ptM_end ha hb (by omega)
  rw [h] at h1
  unfold lineM
  rw [if_neg (by omega), h]
  show [ptM a b ((0 : Nat) : Int), ptM a b ((1 : Nat) : Int)] = _
  rw [show ((0 : Nat) : Int) = 0 from rfl, show ((1 : Nat) : Int) = 1 from rfl, h0, h1]
theorem line_step {a b : Mk} (ha : OnP a) (hb : OnP b) {i : Nat} (h : (i : Int) < far a b) : lineM (gM (lineM a b) i) (gM (lineM a b) (i + 1)) = [gM (lineM a b) i, gM (lineM a b) (i + 1)] := by
  obtain ⟨f0, f1, f2⟩ := far_bd ha hb
  have hn : far a b ≠ 0 := by omega
  rw [lineM_get hn (by omega), lineM_get hn (by omega)]
  have p0 := onP_pair (pt_bd ha hb hn (k := (i : Nat)) (by omega) (by omega) (.inl rfl)) (pt_bd ha hb hn (k := (i : Nat)) (by omega) (by omega) (.inr rfl))
  have p1 := onP_pair (pt_bd ha hb hn (k := ((i + 1 : Nat) : Int)) (by omega) (by omega) (.inl rfl)) (pt_bd ha hb hn (k := ((i + 1 : Nat) : Int)) (by omega) (by omega) (.inr rfl))
  refine lineM_one p0 p1 ?_
  have s0 := nr_step (k := (i : Int)) (show 0 < far a b by omega) (f2 0 (.inl rfl)).1 (f2 0 (.inl rfl)).2
  have s1 := nr_step (k := (i : Int)) (show 0 < far a b by omega) (f2 1 (.inr rfl)).1 (f2 1 (.inr rfl)).2
  have e0 : pt a b ((i + 1 : Nat) : Int) 0 - pt a b (i : Int) 0 = nr (((i : Int) + 1) * (g b 0 - g a 0)) (far a b) - nr ((i : Int) * (g b 0 - g a 0)) (far a b) := by
    unfold pt
    rw [show ((i + 1 : Nat) : Int) = (i : Int) + 1 by omega]; omega
  have e1 : pt a b ((i + 1 : Nat) : Int) 1 - pt a b (i : Int) 1 = nr (((i : Int) + 1) * (g b 1 - g a 1)) (far a b) - nr ((i : Int) * (g b 1 - g a 1)) (far a b) := by
    unfold pt
    rw [show ((i + 1 : Nat) : Int) = (i : Int) + 1 by omega]; omega
  have full : ∀ d, d = far a b ∨ d = -far a b → nr (((i : Int) + 1) * d) (far a b) - nr ((i : Int) * d) (far a b) = 1 ∨ nr (((i : Int) + 1) * d) (far a b) - nr ((i : Int) * d) (far a b) = -1 := fun d hd => by
    rw [nr_full (by omega) _ hd, nr_full (by omega) _ hd]
    split <;> omega
  have ef : far a b = max (siz (g a 0 - g b 0)) (siz (g a 1 - g b 1)) := rfl
  have d0 : siz (g a 0 - g b 0) = if g a 0 - g b 0 < 0 then -(g a 0 - g b 0) else g a 0 - g b 0 := rfl
  have d1 : siz (g a 1 - g b 1) = if g a 1 - g b 1 < 0 then -(g a 1 - g b 1) else g a 1 - g b 1 := rfl
  show max (siz (pt a b (i : Int) 0 - pt a b ((i + 1 : Nat) : Int) 0)) (siz (pt a b (i : Int) 1 - pt a b ((i + 1 : Nat) : Int) 1)) = 1
  have h3 : ∀ x, siz x = if x < 0 then -x else x := fun _ => rfl
  rw [h3, h3]
  have hor : g b 0 - g a 0 = far a b ∨ g b 0 - g a 0 = -far a b ∨ g b 1 - g a 1 = far a b ∨ g b 1 - g a 1 = -far a b := by
    split at d0 <;> split at d1 <;> omega
  rcases hor with hh | hh | hh | hh
  · have := full _ (.inl hh)
    split <;> split <;> omega
  · have := full _ (.inr hh)
    split <;> split <;> omega
  · have := full _ (.inl hh)
    split <;> split <;> omega
  · have := full _ (.inr hh)
    split <;> split <;> omega
theorem seg_two {L : List Mk} {i : Nat} (h : i + 1 < L.length) : (L.take (i + 2)).drop i = [gM L i, gM L (i + 1)] := by
  have e0 : L[i]? = some (gM L i) := by unfold gM; rw [List.getD_eq_getElem?_getD, List.getElem?_eq_getElem (by omega)]; rfl
  have e1 : L[i + 1]? = some (gM L (i + 1)) := by unfold gM; rw [List.getD_eq_getElem?_getD, List.getElem?_eq_getElem (by omega)]; rfl
  rw [List.take_add_one, List.take_add_one, e0, e1]
  simp only [Option.toList_some, List.append_assoc]
  rw [List.drop_append_of_le_length (by simp; omega), List.drop_of_length_le (by simp; omega)]
  rfl
/-- The place to go to: as far as the line is the same. -/
def bkJ (L : List Mk) (i : Nat) : Nat → Nat
  | 0 => 0
  | j + 1 => if lineM (gM L i) (gM L (j + 1)) = (L.take (j + 2)).drop i then j + 1 else bkJ L i j
theorem bkJ_le (L : List Mk) (i : Nat) : ∀ j, bkJ L i j ≤ j
  | 0 => Nat.le_refl _
  | j + 1 => by
    unfold bkJ
    split
    · exact Nat.le_refl _
    · have := bkJ_le L i j; omega
theorem bkJ_gt {a b : Mk} (ha : OnP a) (hb : OnP b) {i : Nat} (h : (i : Int) < far a b) : ∀ j, i < j → j < (lineM a b).length → i < bkJ (lineM a b) i j
  | 0, hj, _ => by omega
  | j + 1, hj, hl => by
    unfold bkJ
    split
    · exact hj
    · rename_i hc
      by_cases e : i = j
      · subst e
        exact absurd (by rw [line_step ha hb h, seg_two hl]) hc
      · exact bkJ_gt ha hb h j (by omega) (by omega)
def toJ (most : Nat) (down : Bool) (L : List Mk) (i : Nat) : Nat := if down = true then bkJ L i (min (i + most) (L.length - 1)) else min (i + most) (L.length - 1)
def goF (most : Nat) (down : Bool) (L : List Mk) : Nat → Nat → List Stp
  | 0, _ => []
  | f + 1, i => if i < L.length - 1 then (gM L (toJ most down L i), down, ()) :: goF most down L f (toJ most down L i) else []
theorem goF_len (most : Nat) (down : Bool) (L : List Mk) : ∀ f i, (goF most down L f i).length ≤ f
  | 0, _ => Nat.le_refl _
  | f + 1, i => by
    unfold goF
    split
    · have := goF_len most down L f (toJ most down L i)
      rw [List.length_cons]; omega
    · simp
theorem toJ_bd {most : Nat} (hm : 1 ≤ most) (down : Bool) {a b : Mk} (ha : OnP a) (hb : OnP b) {i : Nat} (h : i < (lineM a b).length - 1) : i < toJ most down (lineM a b) i ∧ toJ most down (lineM a b) i ≤ (lineM a b).length - 1 := by
  have hl := lineM_length ha hb
  unfold toJ
  split
  · have h1 := bkJ_gt ha hb (i := i) (by omega) (min (i + most) ((lineM a b).length - 1)) (by omega) (by omega)
    have h2 := bkJ_le (lineM a b) i (min (i + most) ((lineM a b).length - 1))
    omega
  · omega
def goL (most : Nat) (down : Bool) (a b : Mk) : List Stp := goF most down (lineM a b) 64 0
theorem goL_len (most : Nat) (down : Bool) (a b : Mk) : (goL most down a b).length ≤ 64 := goF_len _ _ _ _ _
theorem goF_last (most : Nat) (down : Bool) (L : List Mk) (f : Nat) {i : Nat} (h : ¬ i < L.length - 1) : goF most down L f i = [] := by
  cases f with
  | zero => rfl
  | succ f => unfold goF; rw [if_neg h]
theorem line_last {a b : Mk} (ha : OnP a) (hb : OnP b) : gM (lineM a b) ((lineM a b).length - 1) = b := by
  have hl := lineM_length ha hb
  obtain ⟨f0, _, _⟩ := far_bd ha hb
  by_cases hn : far a b = 0
  · have := far_zero ha hb hn
    subst this
    rw [lineM_same]; rfl
  · rw [lineM_get hn (by omega), show (((lineM a b).length - 1 : Nat) : Int) = far a b by omega, ptM_end ha hb hn]
/-! ### Strokes -/
structure RngT (K : List Stk) : Prop where
  len : (K.length : Int) * 24 ≤ 140737488351232
  el : ∀ s ∈ K, (s.length : Int) * 4 ≤ 140737488351232 ∧ ∀ m ∈ s, m.length = 2 ∧ ∀ v ∈ m, -32768 ≤ v ∧ v ≤ 32767
def okMk (m : Mk) : Bool := inR (wr .i64 (g m 0)) 0 63 && inR (wr .i64 (g m 1)) 0 63
def okSk (s : Stk) : Bool := inR (s.length : Int) 1 60 && s.all okMk
def skCode (K : List Stk) : Int := if K.all okSk = false then 1 else if (K.length : Int) > 20 then 3 else 0
theorem okMk_on {m : Mk} (h2 : m.length = 2) (hr : ∀ v ∈ m, -32768 ≤ v ∧ v ≤ 32767) (h : okMk m = true) : OnP m := by
  simp only [okMk, Bool.and_eq_true, inR_iff] at h
  have a := hr _ (g_mem (l := m) (i := 0) (by omega))
  have b := hr _ (g_mem (l := m) (i := 1) (by omega))
  rw [wrap_id (by omega) (by omega), wrap_id (by omega) (by omega)] at h
  exact ⟨h2, h.1, h.2⟩
structure GoodT (K : List Stk) : Prop where
  len : (K.length : Int) ≤ 20
  el : ∀ s ∈ K, (1 ≤ (s.length : Int) ∧ (s.length : Int) ≤ 60) ∧ ∀ m ∈ s, OnP m
theorem goodT {K : List Stk} (hr : RngT K) (h : skCode K = 0) : GoodT K := by
  unfold skCode at h
  split at h
  · exact absurd h (by decide)
  · rename_i h1
    split at h
    · exact absurd h (by decide)
    · rename_i h2
      have h1 : K.all okSk = true := by simpa using h1
      refine ⟨by omega, fun s hs => ?_⟩
      have := List.all_eq_true.1 h1 s hs
      simp only [okSk, Bool.and_eq_true, inR_iff, List.all_eq_true] at this
      exact ⟨this.1, fun m hm => okMk_on ((hr.el s hs).2 m hm).1 ((hr.el s hs).2 m hm).2 (this.2 m hm)⟩
def drF (most : Nat) (st : Mk × List Stp) (m : Mk) : Mk × List Stp := (m, st.2 ++ goL most true st.1 m)
def stF (most : Nat) (st : Mk × List Stp) (s : Stk) : Mk × List Stp := (s.drop 1).foldl (drF most) (gM s 0, st.2 ++ goL most false st.1 (gM s 0) ++ [(gM s 0, true, ())])
def o0 : Mk := List.replicate 2 0
theorem o0_on : OnP o0 := ⟨rfl, ⟨by decide, by decide⟩, ⟨by decide, by decide⟩⟩
def plF (most : Nat) (K : List Stk) : Mk × List Stp := K.foldl (stF most) (o0, [])
def plP (most : Nat) (K : List Stk) : List Stp := (plF most K).2 ++ goL most false (plF most K).1 o0
theorem drF_on {most : Nat} {l : List Mk} (h : ∀ m ∈ l, OnP m) : ∀ {st : Mk × List Stp}, OnP st.1 → OnP (l.foldl (drF most) st).1 ∧ (l.foldl (drF most) st).2.length ≤ st.2.length + 64 * l.length := by
  induction l with
  | nil => intro st hs; exact ⟨hs, by simp⟩
  | cons m l ih =>
    intro st hs
    have hm := h m List.mem_cons_self
    obtain ⟨a, b⟩ := ih (fun x hx => h x (List.mem_cons_of_mem _ hx)) (st := drF most st m) hm
    refine ⟨a, ?_⟩
    have := goL_len most true st.1 m
    simp only [List.foldl_cons, drF, List.length_append, List.length_cons] at b ⊢
    omega
theorem stF_on {most : Nat} {s : Stk} (h1 : 1 ≤ (s.length : Int)) (h60 : (s.length : Int) ≤ 60) (h : ∀ m ∈ s, OnP m) {st : Mk × List Stp} (hs : OnP st.1) : OnP (stF most st s).1 ∧ (stF most st s).2.length ≤ st.2.length + 4000 := by
  have h0 : OnP (gM s 0) := h _ (gM_idx (L := s) (i := 0) (Int.le_refl _) (by omega)).mem
  obtain ⟨a, b⟩ := drF_on (most := most) (l := s.drop 1) (fun m hm => h m (List.mem_of_mem_drop hm)) (st := (gM s 0, st.2 ++ goL most false st.1 (gM s 0) ++ [(gM s 0, true, ())])) h0
  refine ⟨a, ?_⟩
  have := goL_len most false st.1 (gM s 0)
  have e : (stF most st s) = (s.drop 1).foldl (drF most) (gM s 0, st.2 ++ goL most false st.1 (gM s 0) ++ [(gM s 0, true, ())]) := rfl
  rw [e]
  simp only [List.length_append, List.length_cons, List.length_nil, List.length_drop] at b
  omega
theorem plF_on {most : Nat} {K : List Stk} (G : ∀ s ∈ K, (1 ≤ (s.length : Int) ∧ (s.length : Int) ≤ 60) ∧ ∀ m ∈ s, OnP m) : OnP (plF most K).1 ∧ (plF most K).2.length ≤ 4000 * K.length := by
  have : ∀ (l : List Stk) (st : Mk × List Stp), (∀ s ∈ l, (1 ≤ (s.length : Int) ∧ (s.length : Int) ≤ 60) ∧ ∀ m ∈ s, OnP m) → OnP st.1 → OnP (l.foldl (stF most) st).1 ∧ (l.foldl (stF most) st).2.length ≤ st.2.length + 4000 * l.length := by
    intro l
    induction l with
    | nil => intro st _ h; exact ⟨h, by simp⟩
    | cons s l ih =>
      intro st hl h
      obtain ⟨a, b⟩ := hl s List.mem_cons_self
      obtain ⟨c, d⟩ := stF_on (most := most) a.1 a.2 b h
      obtain ⟨e, f⟩ := ih (stF most st s) (fun x hx => hl x (List.mem_cons_of_mem _ hx)) c
      refine ⟨e, ?_⟩
      simp only [List.foldl_cons, List.length_cons]
      omega
  obtain ⟨a, b⟩ := this K (o0, []) G o0_on
  exact ⟨a, by show (K.foldl (stF most) (o0, [])).2.length ≤ _; simpa using b⟩
abbrev R4' : Type := List Stp × (Int × Unit)
def psR (K : List Stk) (most : Int) : R4' := if skCode K ≠ 0 then ([], skCode K, ()) else if inR most 1 63 = false then ([], 2, ()) else if ((plP most.toNat K).length : Int) > 360 then ([], 4, ()) else (plP most.toNat K, 0, ())
theorem psR_len (K : List Stk) (most : Int) : ((psR K most).1.length : Int) ≤ 360 := by
  unfold psR
  split
  · simp
  split
  · simp
  split
  · simp
  · rename_i h
    show ((plP most.toNat K).length : Int) ≤ 360
    omega
theorem goF_el {most : Nat} (hm : 1 ≤ most) (down : Bool) {a b : Mk} (ha : OnP a) (hb : OnP b) : ∀ f i, ∀ v ∈ goF most down (lineM a b) f i, v.1.length = 2
  | 0, _, v, hv => by cases hv
  | f + 1, i, v, hv => by
    unfold goF at hv
    split at hv
    · rename_i h
      have hj := toJ_bd hm down ha hb h
      rcases List.mem_cons.1 hv with rfl | hv
      · exact (lineM_on ha hb _ (gM_idx (L := lineM a b) (i := ((toJ most down (lineM a b) i : Nat) : Int)) (by omega) (by omega)).mem).len
      · exact goF_el hm down ha hb f _ v hv
    · cases hv
theorem plP_el {most : Nat} (hm : 1 ≤ most) {K : List Stk} (G : ∀ s ∈ K, (1 ≤ (s.length : Int) ∧ (s.length : Int) ≤ 60) ∧ ∀ m ∈ s, OnP m) : ∀ v ∈ plP most K, v.1.length = 2 := by
  have h1 : ∀ (l : List Mk) (st : Mk × List Stp), (∀ m ∈ l, OnP m) → OnP st.1 → (∀ v ∈ st.2, v.1.length = 2) → ∀ v ∈ (l.foldl (drF most) st).2, v.1.length = 2 := by
    intro l
    induction l with
    | nil => intro st _ _ h; exact h
    | cons m l ih =>
      intro st hl hs h
      have hmm := hl m List.mem_cons_self
      refine ih (drF most st m) (fun x hx => hl x (List.mem_cons_of_mem _ hx)) hmm (fun v hv => ?_)
      rcases List.mem_append.1 hv with hv | hv
      · exact h v hv
      · exact goF_el hm true hs hmm 64 0 v hv
  have h2 : ∀ (l : List Stk) (st : Mk × List Stp), (∀ s ∈ l, (1 ≤ (s.length : Int) ∧ (s.length : Int) ≤ 60) ∧ ∀ m ∈ s, OnP m) → OnP st.1 → (∀ v ∈ st.2, v.1.length = 2) → ∀ v ∈ (l.foldl (stF most) st).2, v.1.length = 2 := by
    intro l
    induction l with
    | nil => intro st _ _ h; exact h
    | cons s l ih =>
      intro st hl hs h
      obtain ⟨a, b⟩ := hl s List.mem_cons_self
      have h0 : OnP (gM s 0) := b _ (gM_idx (L := s) (i := 0) (Int.le_refl _) (by omega)).mem
      refine ih (stF most st s) (fun x hx => hl x (List.mem_cons_of_mem _ hx)) (stF_on a.1 a.2 b hs).1 (h1 _ _ (fun m hm => b m (List.mem_of_mem_drop hm)) h0 (fun v hv => ?_))
      rcases List.mem_append.1 hv with hv | hv
      · rcases List.mem_append.1 hv with hv | hv
        · exact h v hv
        · exact goF_el hm false hs h0 64 0 v hv
      · have : v = (gM s 0, true, ()) := by simpa using hv
        rw [this]; exact h0.len
  intro v hv
  rcases List.mem_append.1 hv with hv | hv
  · exact h2 K (o0, []) G o0_on (fun v hv => by cases hv) v hv
  · exact goF_el hm false (plF_on G).1 o0_on 64 0 v hv
theorem psR_el {K : List Stk} (hr : RngT K) (most : Int) : ∀ v ∈ (psR K most).1, v.1.length = 2 := by
  unfold psR
  split
  · intro v hv; cases hv
  rename_i hc
  split
  · intro v hv; cases hv
  rename_i hm
  split
  · intro v hv; cases hv
  · have hm : inR most 1 63 = true := by simpa using hm
    have hm := inR_iff.1 hm
    have hc : skCode K = 0 := by simpa using hc
    exact plP_el (by omega) (goodT hr hc).el
/-! ### Sizes and marks -/
def shad (s : Stk) : List Int := s.map fun _ => 0
theorem shad_len (s : Stk) : (shad s).length = s.length := by simp [shad]
theorem rngT_of {K : List Stk} (h : Dom (.slc (.slc (.arr 2 (.int .i16)))) K) : RngT K := by
  refine ⟨Int.ofNat_le.2 h.1, fun s hs => ?_⟩
  have h2 := h.2 s hs
  refine ⟨Int.ofNat_le.2 h2.1, fun m hm => ?_⟩
  have h3 := h2.2 m hm
  exact ⟨h3.1, fun v hv => h3.2 v hv⟩
theorem RngT.len' {K : List Stk} (h : RngT K) : (K.length : Int) ≤ 5864062014635 := by have := h.len; omega
theorem RngT.shad {K : List Stk} (h : RngT K) : RngS (K.map shad) := by
  refine ⟨by rw [List.length_map]; exact h.len, fun k hk => ?_⟩
  obtain ⟨s, hs, rfl⟩ := List.mem_map.1 hk
  have := (h.el s hs).1
  refine ⟨by rw [shad_len]; omega, fun v hv => ?_⟩
  simp only [Cams.shad, List.mem_map] at hv
  obtain ⟨_, _, rfl⟩ := hv
  omega
def totT (K : List Stk) : Int := totL (K.map shad)
theorem totT_snoc (K : List Stk) (s : Stk) : totT (K ++ [s]) = totT K + s.length := by
  unfold totT
  rw [List.map_append, totL_append]
  simp [totL, shad_len]
theorem totT_take (K : List Stk) (i : Nat) : totT (K.take i) ≤ totT K := by
  unfold totT
  have := totL_take (K.map shad) i
  have h2 := totL_nonneg ((K.map shad).drop i)
  rw [List.map_take]
  omega
theorem totT_nonneg (K : List Stk) : 0 ≤ totT K := totL_nonneg _
def mkSk (n : Nat) (k : Int) : Stk := (List.range n).map fun i => [wr .i16 (k + 2 * (i : Nat)), wr .i16 (k + 2 * (i : Nat) + 1)]
theorem mkSk_succ (n : Nat) (k : Int) : mkSk (n + 1) k = mkSk n k ++ [[wr .i16 (k + 2 * (n : Nat)), wr .i16 (k + 2 * (n : Nat) + 1)]] := by simp [mkSk, List.range_succ]
def mkTs : List Stk → Int → List Stk
  | [], _ => []
  | s :: l, k => mkSk s.length k :: mkTs l (k + 2 * s.length)
theorem mkTs_snoc : ∀ (l : List Stk) (v : Stk) (k : Int), mkTs (l ++ [v]) k = mkTs l k ++ [mkSk v.length (k + 2 * totT l)]
  | [], v, k => by simp [mkTs, totT, totL]
  | r :: l, v, k => by
    have := mkTs_snoc l v (k + 2 * r.length)
    have e : totT (r :: l) = r.length + totT l := by unfold totT; rw [List.map_cons, totL_cons, shad_len]
    simp only [List.cons_append, mkTs, this, e, Int.mul_add, Int.add_assoc]
def mkSp (n : Nat) (k : Int) : List Stp := (List.range n).map fun i => ([wr .i16 (k + 3 * (i : Nat)), wr .i16 (k + 3 * (i : Nat) + 1)], (Int.tmod (k + 3 * (i : Nat) + 1 + 1) 3 == 0), ())
theorem mkSp_len (n : Nat) (k : Int) : (mkSp n k).length = n := by simp [mkSp]
theorem mkSp_succ (n : Nat) (k : Int) : mkSp (n + 1) k = mkSp n k ++ [([wr .i16 (k + 3 * (n : Nat)), wr .i16 (k + 3 * (n : Nat) + 1)], (Int.tmod (k + 3 * (n : Nat) + 1 + 1) 3 == 0), ())] := by simp [mkSp, List.range_succ]
theorem mkSp_at (n : Nat) (k : Int) {i : Int} {v : Stp} (h : At (mkSp n k) i v) (h0 : 0 ≤ i) : v = ([wr .i16 (k + 3 * i), wr .i16 (k + 3 * i + 1)], (Int.tmod (k + 3 * i + 1 + 1) 3 == 0), ()) := by
  have := h.get
  unfold mkSp at this
  rw [List.getElem?_map] at this
  cases hr : (List.range n)[i.toNat]? with
  | none => rw [hr] at this; cases this
  | some j =>
    rw [hr] at this
    simp only [Option.map_some, Option.some.injEq] at this
    have hj : j = i.toNat := by
      rw [List.getElem?_eq_some_iff] at hr
      obtain ⟨hl, e⟩ := hr
      rw [List.getElem_range] at e
      exact e.symm
    rw [← this, hj, show ((i.toNat : Nat) : Int) = i by omega]
theorem len2 {m : Mk} (h : m.length = 2) : m = [g m 0, g m 1] := by
  match m, h with
  | [x, y], _ => rfl
end Go.Cams

/- Machines that are made of stops, in plain terms. -/
namespace Go.Cams
open Go Go.Fw
def gS (l : List Stp) (i : Nat) : Stp := l.getD i (o0, false, ())
theorem gS_idx {l : List Stp} {i : Int} (h0 : 0 ≤ i) (h1 : i < l.length) : At l i (gS l i.toNat) := by
  obtain ⟨v, hv⟩ := at_of (l := l) h0 h1
  have : gS l i.toNat = v := getD_at hv
  rw [this]; exact hv
theorem gS_out {l : List Stp} {i : Nat} (h : l.length ≤ i) : gS l i = (o0, false, ()) := by
  unfold gS
  rw [List.getD_eq_getElem?_getD, List.getElem?_eq_none h]; rfl
def pen (v : Stp) : Int := if v.2.1 = true then 0 else 1
def mfR (l : List Stp) (n : Nat) : Mch := ((List.range n).map fun i => g (gS l i).1 0, (List.range n).map fun i => g (gS l i).1 1, (List.range n).map fun i => pen (gS l i), ())
theorem mfR_succ (l : List Stp) (n : Nat) : mfR l (n + 1) = ((mfR l n).1 ++ [g (gS l n).1 0], (mfR l n).2.1 ++ [g (gS l n).1 1], (mfR l n).2.2.1 ++ [pen (gS l n)], ()) := by simp [mfR, List.range_succ]
def csR (K : List Stk) (most : Int) : Mch × (Int × Unit) := if (psR K most).2.1 ≠ 0 then (([], [], [], ()), (psR K most).2.1, ()) else (mfR (psR K most).1 (max 8 (psR K most).1.length), 0, ())
theorem csR_small (K : List Stk) (most : Int) : ((csR K most).1.1.length : Int) ≤ 360 ∧ ((csR K most).1.2.1.length : Int) ≤ 360 ∧ ((csR K most).1.2.2.1.length : Int) ≤ 360 := by
  have := psR_len K most
  unfold csR
  split
  · exact ⟨by simp, by simp, by simp⟩
  · refine ⟨?_, ?_, ?_⟩ <;> simp [mfR] <;> omega
end Go.Cams

/- Stretches of cams, their grids of bits and their fillings, in plain terms. -/
namespace Go.Cams
open Go Go.Fw

/-! ### Lists told by a function -/
def tb {α : Type} (n : Nat) (G : Nat → α) : List α := (List.range n).map G
theorem tb_len {α : Type} (n : Nat) (G : Nat → α) : (tb n G).length = n := by simp [tb]
theorem tb_get {α : Type} {n : Nat} {G : Nat → α} {i : Nat} (h : i < n) : (tb n G)[i]? = some (G i) := by simp [tb, h]
theorem tb_ext {α : Type} {n : Nat} {G G' : Nat → α} (h : ∀ j, j < n → G j = G' j) : tb n G = tb n G' := List.map_congr_left fun j hj => h j (by simpa using hj)
theorem tb_rep {α : Type} (n : Nat) (a : α) : List.replicate n a = tb n fun _ => a := by
  apply List.ext_getElem?
  intro i
  by_cases h : i < n
  · rw [tb_get h, List.getElem?_replicate, if_pos h]
  · rw [List.getElem?_eq_none (by simpa using h), List.getElem?_eq_none (by rw [tb_len]; omega)]
theorem tb_set {α : Type} (n : Nat) (G : Nat → α) (i : Nat) (v : α) : (tb n G).set i v = tb n fun j => if j = i then v else G j := by
  apply List.ext_getElem?
  intro j
  by_cases h : j < n
  · rw [tb_get h, List.getElem?_set]
    by_cases e : i = j
    · subst e; simp [tb_len, h]
    · rw [if_neg e, tb_get h, if_neg (fun h => e h.symm)]
  · rw [List.getElem?_eq_none (by rw [List.length_set, tb_len]; omega), List.getElem?_eq_none (by rw [tb_len]; omega)]
theorem tb_snoc {α : Type} (n : Nat) (G : Nat → α) : tb n G ++ [G n] = tb (n + 1) G := by simp [tb, List.range_succ]

/-! ### Rows of bits -/
def mkN (p : Nat → Bool) : Nat → Nat
  | 0 => 0
  | n + 1 => 2 ^ n * (if p n = true then 1 else 0) + mkN p n
theorem mkN_lt (p : Nat → Bool) : ∀ n, mkN p n < 2 ^ n
  | 0 => by simp [mkN]
  | n + 1 => by
    have := mkN_lt p n
    have e : 2 ^ (n + 1) = 2 ^ n + 2 ^ n := by rw [Nat.pow_succ]; omega
    unfold mkN
    split <;> omega
theorem mkN_bit (p : Nat → Bool) : ∀ (n y : Nat), (mkN p n).testBit y = (decide (y < n) && p y)
  | 0, y => by simp [mkN]
  | n + 1, y => by
    unfold mkN
    rw [Nat.testBit_two_pow_mul_add _ (mkN_lt p n), mkN_bit p n y]
    by_cases h : y < n
    · rw [if_pos h]; simp [h, show y < n + 1 by omega]
    · rw [if_neg h]
      by_cases h2 : y = n
      · subst h2
        simp only [Nat.sub_self]
        split <;> rename_i h3 <;> simp [h3]
      · have e : decide (y < n + 1) = false := decide_eq_false (by omega)
        rw [e, Bool.false_and]
        split
        · have : (1 : Nat) = 2 ^ 1 - 1 := rfl
          rw [this, Nat.testBit_two_pow_sub_one]
          exact decide_eq_false (by omega)
        · simp
theorem mkN_congr {p q : Nat → Bool} : ∀ {n : Nat}, (∀ y, y < n → p y = q y) → mkN p n = mkN q n
  | 0, _ => rfl
  | n + 1, h => by
    unfold mkN
    rw [h n (by omega), mkN_congr fun y hy => h y (by omega)]
theorem mkN_eq {p : Nat → Bool} {n x : Nat} (hx : x < 2 ^ n) (h : ∀ y, y < n → x.testBit y = p y) : x = mkN p n := by
  apply Nat.eq_of_testBit_eq
  intro y
  rw [mkN_bit]
  by_cases hy : y < n
  · rw [h y hy]; simp [hy]
  · rw [Nat.testBit_lt_two_pow (Nat.lt_of_lt_of_le hx (Nat.pow_le_pow_right (by omega) (by omega)))]
    simp [hy]
theorem mkN_zero {p : Nat → Bool} {n : Nat} (h : ∀ y, y < n → p y = false) : mkN p n = 0 := (mkN_eq (p := p) (x := 0) (Nat.pow_pos (by omega)) (by simpa using fun y hy => (h y hy))).symm
/-- A row of 64 bits, as the program has it. -/
def row (p : Nat → Bool) : Int := ((mkN p 64 : Nat) : Int)
theorem row_lt (p : Nat → Bool) : mkN p 64 < 18446744073709551616 := mkN_lt p 64
theorem row_congr {p q : Nat → Bool} (h : ∀ y, y < 64 → p y = q y) : row p = row q := by unfold row; rw [mkN_congr h]
theorem wrU {x : Int} (h0 : 0 ≤ x) (h1 : x < 18446744073709551616) : wr .u64 x = x := by
  show IntKind.u64.wrap x = x
  simp [IntKind.wrap, IntKind.signed, IntKind.bits]; omega
theorem ofInt_nat {a : Nat} (h : a < 18446744073709551616) : (BitVec.ofInt 64 (a : Int)).toNat = a := by
  rw [BitVec.ofInt_natCast, BitVec.toNat_ofNat]; exact Nat.mod_eq_of_lt (by omega)
theorem and_nat {a b : Nat} (ha : a < 18446744073709551616) (hb : b < 18446744073709551616) : bitsI .and .u64 (a : Int) (b : Int) = ((a &&& b : Nat) : Int) := by
  show IntKind.u64.wrap ((BitVec.ofInt 64 (a : Int) &&& BitVec.ofInt 64 (b : Int)).toNat : Int) = _
  rw [BitVec.toNat_and, ofInt_nat ha, ofInt_nat hb]
  have : a &&& b < 2 ^ 64 := Nat.and_lt_two_pow _ (by omega)
  exact wrU (by omega) (by omega)
theorem or_nat {a b : Nat} (ha : a < 18446744073709551616) (hb : b < 18446744073709551616) : bitsI .or .u64 (a : Int) (b : Int) = ((a ||| b : Nat) : Int) := by
  show IntKind.u64.wrap ((BitVec.ofInt 64 (a : Int) ||| BitVec.ofInt 64 (b : Int)).toNat : Int) = _
  rw [BitVec.toNat_or, ofInt_nat ha, ofInt_nat hb]
  have : a ||| b < 2 ^ 64 := Nat.or_lt_two_pow (by omega) (by omega)
  exact wrU (by omega) (by omega)
theorem xor_nat {a b : Nat} (ha : a < 18446744073709551616) (hb : b < 18446744073709551616) : bitsI .xor .u64 (a : Int) (b : Int) = ((a ^^^ b : Nat) : Int) := by
  show IntKind.u64.wrap ((BitVec.ofInt 64 (a : Int) ^^^ BitVec.ofInt 64 (b : Int)).toNat : Int) = _
  rw [BitVec.toNat_xor, ofInt_nat ha, ofInt_nat hb]
  have : a ^^^ b < 2 ^ 64 := Nat.xor_lt_two_pow (by omega) (by omega)
  exact wrU (by omega) (by omega)
theorem row_and (p q : Nat → Bool) : bitsI .and .u64 (row p) (row q) = row fun y => p y && q y := by
  unfold row
  rw [and_nat (row_lt p) (row_lt q)]
  refine Int.ofNat_inj.2 (mkN_eq (Nat.and_lt_two_pow _ (row_lt q)) fun y hy => ?_)
  rw [Nat.testBit_and, mkN_bit, mkN_bit]; simp [hy]
theorem row_or (p q : Nat → Bool) : bitsI .or .u64 (row p) (row q) = row fun y => p y || q y := by
  unfold row
  rw [or_nat (row_lt p) (row_lt q)]
  refine Int.ofNat_inj.2 (mkN_eq (Nat.or_lt_two_pow (row_lt p) (row_lt q)) fun y hy => ?_)
  rw [Nat.testBit_or, mkN_bit, mkN_bit]; simp [hy]
theorem row_xor (p q : Nat → Bool) : bitsI .xor .u64 (row p) (row q) = row fun y => p y ^^ q y := by
  unfold row
  rw [xor_nat (row_lt p) (row_lt q)]
  refine Int.ofNat_inj.2 (mkN_eq (Nat.xor_lt_two_pow (row_lt p) (row_lt q)) fun y hy => ?_)
  rw [Nat.testBit_xor, mkN_bit, mkN_bit]; simp [hy]
theorem row_one {y : Nat} (hy : y < 64) : shl_ .u64 (1 : Int) (y : Int) = row fun z => z == y := by
  show IntKind.u64.wrap (1 * 2 ^ (min (y : Int).toNat 64)) = _
  have h2 : 2 ^ y < 2 ^ 64 := Nat.pow_lt_pow_right (by omega) hy
  have e : (1 : Int) * 2 ^ (min (y : Int).toNat 64) = ((2 ^ y : Nat) : Int) := by
    rw [Int.toNat_natCast, Nat.min_eq_left (by omega), Int.one_mul]; simp
  rw [e]
  have : IntKind.u64.wrap ((2 ^ y : Nat) : Int) = ((2 ^ y : Nat) : Int) := wrU (Int.natCast_nonneg _) (Int.ofNat_lt.2 h2)
  rw [this]
  unfold row
  refine Int.ofNat_inj.2 (mkN_eq h2 fun z hz => ?_)
  rw [Nat.testBit_two_pow]
  by_cases h : y = z
  · subst h; simp
  · have h' : ¬ z = y := fun e => h e.symm
    simp [h, h']
theorem row_zero : (0 : Int) = row fun _ => false := by unfold row; rw [mkN_zero fun _ _ => rfl]; rfl
theorem row_ones : (18446744073709551615 : Int) = row fun _ => true := by
  unfold row
  rw [← mkN_eq (x := 18446744073709551615) (p := fun _ => true) (n := 64) (by omega) fun y hy => ?_]
  · rfl
  · rw [show (18446744073709551615 : Nat) = 2 ^ 64 - 1 from rfl, Nat.testBit_two_pow_sub_one]; simp [hy]
theorem shr_nat {v y : Nat} (hy : y ≤ 64) : shr_ .u64 (v : Int) (y : Int) = ((v / 2 ^ y : Nat) : Int) := by
  show Int.fdiv (v : Int) (2 ^ (min (y : Int).toNat 64)) = _
  rw [Int.toNat_natCast, Nat.min_eq_left hy]
  rw [show (2 : Int) ^ y = ((2 ^ y : Nat) : Int) by simp]
  rw [Int.fdiv_eq_ediv_of_nonneg _ (Int.natCast_nonneg _)]
  exact (Int.natCast_ediv _ _).symm
theorem row_bit (p : Nat → Bool) {y : Nat} (hy : y < 64) : (bitsI .and .u64 (shr_ .u64 (row p) (y : Int)) (1 : Int) == (1 : Int)) = p y := by
  unfold row
  rw [shr_nat (by omega), show (1 : Int) = ((1 : Nat) : Int) from rfl, and_nat (Nat.lt_of_le_of_lt (Nat.div_le_self _ _) (row_lt p)) (by omega)]
  have e : (mkN p 64 / 2 ^ y) &&& 1 = ((mkN p 64).testBit y).toNat := by
    rw [Nat.and_one_is_mod, Nat.toNat_testBit]
  rw [e, mkN_bit]
  simp only [hy, decide_true, Bool.true_and]
  cases p y <;> rfl
theorem row_ne (p : Nat → Bool) : (row p != (0 : Int)) = (List.range 64).any p := by
  rw [Bool.eq_iff_iff]
  simp only [bne_iff_ne, ne_eq, List.any_eq_true, List.mem_range]
  constructor
  · intro h
    apply Classical.byContradiction
    intro hn
    apply h
    unfold row
    rw [mkN_zero fun y hy => by
      cases e : p y with
      | false => rfl
      | true => exact absurd ⟨y, hy, e⟩ hn]
    rfl
  · rintro ⟨y, hy, e⟩ h0
    have : mkN p 64 = 0 := by unfold row at h0; omega
    have h2 := mkN_bit p 64 y
    rw [this] at h2
    simp [hy, e] at h2
/-- The bits from one to another. -/
theorem row_span {l h : Nat} (h1 : l ≤ h) (h2 : h ≤ 63) : (((2 ^ (h + 1 - l) - 1) * 2 ^ l : Nat) : Int) = row fun z => decide (l ≤ z ∧ z ≤ h) := by
  unfold row
  refine Int.ofNat_inj.2 (mkN_eq ?_ fun z hz => ?_)
  · have : (2 ^ (h + 1 - l) - 1) * 2 ^ l < 2 ^ (h + 1 - l) * 2 ^ l := Nat.mul_lt_mul_of_pos_right (by have := Nat.pow_pos (n := h + 1 - l) (show 0 < 2 by omega); omega) (Nat.pow_pos (by omega))
    rw [← Nat.pow_add, show h + 1 - l + l = h + 1 by omega] at this
    exact Nat.lt_of_lt_of_le this (Nat.pow_le_pow_right (by omega) (by omega))
  · rw [← Nat.shiftLeft_eq, Nat.testBit_shiftLeft, Nat.testBit_two_pow_sub_one]
    rw [Bool.eq_iff_iff]
    simp only [Bool.and_eq_true, decide_eq_true_eq]
    omega
theorem shl_nat {v y : Nat} (hy : y < 64) (hv : v * 2 ^ y < 18446744073709551616) : shl_ .u64 (v : Int) (y : Int) = ((v * 2 ^ y : Nat) : Int) := by
  show IntKind.u64.wrap ((v : Int) * 2 ^ (min (y : Int).toNat 64)) = _
  have e : (v : Int) * 2 ^ (min (y : Int).toNat 64) = ((v * 2 ^ y : Nat) : Int) := by
    rw [Int.toNat_natCast, Nat.min_eq_left (by omega)]; simp
  rw [e]
  exact wrU (Int.natCast_nonneg _) (Int.ofNat_lt.2 hv)
theorem ones_shr {k : Nat} (hk : k ≤ 64) : (18446744073709551615 / 2 ^ k : Nat) = 2 ^ (64 - k) - 1 := by
  have h1 : 2 ^ 64 = 2 ^ (64 - k) * 2 ^ k := by rw [← Nat.pow_add, Nat.sub_add_cancel hk]
  have hp : 0 < 2 ^ k := Nat.pow_pos (by omega)
  have hq : 0 < 2 ^ (64 - k) := Nat.pow_pos (by omega)
  generalize 2 ^ (64 - k) = a at *
  generalize 2 ^ k = b at *
  have h2 : 18446744073709551615 = a * b - 1 := by omega
  rw [h2]
  apply Nat.div_eq_of_lt_le
  · rw [Nat.sub_mul]; omega
  · rw [Nat.sub_add_cancel (by omega)]
    have : 0 < a * b := Nat.mul_pos hq hp
    omega
theorem span_impl {l h : Nat} (h1 : l ≤ h) (h2 : h ≤ 63) : shl_ .u64 (shr_ .u64 (18446744073709551615 : Int) (63 - (h : Int) + (l : Int))) (l : Int) = row fun z => decide (l ≤ z ∧ z ≤ h) := by
  rw [show (63 - (h : Int) + (l : Int)) = ((63 - h + l : Nat) : Int) by omega, show (18446744073709551615 : Int) = ((18446744073709551615 : Nat) : Int) from rfl, shr_nat (by omega), ones_shr (by omega), show 64 - (63 - h + l) = h + 1 - l by omega]
  have := row_span h1 h2
  have hlt : (2 ^ (h + 1 - l) - 1) * 2 ^ l < 18446744073709551616 := by
    have h3 := row_lt fun z => decide (l ≤ z ∧ z ≤ h)
    unfold row at this; omega
  rw [shl_nat (by omega) hlt]
  exact this
theorem span_spec {l h : Nat} (h1 : l ≤ h) (h2 : h ≤ 63) : shl_ .u64 (shr_ .u64 (shr_ .u64 (18446744073709551615 : Int) (63 - (h : Int))) (l : Int)) (l : Int) = row fun z => decide (l ≤ z ∧ z ≤ h) := by
  rw [show (63 - (h : Int)) = ((63 - h : Nat) : Int) by omega, show (18446744073709551615 : Int) = ((18446744073709551615 : Nat) : Int) from rfl, shr_nat (by omega), shr_nat (by omega), Nat.div_div_eq_div_mul, ← Nat.pow_add, ones_shr (by omega), show 64 - (63 - h + l) = h + 1 - l by omega]
  have := row_span h1 h2
  have hlt : (2 ^ (h + 1 - l) - 1) * 2 ^ l < 18446744073709551616 := by
    have h3 := row_lt fun z => decide (l ≤ z ∧ z ≤ h)
    unfold row at this; omega
  rw [shl_nat (by omega) hlt]
  exact this
/-- The first bit of a row; 64 if there is none. -/
def fstZ (p : Nat → Bool) : Nat := ((List.range 64).find? p).getD 64
theorem ctzF : ∀ (f x : Nat), Lib.ctzFrom f x = ((List.range f).find? x.testBit).getD f
  | 0, x => by simp [Lib.ctzFrom]
  | f + 1, x => by
    rw [List.range_succ_eq_map, List.find?_cons]
    unfold Lib.ctzFrom
    by_cases h : x % 2 = 1
    · rw [if_pos h]
      have : x.testBit 0 = true := by simp [Nat.testBit_zero, h]
      rw [this]; rfl
    · rw [if_neg h]
      have : x.testBit 0 = false := by simp [Nat.testBit_zero]; omega
      rw [this, ctzF f (x / 2), List.find?_map]
      have e : (x.testBit ∘ Nat.succ) = (x / 2).testBit := by
        funext i; simp [Nat.testBit_succ]
      rw [e]
      cases (List.range f).find? (x / 2).testBit <;> simp <;> omega
theorem find_congr {α : Type} {p q : α → Bool} : ∀ {l : List α}, (∀ x ∈ l, p x = q x) → l.find? p = l.find? q
  | [], _ => rfl
  | a :: l, h => by rw [List.find?_cons, List.find?_cons, h a (by simp), find_congr fun x hx => h x (by simp [hx])]
theorem row_ctz (p : Nat → Bool) : Lib.ctz 64 (row p).toNat = fstZ p := by
  unfold row
  rw [Int.toNat_natCast]
  have e : (List.range 64).find? (mkN p 64).testBit = (List.range 64).find? p := by
    apply find_congr
    intro y hy
    rw [mkN_bit]; simp [List.mem_range.1 hy]
  unfold Lib.ctz fstZ
  split
  · rename_i h0
    have : (List.range 64).find? p = none := by
      rw [← e, h0, List.find?_eq_none]; simp
    rw [this]; rfl
  · rw [ctzF, e]
theorem fstZ_some {p : Nat → Bool} (h : (List.range 64).any p = true) : fstZ p < 64 ∧ p (fstZ p) = true ∧ ∀ z, z < fstZ p → p z = false := by
  obtain ⟨y, hy, hp⟩ := List.any_eq_true.1 h
  unfold fstZ
  cases e : (List.range 64).find? p with
  | none => rw [List.find?_eq_none] at e; exact absurd hp (e y hy)
  | some z =>
    have h1 := List.find?_some e
    have h2 := List.mem_range.1 (List.mem_of_find?_eq_some e)
    refine ⟨h2, h1, fun w hw => ?_⟩
    have h3 := (List.find?_eq_some_iff_getElem.1 e).2
    obtain ⟨i, hi, e1, e2⟩ := h3
    simp only [List.getElem_range] at e1
    subst e1
    have := e2 w hw
    simpa using this
end Go.Cams

/- Stretches: which heights may follow, what can be reached, and fillings, in plain terms. -/
namespace Go.Cams
open Go Go.Fw
def hgt (c : List Int) (lo s : Int) : Int := cAt c s - lo
/-- May the height z come behind x and y, within the bound b? -/
def sp (b : Int) (x y z : Nat) : Bool := decide (2 * (y : Int) - x - b ≤ z ∧ (z : Int) ≤ 2 * (y : Int) - x + b)
/-- May the step k of a stretch have the height z? -/
def al (c : List Int) (f m lo : Int) (k z : Nat) : Bool := decide ((k : Int) < m) || decide ((z : Int) = hgt c lo (f + k))
def qq (c : List Int) (f m lo b : Int) (k x y z : Nat) : Bool := sp b x y z && al c f m lo k z
/-- Can one go on for d steps? -/
def can (q : Nat → Nat → Nat → Nat → Bool) : Nat → Nat → Nat → Nat → Bool
  | 0, _, _, _ => true
  | d + 1, k, x, y => (List.range 64).any fun z => q k x y z && can q d (k + 1) y z
/-- Is a pair reached with i steps? -/
def fwd (q : Nat → Nat → Nat → Nat → Bool) (x0 y0 : Nat) : Nat → Nat → Nat → Bool
  | 0, x, y => x == x0 && y == y0
  | i + 1, y, z => (List.range 64).any fun x => fwd q x0 y0 i x y && q i x y z
theorem any64 {p : Nat → Bool} : (List.range 64).any p = true ↔ ∃ z, z < 64 ∧ p z = true := by
  rw [List.any_eq_true]
  constructor
  · rintro ⟨z, hz, h⟩; exact ⟨z, List.mem_range.1 hz, h⟩
  · rintro ⟨z, hz, h⟩; exact ⟨z, List.mem_range.2 hz, h⟩
theorem fwd_can {q : Nat → Nat → Nat → Nat → Bool} {x0 y0 : Nat} (hx : x0 < 64) (hy : y0 < 64) (M : Nat) : ∀ i, i ≤ M → ((∃ x y, x < 64 ∧ y < 64 ∧ fwd q x0 y0 i x y = true ∧ can q (M - i) i x y = true) ↔ can q M 0 x0 y0 = true)
  | 0, _ => by
    constructor
    · rintro ⟨x, y, _, _, h1, h2⟩
      simp only [fwd, Bool.and_eq_true, beq_iff_eq] at h1
      rw [h1.1, h1.2] at h2
      exact h2
    · intro h
      exact ⟨x0, y0, hx, hy, by simp [fwd], h⟩
  | i + 1, h => by
    rw [← fwd_can hx hy M i (by omega)]
    have e : M - i = (M - (i + 1)) + 1 := by omega
    constructor
    · rintro ⟨y, z, hy', hz, h1, h2⟩
      simp only [fwd] at h1
      obtain ⟨x, hx', h1⟩ := any64.1 h1
      simp only [Bool.and_eq_true] at h1
      refine ⟨x, y, hx', hy', h1.1, ?_⟩
      rw [e]
      simp only [can]
      exact any64.2 ⟨z, hz, by simp [h1.2, h2]⟩
    · rintro ⟨x, y, hx', hy', h1, h2⟩
      rw [e] at h2
      simp only [can] at h2
      obtain ⟨z, hz, h2⟩ := any64.1 h2
      simp only [Bool.and_eq_true] at h2
      refine ⟨y, z, hy', hz, ?_, h2.2⟩
      simp only [fwd]
      exact any64.2 ⟨x, hx', by simp [h1, h2.1]⟩
def askP (c : List Int) (f m lo b : Int) : Int :=
  if okC c = false then 1
  else if (inR f 0 ((c.length : Int) - 1) && inR m 1 (min 40 ((c.length : Int) - 4)) && inR lo 0 9937 && inR b 0 40000) = false then 2
  else if (inR (hgt c lo (f - 2)) 0 63 && inR (hgt c lo (f - 1)) 0 63 && inR (hgt c lo (f + m)) 0 63 && inR (hgt c lo (f + m + 1)) 0 63) = false then 4 else 0
structure GoodS (c : List Int) (f m lo b : Int) : Prop where
  ok : okC c = true
  hf : 0 ≤ f ∧ f < c.length
  hm : 1 ≤ m ∧ m ≤ 40
  hm2 : m ≤ c.length - 4
  hlo : 0 ≤ lo ∧ lo ≤ 9937
  hb : 0 ≤ b ∧ b ≤ 40000
  h1 : 0 ≤ hgt c lo (f - 2) ∧ hgt c lo (f - 2) ≤ 63
  h2 : 0 ≤ hgt c lo (f - 1) ∧ hgt c lo (f - 1) ≤ 63
  h3 : 0 ≤ hgt c lo (f + m) ∧ hgt c lo (f + m) ≤ 63
  h4 : 0 ≤ hgt c lo (f + m + 1) ∧ hgt c lo (f + m + 1) ≤ 63
theorem goodS {c : List Int} {f m lo b : Int} (h : askP c f m lo b = 0) : GoodS c f m lo b := by
  unfold askP at h
  split at h
  · exact absurd h (by decide)
  rename_i h0
  split at h
  · exact absurd h (by decide)
  rename_i h1
  split at h
  · exact absurd h (by decide)
  rename_i h2
  simp only [Bool.not_eq_false, Bool.and_eq_true, inR_iff] at h0 h1 h2
  obtain ⟨⟨⟨a1, a2⟩, a3⟩, a4⟩ := h1
  obtain ⟨⟨⟨b1, b2⟩, b3⟩, b4⟩ := h2
  exact ⟨h0, by omega, by omega, by omega, a3, a4, b1, b2, b3, b4⟩
theorem GoodS.bound {c : List Int} {f m lo b : Int} (h : GoodS c f m lo b) {b' : Int} (h0 : 0 ≤ b') (h1 : b' ≤ 40000) : GoodS c f m lo b' := ⟨h.ok, h.hf, h.hm, h.hm2, h.hlo, ⟨h0, h1⟩, h.h1, h.h2, h.h3, h.h4⟩
theorem GoodS.len {c : List Int} {f m lo b : Int} (h : GoodS c f m lo b) : 8 ≤ (c.length : Int) ∧ (c.length : Int) ≤ 360 := okC_len h.ok
def px (c : List Int) (f lo : Int) : Nat := (hgt c lo (f - 2)).toNat
def py (c : List Int) (f lo : Int) : Nat := (hgt c lo (f - 1)).toNat
theorem GoodS.px {c : List Int} {f m lo b : Int} (h : GoodS c f m lo b) : hgt c lo (f - 2) = (px c f lo : Nat) ∧ Cams.px c f lo < 64 := by have := h.h1; unfold Cams.px; omega
theorem GoodS.py {c : List Int} {f m lo b : Int} (h : GoodS c f m lo b) : hgt c lo (f - 1) = (py c f lo : Nat) ∧ Cams.py c f lo < 64 := by have := h.h2; unfold Cams.py; omega
theorem GoodS.fix {c : List Int} {f m lo b : Int} (h : GoodS c f m lo b) {k : Nat} (h0 : ¬ (k : Int) < m) (h1 : (k : Int) ≤ m + 1) : 0 ≤ hgt c lo (f + k) ∧ hgt c lo (f + k) ≤ 63 := by
  by_cases e : (k : Int) = m
  · rw [e]; exact h.h3
  · rw [show f + (k : Int) = f + m + 1 by omega]; exact h.h4
/-- Can a stretch be filled? -/
def cq (c : List Int) (f m lo b : Int) : Bool := can (qq c f m lo b) (m.toNat + 2) 0 (px c f lo) (py c f lo)
/-- The least lifts that fill a stretch. -/
def fil (q : Nat → Nat → Nat → Nat → Bool) (lo : Int) (M : Nat) : Nat → Nat → Nat → Nat → List Int
  | 0, _, _, _ => []
  | d + 1, k, x, y => (lo + (fstZ fun z => q k x y z && can q (M - (k + 1)) (k + 1) y z : Nat)) :: fil q lo M d (k + 1) y (fstZ fun z => q k x y z && can q (M - (k + 1)) (k + 1) y z)
theorem fil_len (q : Nat → Nat → Nat → Nat → Bool) (lo : Int) (M : Nat) : ∀ d k x y, (fil q lo M d k x y).length = d
  | 0, _, _, _ => rfl
  | d + 1, k, x, y => by simp [fil, fil_len q lo M d]
def filP (c : List Int) (f m lo b : Int) : List Int := fil (qq c f m lo b) lo (m.toNat + 2) m.toNat 0 (px c f lo) (py c f lo)
def fillR (c : List Int) (f m lo b : Int) : List Int × (Bool × Unit) := if cq c f m lo b = true then (filP c f m lo b, true, ()) else ([], false, ())
/-- The least number for which something holds, by halving. -/
def bs (P : Int → Bool) : Nat → Int → Int → Int
  | 0, lo, _ => lo
  | n + 1, lo, hi => if lo < hi then (if P ((lo + hi) / 2) = true then bs P n lo ((lo + hi) / 2) else bs P n ((lo + hi) / 2 + 1) hi) else lo
theorem bs_more (P : Int → Bool) : ∀ (n : Nat) (lo hi : Int), (hi - lo).toNat ≤ n → bs P (n + 1) lo hi = bs P n lo hi
  | 0, lo, hi, h => by
    unfold bs
    rw [if_neg (by omega)]
  | n + 1, lo, hi, h => by
    unfold bs
    by_cases hl : lo < hi
    · rw [if_pos hl, if_pos hl, bs_more P n _ _ (by omega), bs_more P n _ _ (by omega)]
    · rw [if_neg hl, if_neg hl]
theorem bs_any (P : Int → Bool) {lo hi : Int} {n : Nat} (h : (hi - lo).toNat ≤ n) : bs P n lo hi = bs P (hi - lo).toNat lo hi := by
  obtain ⟨d, rfl⟩ : ∃ d, n = (hi - lo).toNat + d := ⟨n - (hi - lo).toNat, by omega⟩
  clear h
  induction d with
  | zero => rfl
  | succ d ih => rw [show (hi - lo).toNat + (d + 1) = ((hi - lo).toNat + d) + 1 by omega, bs_more P _ _ _ (by omega), ih]
theorem bs_in (P : Int → Bool) : ∀ (n : Nat) (lo hi : Int), lo ≤ hi → lo ≤ bs P n lo hi ∧ bs P n lo hi ≤ hi
  | 0, lo, hi, h => by unfold bs; omega
  | n + 1, lo, hi, h => by
    unfold bs
    split
    · split
      · have := bs_in P n lo ((lo + hi) / 2) (by omega); omega
      · have := bs_in P n ((lo + hi) / 2 + 1) hi (by omega); omega
    · omega
def lbV (c : List Int) (f m lo : Int) : Int := bs (fun b => cq c f m lo b) 128 0 128
theorem lbV_in (c : List Int) (f m lo : Int) : 0 ≤ lbV c f m lo ∧ lbV c f m lo ≤ 128 := bs_in _ _ _ _ (by omega)
abbrev RI2 : Type := Int × (Int × Unit)
def lbR (c : List Int) (f m lo : Int) : RI2 := if askP c f m lo 0 ≠ 0 then (0, askP c f m lo 0, ()) else (lbV c f m lo, 0, ())
abbrev RL2 : Type := List Int × (Int × Unit)
def fwR (c : List Int) (f m lo b : Int) : RL2 := if askP c f m lo b ≠ 0 then ([], askP c f m lo b, ()) else if cq c f m lo b = true then (filP c f m lo b, 0, ()) else ([], 6, ())

/-! ### The spans -/
theorem may_val {A B : Int} (hA : 0 ≤ A) (hB : B ≤ 63) (hAB : ¬ A > B) : shl_ .u64 (shr_ .u64 (shr_ .u64 (18446744073709551615 : Int) (wr .u64 (wr .i64 (63 - B)))) (wr .u64 A)) (wr .u64 A) = row fun z => decide (A ≤ z ∧ (z : Int) ≤ B) := by
  obtain ⟨a, rfl⟩ : ∃ a : Nat, A = a := ⟨A.toNat, by omega⟩
  obtain ⟨b, rfl⟩ : ∃ b : Nat, B = b := ⟨B.toNat, by omega⟩
  rw [wrap_id (x := 63 - (b : Int)) (by omega) (by omega), wrU (x := 63 - (b : Int)) (by omega) (by omega), wrU (x := (a : Int)) (by omega) (by omega), span_spec (by omega) (by omega)]
  exact row_congr fun y hy => by simp
theorem span_val {A B : Int} (hA : 0 ≤ A) (hB : B ≤ 63) (hAB : ¬ A > B) : shl_ .u64 (shr_ .u64 (18446744073709551615 : Int) (wr .i64 (wr .i64 (63 - B) + A))) A = row fun z => decide (A ≤ z ∧ (z : Int) ≤ B) := by
  obtain ⟨a, rfl⟩ : ∃ a : Nat, A = a := ⟨A.toNat, by omega⟩
  obtain ⟨b, rfl⟩ : ∃ b : Nat, B = b := ⟨B.toNat, by omega⟩
  rw [wrap_id (x := 63 - (b : Int)) (by omega) (by omega), wrap_id (x := 63 - (b : Int) + (a : Int)) (by omega) (by omega), span_impl (by omega) (by omega)]
  exact row_congr fun y hy => by simp
theorem row_none {p : Nat → Bool} (h : ∀ y, y < 64 → p y = false) : row p = 0 := by rw [row_zero]; exact row_congr h

/-! ### Grids that are being made -/
/-- A grid of rows. -/
def gR (t : Nat → Nat → Bool) : List Int := tb 64 fun x => row (t x)
theorem gR_len (t : Nat → Nat → Bool) : (gR t).length = 64 := tb_len _ _
theorem gR_get (t : Nat → Nat → Bool) {x : Nat} (hx : x < 64) : (gR t)[x]? = some (row (t x)) := tb_get hx
theorem gR_ext {t u : Nat → Nat → Bool} (h : ∀ x y, x < 64 → y < 64 → t x y = u x y) : gR t = gR u := tb_ext fun x hx => row_congr fun y hy => h x y hx hy
theorem gR_zero : List.replicate 64 (0 : Int) = gR fun _ _ => false := by rw [tb_rep]; exact tb_ext fun _ _ => row_zero
theorem gR_set (t : Nat → Nat → Bool) (x : Nat) (p : Nat → Bool) : (gR t).set x (row p) = gR fun x' y' => if x' = x then p y' else t x' y' := by
  unfold gR
  rw [tb_set]
  refine tb_ext fun j _ => ?_
  by_cases h : j = x
  · simp [h]
  · simp [h]
theorem gR_ne_zero (t : Nat → Nat → Bool) : gR t = List.replicate 64 (0 : Int) ↔ ∀ x y, x < 64 → y < 64 → t x y = false := by
  constructor
  · intro h x y hx hy
    have h1 := gR_get t hx
    rw [h, List.getElem?_replicate, if_pos hx] at h1
    have h2 := row_ne (t x)
    rw [← Option.some.inj h1] at h2
    have h3 : (List.range 64).any (t x) = false := by rw [← h2]; rfl
    rw [List.any_eq_false] at h3
    have := h3 y (List.mem_range.2 hy)
    simpa using this
  · intro h
    rw [gR_zero]
    exact gR_ext h
/-- What is told of the pairs ahead of x, y. -/
def pg (t : Nat → Nat → Bool) (x y : Nat) : List Int := gR fun x' y' => (decide (x' < x) || (x' == x && decide (y' < y))) && t x' y'
theorem pg_zero (t : Nat → Nat → Bool) : pg t 0 0 = List.replicate 64 (0 : Int) := by
  rw [gR_zero]; exact gR_ext fun x y _ _ => by simp
theorem pg_next (t : Nat → Nat → Bool) (x : Nat) : pg t x 64 = pg t (x + 1) 0 := gR_ext fun x' y' _ hy => by
  have e : decide (y' < 64) = true := decide_eq_true hy
  rw [e]
  congr 1
  rw [Bool.eq_iff_iff]
  simp
  omega
theorem pg_full (t : Nat → Nat → Bool) : pg t 64 0 = gR t := gR_ext fun x y hx _ => by simp [hx]
theorem pg_get (t : Nat → Nat → Bool) {x y : Nat} (hx : x < 64) : (pg t x y)[x]? = some (row fun y' => decide (y' < y) && t x y') := by
  unfold pg
  rw [gR_get _ hx]
  exact congrArg some (row_congr fun y' _ => by simp)
theorem pg_skip {t : Nat → Nat → Bool} {x y : Nat} (h : t x y = false) : pg t x y = pg t x (y + 1) := gR_ext fun x' y' _ _ => by
  by_cases h1 : x' = x
  · subst h1
    by_cases h2 : y' = y
    · subst h2; simp [h]
    · rw [Bool.eq_iff_iff]
      simp
      intro _
      omega
  · have : (x' == x) = false := by simpa using h1
    rw [this]; simp
theorem pg_put {t : Nat → Nat → Bool} {x y : Nat} (hy : y < 64) (h : t x y = true) : (pg t x y).set x (bitsI .or .u64 (row fun y' => decide (y' < y) && t x y') (shl_ .u64 (1 : Int) (y : Int))) = pg t x (y + 1) := by
  rw [row_one hy, row_or]
  unfold pg
  rw [gR_set]
  refine gR_ext fun x' y' _ _ => ?_
  by_cases h1 : x' = x
  · subst h1
    rw [if_pos rfl]
    by_cases h2 : y' = y
    · subst h2; simp [h]
    · rw [Bool.eq_iff_iff]
      simp [h2]
      intro _
      omega
  · have : (x' == x) = false := by simpa using h1
    rw [if_neg h1, this]; simp
end Go.Cams
namespace Go.Cams
open Go Go.Fw
theorem row_has (p : Nat → Bool) {y : Nat} (hy : y < 64) : (bitsI .and .u64 (row p) (shl_ .u64 (1 : Int) (y : Int)) != (0 : Int)) = p y := by
  rw [row_one hy, row_and, row_ne, Bool.eq_iff_iff, any64]
  constructor
  · rintro ⟨z, _, h⟩
    simp only [Bool.and_eq_true, beq_iff_eq] at h
    rw [← h.2]; exact h.1
  · intro h
    exact ⟨y, hy, by simp [h]⟩
/-- What is left of a grid whose pairs ahead of x, y have been looked at. -/
def pm (F t : Nat → Nat → Bool) (x y : Nat) : List Int := gR fun x' y' => F x' y' && (!(decide (x' < x) || (x' == x && decide (y' < y))) || t x' y')
theorem pm_zero (F t : Nat → Nat → Bool) : pm F t 0 0 = gR F := gR_ext fun x y _ _ => by simp
theorem pm_next (F t : Nat → Nat → Bool) (x : Nat) : pm F t x 64 = pm F t (x + 1) 0 := gR_ext fun x' y' _ hy => by
  congr 2
  congr 1
  rw [Bool.eq_iff_iff]
  simp
  omega
theorem pm_full (F t : Nat → Nat → Bool) : pm F t 64 0 = gR fun x y => F x y && t x y := gR_ext fun x y hx _ => by simp [hx]
theorem pm_get (F t : Nat → Nat → Bool) {x y : Nat} (hx : x < 64) : (pm F t x y)[x]? = some (row fun y' => F x y' && (!decide (y' < y) || t x y')) := by
  unfold pm
  rw [gR_get _ hx]
  exact congrArg some (row_congr fun y' _ => by simp)
theorem pm_skip {F t : Nat → Nat → Bool} {x y : Nat} (h : F x y = false ∨ t x y = true) : pm F t x y = pm F t x (y + 1) := gR_ext fun x' y' _ _ => by
  by_cases h1 : x' = x
  · subst h1
    by_cases h2 : y' = y
    · subst h2
      rcases h with h | h <;> simp [h]
    · have : decide (y' < y) = decide (y' < y + 1) := by rw [decide_eq_decide]; omega
      rw [this]
  · have : (x' == x) = false := by simpa using h1
    rw [this]; simp
theorem pm_cut {F t : Nat → Nat → Bool} {x y : Nat} (hy : y < 64) (h : F x y = true) (ht : t x y = false) : (pm F t x y).set x (bitsI .xor .u64 (row fun y' => F x y' && (!decide (y' < y) || t x y')) (shl_ .u64 (1 : Int) (y : Int))) = pm F t x (y + 1) := by
  rw [row_one hy, row_xor]
  unfold pm
  rw [gR_set]
  refine gR_ext fun x' y' _ _ => ?_
  by_cases h1 : x' = x
  · subst h1
    rw [if_pos rfl]
    by_cases h2 : y' = y
    · subst h2; simp [h, ht]
    · have e : decide (y' < y) = decide (y' < y + 1) := by rw [decide_eq_decide]; omega
      have e2 : (y' == y) = false := by simpa using h2
      rw [e, e2]; simp
  · have : (x' == x) = false := by simpa using h1
    rw [if_neg h1, this]; simp
end Go.Cams
namespace Go.Cams
open Go Go.Fw
theorem bit_or (p : Nat → Bool) {y : Nat} (hy : y < 64) : bitsI .and .u64 (shr_ .u64 (row p) (y : Int)) (1 : Int) = 0 ∨ bitsI .and .u64 (shr_ .u64 (row p) (y : Int)) (1 : Int) = 1 := by
  unfold row
  rw [shr_nat (by omega), show (1 : Int) = ((1 : Nat) : Int) from rfl, and_nat (Nat.lt_of_le_of_lt (Nat.div_le_self _ _) (row_lt p)) (by omega), Nat.and_one_is_mod]
  omega
theorem fwR_len (c : List Int) (f m lo b : Int) : ((fwR c f m lo b).1.length : Int) ≤ 40 := by
  unfold fwR
  split
  · simp
  · rename_i h
    have G := goodS (c := c) (f := f) (m := m) (lo := lo) (b := b) (by simpa using h)
    split
    · have := G.hm
      show ((filP c f m lo b).length : Int) ≤ 40
      unfold filP
      rw [fil_len]; omega
    · simp
end Go.Cams

/- Fillings that are put into cams, and repairs, in plain terms. -/
namespace Go.Cams
open Go Go.Fw
/-- Lifts that are put into a cam from a step on. -/
def putP : List Int → Int → List Int → List Int
  | c, _, [] => c
  | c, f, v :: r => putP (c.set (f % c.length).toNat (wr .i16 v)) (f + 1) r
theorem putP_len : ∀ (l : List Int) (c : List Int) (f : Int), (putP c f l).length = c.length
  | [], c, f => rfl
  | v :: r, c, f => by
    show (putP (c.set (f % c.length).toNat (wr .i16 v)) (f + 1) r).length = _
    rw [putP_len r, List.length_set]
theorem putP_all {Q : Int → Prop} : ∀ (l : List Int) (c : List Int) (f : Int), (∀ v ∈ c, Q v) → (∀ v ∈ l, Q (wr .i16 v)) → ∀ v ∈ putP c f l, Q v
  | [], c, f, hc, _ => hc
  | a :: r, c, f, hc, hl => by
    show ∀ v ∈ putP (c.set (f % c.length).toNat (wr .i16 a)) (f + 1) r, Q v
    refine putP_all r _ _ (fun v hv => ?_) fun v hv => hl v (by simp [hv])
    rcases List.mem_or_eq_of_mem_set hv with h | h
    · exact hc v h
    · rw [h]; exact hl a (by simp)
theorem putP_snoc : ∀ (l : List Int) (c : List Int) (f v : Int), putP c f (l ++ [v]) = (putP c f l).set ((f + l.length) % c.length).toNat (wr .i16 v)
  | [], c, f, v => by show c.set _ _ = _; rw [show (f + (([] : List Int).length : Int)) = f by simp]; rfl
  | a :: r, c, f, v => by
    show putP (c.set (f % c.length).toNat (wr .i16 a)) (f + 1) (r ++ [v]) = (putP (c.set (f % c.length).toNat (wr .i16 a)) (f + 1) r).set _ _
    rw [putP_snoc r, List.length_set, show f + 1 + (r.length : Int) = f + ((a :: r).length : Int) by simp only [List.length_cons]; omega]
theorem wr16_in (v : Int) : -32768 ≤ wr .i16 v ∧ wr .i16 v ≤ 32767 := by
  show -32768 ≤ IntKind.i16.wrap v ∧ IntKind.i16.wrap v ≤ 32767
  simp [IntKind.wrap, IntKind.bits, IntKind.signed]
  omega
theorem putP_rng {c : List Int} (h : Rng c) (f : Int) (l : List Int) : Rng (putP c f l) :=
  ⟨by rw [putP_len]; exact h.len, putP_all (Q := fun v => -32768 ≤ v ∧ v ≤ 32767) l c f h.el fun v _ => wr16_in v⟩
abbrev RLI3 : Type := List Int × (Int × (Int × Unit))
def ssR (c : List Int) (f m lo : Int) : RLI3 := if askP c f m lo 0 ≠ 0 then ([], 0, askP c f m lo 0, ()) else (putP c f (fillR c f m lo (lbV c f m lo)).1, lbV c f m lo, 0, ())
theorem ssR_len {c : List Int} (hr : Rng c) (f m lo : Int) : ((ssR c f m lo).1.length : Int) ≤ c.length := by
  unfold ssR
  split
  · simp
  · show ((putP c f _).length : Int) ≤ _
    rw [putP_len]; omega
/-- The bend at a step. -/
def bendP (c : List Int) (i : Int) : Int := cAt c (i + 1) - 2 * cAt c i + cAt c (i - 1)
/-- A step of a repair. -/
def rpS (b lo : Int) (s : List Int × List Int) (i : Nat) : List Int × List Int :=
  if siz (bendP s.1 i) ≤ b then s
  else if askP s.1 (((i : Int) - 1) % s.1.length) 3 lo b = 0 ∧ cq s.1 (((i : Int) - 1) % s.1.length) 3 lo b = true then (putP s.1 (((i : Int) - 1) % s.1.length) (filP s.1 (((i : Int) - 1) % s.1.length) 3 lo b), s.2 ++ [(i : Int)]) else s
def rp (b lo : Int) (c : List Int) : Nat → List Int × List Int
  | 0 => (c, [])
  | k + 1 => rpS b lo (rp b lo c k) k
theorem fil_el {q : Nat → Nat → Nat → Nat → Bool} {lo : Int} {M : Nat} : ∀ (d k x y : Nat), d + k ≤ M → can q (M - k) k x y = true → ∀ v ∈ fil q lo M d k x y, lo ≤ v ∧ v ≤ lo + 63
  | 0, _, _, _, _, _, v, hv => by cases hv
  | d + 1, k, x, y, hM, hc, v, hv => by
    rw [show M - k = (M - (k + 1)) + 1 by omega] at hc
    obtain ⟨z1, z2, _⟩ := fstZ_some (p := fun z => q k x y z && can q (M - (k + 1)) (k + 1) y z) hc
    simp only [Bool.and_eq_true] at z2
    rcases List.mem_cons.1 hv with h | h
    · rw [h]; omega
    · exact fil_el d (k + 1) y _ (by omega) z2.2 v h
theorem filP_el {c : List Int} {f m lo b : Int} (h : cq c f m lo b = true) : ∀ v ∈ filP c f m lo b, lo ≤ v ∧ v ≤ lo + 63 := fil_el _ 0 _ _ (by omega) h
theorem okC_put {c : List Int} (hr : Rng c) (h : okC c = true) {f lo : Int} {l : List Int} (l0 : 0 ≤ lo) (l1 : lo ≤ 9937) (hl : ∀ v ∈ l, lo ≤ v ∧ v ≤ lo + 63) : okC (putP c f l) = true := by
  have h1 := okC_len h
  have h2 := okC_el h hr
  simp only [okC, Bool.and_eq_true, inR_iff, List.all_eq_true, okV]
  rw [putP_len]
  refine ⟨h1, putP_all (Q := fun v => 0 ≤ wr .i64 v ∧ wr .i64 v ≤ 10000) l c f (fun v hv => ?_) fun v hv => ?_⟩
  · rw [hr.id hv]; exact h2 v hv
  · have := hl v hv
    rw [wrap16 (by omega) (by omega), wrap_id (by omega) (by omega)]
    omega
structure GoodR (c : List Int) (s : List Int × List Int) (k : Nat) : Prop where
  ok : okC s.1 = true
  rng : Rng s.1
  len : s.1.length = c.length
  many : s.2.length ≤ k
theorem rp_good {c : List Int} (hr : Rng c) (h : okC c = true) {b lo : Int} (l0 : 0 ≤ lo) (l1 : lo ≤ 9937) : ∀ k, GoodR c (rp b lo c k) k
  | 0 => ⟨h, hr, rfl, Nat.le_refl _⟩
  | k + 1 => by
    have G := rp_good hr h (b := b) l0 l1 k
    show GoodR c (rpS b lo (rp b lo c k) k) (k + 1)
    unfold rpS
    split
    · exact ⟨G.ok, G.rng, G.len, by have := G.many; omega⟩
    · split
      · rename_i h2
        exact ⟨okC_put G.rng G.ok l0 l1 (filP_el h2.2), putP_rng G.rng _ _, by show (putP _ _ _).length = _; rw [putP_len]; exact G.len, by show ((rp b lo c k).2 ++ [(k : Int)]).length ≤ _; rw [List.length_append]; have := G.many; simp only [List.length_cons, List.length_nil]; omega⟩
      · exact ⟨G.ok, G.rng, G.len, by have := G.many; omega⟩
abbrev RLLI : Type := List Int × (List Int × (Int × Unit))
def rpR (c : List Int) (b lo : Int) : RLLI := if okC c = false then ([], [], 1, ()) else if (inR b 0 40000 && inR lo 0 9937) = false then ([], [], 2, ()) else ((rp b lo c c.length).1, (rp b lo c c.length).2, 0, ())
theorem rpR_len {c : List Int} (hr : Rng c) (b lo : Int) : ((rpR c b lo).1.length : Int) ≤ 360 ∧ ((rpR c b lo).2.1.length : Int) ≤ 360 := by
  unfold rpR
  split
  · simp
  · rename_i h
    have h : okC c = true := by simpa using h
    have := okC_len h
    split
    · simp
    · rename_i h2
      simp only [Bool.not_eq_false, Bool.and_eq_true, inR_iff] at h2
      have G := rp_good hr h (b := b) (lo := lo) h2.2.1 h2.2.2 c.length
      have h3 := G.len
      have h4 := G.many
      show (((rp b lo c c.length).1.length : Nat) : Int) ≤ 360 ∧ (((rp b lo c c.length).2.length : Nat) : Int) ≤ 360
      omega
end Go.Cams
namespace Go.Cams
open Go Go.Fw
theorem fillR_len {c : List Int} {f m lo b : Int} (G : GoodS c f m lo b) {b' : Int} : ((fillR c f m lo b').1.length : Int) ≤ 40 := by
  have := G.hm
  unfold fillR
  split
  · show ((filP c f m lo b').length : Int) ≤ 40
    unfold filP
    rw [fil_len]; omega
  · simp
theorem fwR_zero (c : List Int) (f m lo b : Int) : ((fwR c f m lo b).2.1 == (0 : Int)) = true ↔ askP c f m lo b = 0 ∧ cq c f m lo b = true := by
  unfold fwR
  by_cases h : askP c f m lo b = 0
  · rw [if_neg (by simp [h])]
    cases hc : cq c f m lo b with
    | false => rw [if_neg (by simp)]; exact ⟨fun h => absurd h (by decide), fun h => absurd h.2 (by simp)⟩
    | true => rw [if_pos rfl]; exact ⟨fun _ => ⟨h, rfl⟩, fun _ => rfl⟩
  · rw [if_pos h]
    exact ⟨fun hh => absurd (by simpa using hh) h, fun hh => absurd hh.1 h⟩
end Go.Cams

/- Cuts that are done one behind another, in plain terms. -/
namespace Go.Cams
open Go Go.Fw
structure GoodL (m : Nat) (K : List (List Int)) (L : List Ct) : Prop where
  m0 : 0 < m
  m1 : m ≤ 1000
  hk : okKs K = true
  n : 1 ≤ (K.length : Int) ∧ (K.length : Int) ≤ 8
  l : (L.length : Int) ≤ 400
  el : ∀ v ∈ L, (0 ≤ v.1 ∧ v.1 < (m : Int)) ∧ (0 ≤ v.2.1 ∧ v.2.1 ≤ 10000) ∧ (0 ≤ v.2.2.1 ∧ v.2.2.1 < (K.length : Int))
theorem GoodG.toL {c : List Int} {K : List (List Int)} {L : List Ct} (G : GoodG c K L) : GoodL c.length K L := by
  have := okC_len G.hc
  exact ⟨by omega, by omega, G.hk, G.n, G.l, G.el⟩
theorem goodL {m : Int} {K : List (List Int)} {L : List Ct} (hr : RngC L) (h : okCuts L K = true) (h8 : inR m 8 360 = true) (h3 : onCt L m = true) : GoodL m.toNat K L := by
  simp only [okCuts, okCt, Bool.and_eq_true, inR_iff, decide_eq_true_eq, List.all_eq_true] at h h8
  obtain ⟨⟨a, b⟩, d, e⟩ := h
  refine ⟨by omega, by omega, b, a, d, fun v hv => ?_⟩
  have e1 := e v hv
  simp only [ctOk, Bool.and_eq_true, inR_iff] at e1
  rw [hr.i1 hv, hr.i2 hv, hr.i3 hv, wrap_id (by omega) (by omega)] at e1
  have e2 := List.all_eq_true.1 h3 v hv
  rw [hr.i1 hv] at e2
  have e2 : ¬ v.1 ≥ m := by simpa using e2
  omega
def kOf (K : List (List Int)) (v : Ct) : List Int := K.getD v.2.2.1.toNat []
def cut1 (K : List (List Int)) (v : Ct) (o : List Int) : List Int × Int := cutTo (kOf K v) v.1 v.2.1 o (kOf K v).length
def doS (K : List (List Int)) (q : List Int × Int) (v : Ct) : List Int × Int := ((cut1 K v q.1).1, q.2 + (cut1 K v q.1).2)
def doF (K : List (List Int)) (l : List Ct) (o : List Int) : List Int × Int := l.foldl (doS K) (o, 0)
theorem doF_snoc (K : List (List Int)) (a : List Ct) (v : Ct) (o : List Int) : doF K (a ++ [v]) o = ((cut1 K v (doF K a o).1).1, (doF K a o).2 + (cut1 K v (doF K a o).1).2) := by simp [doF, List.foldl_append, doS]
def idS (K : List (List Int)) (q : List Int × List Int × Int) (v : Ct) : List Int × List Int × Int := ((cut1 K v q.1).1, (if (cut1 K v q.1).2 = 0 then q.2.1 ++ [q.2.2] else q.2.1), q.2.2 + 1)
def idF (K : List (List Int)) (l : List Ct) (o : List Int) : List Int × List Int × Int := l.foldl (idS K) (o, [], 0)
theorem idF_snoc (K : List (List Int)) (a : List Ct) (v : Ct) (o : List Int) : idF K (a ++ [v]) o = idS K (idF K a o) v := by simp [idF, List.foldl_append]
structure Surf (m : Nat) (o : List Int) : Prop where
  len : o.length = m
  el : ∀ v ∈ o, 0 ≤ v ∧ v ≤ 10000
theorem cut1_surf {m : Nat} {K : List (List Int)} {L : List Ct} (hr : RngS K) (G : GoodL m K L) {v : Ct} (hv : v ∈ L) {o : List Int} (S : Surf m o) :
    Surf m (cut1 K v o).1 ∧ 0 ≤ (cut1 K v o).2 ∧ (cut1 K v o).2 ≤ 310000 ∧ ∀ p, p < m → g (cut1 K v o).1 p ≤ g o p := by
  obtain ⟨g1, g2, g3⟩ := G.el v hv
  obtain ⟨k, hk'⟩ := at_of (l := K) g3.1 g3.2
  have e : kOf K v = k := getD_at hk'
  have GK := (goodKs hr G.hk).el k hk'.mem
  have hhi := GK.hi
  have m0 := G.m0
  have hl := S.len
  unfold cut1
  rw [e]
  obtain ⟨b1, b2, b3⟩ := cutTo_bd k v.1 (tp := v.2.1) (o := o) (by omega) g2.1 (fun i hi => (GK.el i hi).1) S.el k.length (Nat.le_refl _)
  exact ⟨⟨by rw [cutTo_len, hl], b1⟩, b2, by omega, fun p hp => (cutTo_el k v.1 v.2.1 (o := o) (by omega) p (by omega) k.length).1⟩
theorem doS_surf {m : Nat} {K : List (List Int)} {L : List Ct} (hr : RngS K) (G : GoodL m K L) : ∀ (l : List Ct) (q : List Int × Int), (∀ v ∈ l, v ∈ L) → Surf m q.1 → 0 ≤ q.2 →
    Surf m (l.foldl (doS K) q).1 ∧ 0 ≤ (l.foldl (doS K) q).2 ∧ (l.foldl (doS K) q).2 ≤ q.2 + 310000 * l.length ∧ ∀ p, p < m → g (l.foldl (doS K) q).1 p ≤ g q.1 p
  | [], q, _, S, h => ⟨S, h, by simp, fun _ _ => Int.le_refl _⟩
  | v :: l, q, hl, S, h => by
    obtain ⟨a1, a2, a3, a4⟩ := cut1_surf hr G (hl v (by simp)) S
    obtain ⟨b1, b2, b3, b4⟩ := doS_surf hr G l (doS K q v) (fun u hu => hl u (by simp [hu])) a1 (by simp only [doS]; omega)
    simp only [doS] at b3
    refine ⟨b1, b2, ?_, fun p hp => Int.le_trans (b4 p hp) (a4 p hp)⟩
    simp only [List.foldl_cons, List.length_cons]
    simp only [doS] at b3 ⊢
    omega
theorem doF_surf {m : Nat} {K : List (List Int)} {L : List Ct} (hr : RngS K) (G : GoodL m K L) {o : List Int} (S : Surf m o) (i : Nat) :
    Surf m (doF K (L.take i) o).1 ∧ 0 ≤ (doF K (L.take i) o).2 ∧ (doF K (L.take i) o).2 ≤ 124000000 ∧ ∀ p, p < m → g (doF K (L.take i) o).1 p ≤ g o p := by
  obtain ⟨a, b, c, d⟩ := doS_surf hr G (L.take i) (o, 0) (fun v hv => List.mem_of_mem_take hv) S (Int.le_refl _)
  have := G.l
  have h2 : ((L.take i).length : Int) ≤ 400 := by rw [List.length_take]; omega
  exact ⟨a, b, by unfold doF; simp only at c; omega, d⟩
theorem idS_surf {m : Nat} {K : List (List Int)} {L : List Ct} (hr : RngS K) (G : GoodL m K L) : ∀ (l : List Ct) (q : List Int × List Int × Int), (∀ v ∈ l, v ∈ L) → Surf m q.1 →
    Surf m (l.foldl (idS K) q).1 ∧ ((l.foldl (idS K) q).2.1.length : Int) ≤ q.2.1.length + l.length ∧ (l.foldl (idS K) q).2.2 = q.2.2 + l.length
  | [], q, _, S => ⟨S, by simp, by simp⟩
  | v :: l, q, hl, S => by
    obtain ⟨a1, a2, a3, a4⟩ := cut1_surf hr G (hl v (by simp)) S
    obtain ⟨b1, b2, b3⟩ := idS_surf hr G l (idS K q v) (fun u hu => hl u (by simp [hu])) a1
    refine ⟨b1, ?_, ?_⟩
    · have : ((idS K q v).2.1.length : Int) ≤ q.2.1.length + 1 := by
        simp only [idS]
        split
        · simp
        · omega
      simp only [List.foldl_cons, List.length_cons]
      omega
    · simp only [List.foldl_cons, List.length_cons]
      rw [b3]
      simp only [idS]
      omega
theorem idF_surf {m : Nat} {K : List (List Int)} {L : List Ct} (hr : RngS K) (G : GoodL m K L) {o : List Int} (S : Surf m o) {i : Nat} (hi : i ≤ L.length) :
    Surf m (idF K (L.take i) o).1 ∧ ((idF K (L.take i) o).2.1.length : Int) ≤ i ∧ (idF K (L.take i) o).2.2 = i := by
  obtain ⟨a, b, c⟩ := idS_surf hr G (L.take i) (o, [], 0) (fun v hv => List.mem_of_mem_take hv) S
  have e : (L.take i).length = i := by rw [List.length_take]; omega
  rw [e] at b c
  exact ⟨a, by unfold idF; simpa using b, by unfold idF; simpa using c⟩
theorem flat_surf {m : Nat} {x : Int} (h : inR x 0 10000 = true) : Surf m (List.replicate m x) := ⟨by simp, fun v hv => by rw [(List.mem_replicate.1 hv).2]; exact inR_iff.1 h⟩
theorem okC_surf {c : List Int} (hr : Rng c) (h : okC c = true) : Surf c.length c := ⟨rfl, okC_el h hr⟩
abbrev DoR : Type := List Int × (Int × (Int × Unit))
def doR (c : List Int) (K : List (List Int)) (L : List Ct) : DoR := if gvCode c K L ≠ 0 then ([], 0, gvCode c K L, ()) else ((doF K L c).1, (doF K L c).2, 0, ())
theorem doR_len {c : List Int} {K : List (List Int)} {L : List Ct} (hc : Rng c) (hk : RngS K) (hr : RngC L) : ((doR c K L).1.length : Int) ≤ 360 := by
  unfold doR
  split
  · simp
  · rename_i h
    have G := goodG hr (by simpa using h)
    obtain ⟨S, _⟩ := doF_surf hk G.toL (okC_surf hc G.hc) L.length
    rw [List.take_length] at S
    have := okC_len G.hc
    rw [S.len]; omega
def idR (x n : Int) (K : List (List Int)) (L : List Ct) : List Int × (Int × Unit) := if okCuts L K = true then (if (inR n 8 360 && inR x 0 10000 && onCt L n) = true then ((idF K L (List.replicate n.toNat x)).2.1, 0, ()) else ([], 2, ())) else ([], 1, ())
theorem idR_len {x n : Int} {K : List (List Int)} {L : List Ct} (hk : RngS K) (hr : RngC L) : ((idR x n K L).1.length : Int) ≤ 400 := by
  unfold idR
  split
  · rename_i h1
    split
    · rename_i h2
      simp only [Bool.and_eq_true] at h2
      have G := goodL hr h1 h2.1.1 h2.2
      obtain ⟨_, h, _⟩ := idF_surf hk G (flat_surf h2.1.2) (Nat.le_refl L.length)
      rw [List.take_length] at h
      have := G.l
      simp only
      omega
    · simp
  · simp
def notOver (d l : List Int) : Bool := allTo (fun i => !decide (g d i > g l i)) d.length
def cpCode (c : List Int) (x : Int) (K : List (List Int)) (L : List Ct) : Int := if gvCode c K L ≠ 0 then gvCode c K L else if inR x 0 10000 = true then (if mxL c > x then 4 else 0) else 2
def cpR (c : List Int) (x : Int) (K : List (List Int)) (L : List Ct) : Bool × (Int × Unit) :=
  if cpCode c x K L ≠ 0 then (false, cpCode c x K L, ()) else if fi (deepF c K) L 0 ≥ 0 then (false, 0, ()) else (notOver (doF K L (List.replicate c.length x)).1 (leftL c (K.getD (bkTo c K K.length).1.toNat [])), 0, ())
theorem bkTo_in (c : List Int) (K : List (List Int)) : ∀ i, 0 < i → 0 ≤ (bkTo c K i).1 ∧ (bkTo c K i).1 < (i : Int)
  | 0, h => absurd h (by omega)
  | i + 1, _ => by
    rw [bkTo_succ]
    split
    · simp only; omega
    · rename_i h
      by_cases h0 : i = 0
      · subst h0
        simp [bkTo] at h ⊢
        try omega
      · have := bkTo_in c K i (by omega)
        omega
theorem mxL_bd {c : List Int} (hr : Rng c) (h : okC c = true) : 0 ≤ mxL c ∧ mxL c ≤ 10000 := by
  have hl := okC_len h
  have hm := okC_el h hr
  obtain ⟨v0, hv0⟩ := at_of (l := c) (Int.le_refl 0) (by omega)
  have hv := hm v0 hv0.mem
  have l1 := (mxF_ge c v0).1
  have l2 := mxF_le c v0 10000 hv.2 (fun v hv => (hm v hv).2)
  have e : mxL c = mxF c v0 := by unfold mxL; rw [(head_at hv0).1]
  rw [e]; omega
theorem leftL_bd {c k : List Int} (hc : 0 < c.length) (hC : ∀ v ∈ c, 0 ≤ v ∧ v ≤ 10000) (G : GoodK k) : ∀ v ∈ leftL c k, 0 ≤ v ∧ v ≤ 10000 := leftTo_bd hc hC G _
theorem g_flat (m : Nat) (x : Int) {p : Nat} (h : p < m) : g (List.replicate m x) p = x := by
  unfold g
  rw [List.getD_eq_getElem?_getD, List.getElem?_replicate, if_pos h]; rfl
def cpT (c : List Int) (x : Int) (K : List (List Int)) (L : List Ct) : Bool × (Int × Unit) := if fi (deepF c K) L 0 ≥ 0 then (false, 0, ()) else (notOver (doF K L (List.replicate c.length x)).1 (leftL c (K.getD (bkTo c K K.length).1.toNat [])), 0, ())
theorem cpR_ok {c : List Int} {x : Int} {K : List (List Int)} {L : List Ct} (h : cpCode c x K L = 0) : cpR c x K L = cpT c x K L := by
  unfold cpR cpT
  rw [h]
  rfl
theorem cpR_bad {c : List Int} {x : Int} {K : List (List Int)} {L : List Ct} {r : Int} (h : cpCode c x K L = r) (hr : r ≠ 0) : cpR c x K L = (false, r, ()) := by
  unfold cpR
  rw [h, if_pos hr]
end Go.Cams

/- The number of bits of a word, in plain terms. -/
namespace Go.Cams
open Go Go.Fw
/-- The set bits among the first k. -/
def bct (x : Nat) : Nat → Nat
  | 0 => 0
  | k + 1 => bct x k + x / 2 ^ k % 2
theorem bct_le (x : Nat) : ∀ k, bct x k ≤ k
  | 0 => Nat.le_refl _
  | k + 1 => by have := bct_le x k; have := Nat.mod_lt (x / 2 ^ k) (show 0 < 2 by omega); simp only [bct]; omega
theorem bct_split (x : Nat) : ∀ k, bct x (8 + k) = bct (x % 256) 8 + bct (x / 256) k
  | 0 => by simp only [bct, Nat.add_zero]; omega
  | k + 1 => by
    have h := bct_split x k
    have e : x / 256 / 2 ^ k = x / 2 ^ (8 + k) := by rw [Nat.div_div_eq_div_mul, Nat.pow_add]
    show bct x (8 + k) + x / 2 ^ (8 + k) % 2 = bct (x % 256) 8 + (bct (x / 256) k + x / 256 / 2 ^ k % 2)
    rw [h, e]; omega
def msk (c : Nat) : Nat → Nat
  | 0 => 0
  | n + 1 => 256 * msk c n + c
theorem and_split {q a m c : Nat} (ha : a < 256) (hc : c < 256) : (256 * q + a) &&& (256 * m + c) = 256 * (q &&& m) + (a &&& c) := by
  have h1 := @Nat.and_mod_two_pow (256 * q + a) (256 * m + c) 8
  have h2 := @Nat.and_div_two_pow (256 * q + a) (256 * m + c) 8
  rw [show (256 * q + a) % 2 ^ 8 = a by omega, show (256 * m + c) % 2 ^ 8 = c by omega] at h1
  rw [show (256 * q + a) / 2 ^ 8 = q by omega, show (256 * m + c) / 2 ^ 8 = m by omega] at h2
  omega
def st1 (n x : Nat) : Nat := (x / 2 &&& msk 85 n) + (x &&& msk 85 n)
def st2 (n x : Nat) : Nat := (x / 4 &&& msk 51 n) + (x &&& msk 51 n)
def st3 (n x : Nat) : Nat := (x / 16 + x) &&& msk 15 n
def b1 (a : Nat) : Nat := (a / 2 &&& 85) + (a &&& 85)
def b2 (a : Nat) : Nat := (a / 4 &&& 51) + (a &&& 51)
def b3 (a : Nat) : Nat := (a / 16 + a) &&& 15
theorem bytes1 : (List.range 256).all (fun a => (decide (b1 a < 256) && decide ((128 + a / 2) &&& 85 = a / 2 &&& 85)) && (decide (b2 (b1 a) % 16 ≤ 4) && decide (b2 (b1 a) / 16 ≤ 4)) && decide (b3 (b2 (b1 a)) = bct a 8)) = true := by decide +kernel
theorem bytes2 : (List.range 256).all (fun a => (List.range 4).all fun r => decide ((64 * r + a / 4) &&& 51 = a / 4 &&& 51)) = true := by decide +kernel
theorem bytes3 : (List.range 256).all (fun a => (List.range 16).all fun r => decide ((16 * r + a) &&& 15 = a &&& 15)) = true := by decide +kernel
theorem byte1 {a : Nat} (h : a < 256) : b1 a < 256 ∧ (128 + a / 2) &&& 85 = a / 2 &&& 85 ∧ b2 (b1 a) % 16 ≤ 4 ∧ b2 (b1 a) / 16 ≤ 4 ∧ b3 (b2 (b1 a)) = bct a 8 := by
  have := List.all_eq_true.1 bytes1 a (List.mem_range.2 h)
  simp only [Bool.and_eq_true, decide_eq_true_eq] at this
  obtain ⟨⟨⟨c1, c2⟩, c3, c4⟩, c5⟩ := this
  exact ⟨c1, c2, c3, c4, c5⟩
theorem byte2 {a r : Nat} (h : a < 256) (hr : r < 4) : (64 * r + a / 4) &&& 51 = a / 4 &&& 51 := by
  have := List.all_eq_true.1 (List.all_eq_true.1 bytes2 a (List.mem_range.2 h)) r (List.mem_range.2 hr)
  simpa using this
theorem st1_step (n q : Nat) {a : Nat} (h : a < 256) : st1 (n + 1) (256 * q + a) = 256 * st1 n q + b1 a := by
  obtain ⟨c1, c2, _⟩ := byte1 h
  unfold st1 b1
  simp only [msk]
  rw [show (256 * q + a) / 2 = 256 * (q / 2) + (128 * (q % 2) + a / 2) by omega, and_split (by omega) (by omega), and_split h (by omega)]
  have : (128 * (q % 2) + a / 2) &&& 85 = a / 2 &&& 85 := by
    rcases Nat.mod_two_eq_zero_or_one q with e | e
    · rw [e]; simp
    · rw [e]; exact c2
  rw [this]; omega
theorem st2_step (n q : Nat) {a : Nat} (h : a < 256) : st2 (n + 1) (256 * q + a) = 256 * st2 n q + b2 a := by
  unfold st2 b2
  simp only [msk]
  rw [show (256 * q + a) / 4 = 256 * (q / 4) + (64 * (q % 4) + a / 4) by omega, and_split (by omega) (by omega), and_split h (by omega), byte2 h (Nat.mod_lt _ (by omega))]
  omega
theorem low4 : ∀ (n q : Nat), q < 256 ^ n → st2 n (st1 n q) % 16 ≤ 4
  | 0, q, h => by
    have : q = 0 := by simpa using h
    subst this
    decide
  | n + 1, q, h => by
    have h1 := Nat.mod_lt q (show 0 < 256 by omega)
    obtain ⟨c1, _, c3, _⟩ := byte1 h1
    have e : q = 256 * (q / 256) + q % 256 := by omega
    rw [e, st1_step _ _ h1, st2_step _ _ c1]
    omega
def ps (x : Nat) : Nat → Nat
  | 0 => 0
  | n + 1 => 256 * ps (x / 256) n + bct (x % 256) 8
theorem st_ps : ∀ (n x : Nat), x < 256 ^ n → st3 n (st2 n (st1 n x)) = ps x n
  | 0, x, h => by
    have : x = 0 := by simpa using h
    subst this
    decide
  | n + 1, x, h => by
    have h1 := Nat.mod_lt x (show 0 < 256 by omega)
    obtain ⟨c1, _, c3, c4, c5⟩ := byte1 h1
    have hq : x / 256 < 256 ^ n := by rw [Nat.pow_succ] at h; omega
    have hl := low4 n _ hq
    have ih := st_ps n _ hq
    have e : x = 256 * (x / 256) + x % 256 := by omega
    rw [show st1 (n + 1) x = 256 * st1 n (x / 256) + b1 (x % 256) by rw [← st1_step _ _ h1, ← e], st2_step _ _ c1]
    obtain ⟨u, hu⟩ : ∃ u, u = st2 n (st1 n (x / 256)) := ⟨_, rfl⟩
    obtain ⟨v, hv⟩ : ∃ v, v = b2 (b1 (x % 256)) := ⟨_, rfl⟩
    rw [← hu] at hl ih ⊢
    rw [← hv] at c3 c4 c5 ⊢
    unfold st3 at ih ⊢
    simp only [msk, ps]
    rw [show (256 * u + v) / 16 + (256 * u + v) = 256 * (u / 16 + u) + (16 * (u % 16) + (v / 16 + v)) by omega, and_split (by omega) (by omega), ih]
    have h3 : (16 * (u % 16) + (v / 16 + v)) &&& 15 = (v / 16 + v) &&& 15 := by
      have := List.all_eq_true.1 (List.all_eq_true.1 bytes3 (v / 16 + v) (List.mem_range.2 (by omega))) (u % 16) (List.mem_range.2 (by omega))
      simpa using this
    rw [h3]
    unfold b3 at c5
    rw [c5]
theorem msk_55 : msk 85 8 = 6148914691236517205 := by decide
theorem msk_33 : msk 51 8 = 3689348814741910323 := by decide
theorem msk_0f : msk 15 8 = 1085102592571150095 := by decide
theorem bct_last (x : Nat) : bct x 8 = bct (x % 256) 8 := bct_split x 0
theorem ps_le (x : Nat) (n : Nat) : bct (x % 256) 8 ≤ 8 := bct_le _ 8
theorem step_pair {Y0 Y1 Y2 p q : Nat} (h0 : Y0 = 256 * Y1 + p) (h1 : Y1 = 256 * Y2 + q) : Y0 = 65536 * Y2 + (256 * q + p) := by omega
theorem half1 {x A p : Nat} (h : x = 256 * A + p) (hp : p ≤ 8) : x / 256 = A := by omega
theorem half2 {y Y a : Nat} (h : y = 65536 * Y + a) (ha : a < 65536) : y / 65536 = Y := by omega
theorem half3 {z Z a : Nat} (h : z = 4294967296 * Z + a) (ha : a < 4294967296) : z / 4294967296 = Z := by omega
/-- The bytes' sums are folded into the lowest. -/
theorem fold_ps (x : Nat) : ∃ y z t, y = ps x 8 + ps x 8 / 256 ∧ z = y + y / 65536 ∧ t = z + z / 4294967296 ∧ ps x 8 < 18446744073709551616 ∧ y < 18446744073709551616 ∧ z < 18446744073709551616 ∧ t < 9223372036854775808 ∧ t % 128 = bct x 64 := by
  have l := fun y => ps_le y 8
  have A0 : ps x 8 = 256 * ps (x / 256) 7 + bct (x % 256) 8 := rfl
  have c0 : bct x 64 = bct (x % 256) 8 + bct (x / 256) 56 := bct_split x 56
  obtain ⟨x1, e1⟩ : ∃ x1, x1 = x / 256 := ⟨_, rfl⟩
  rw [← e1] at A0 c0
  have A1 : ps x1 7 = 256 * ps (x1 / 256) 6 + bct (x1 % 256) 8 := rfl
  have c1 : bct x1 56 = bct (x1 % 256) 8 + bct (x1 / 256) 48 := bct_split x1 48
  obtain ⟨x2, e2⟩ : ∃ x2, x2 = x1 / 256 := ⟨_, rfl⟩
  rw [← e2] at A1 c1
  have A2 : ps x2 6 = 256 * ps (x2 / 256) 5 + bct (x2 % 256) 8 := rfl
  have c2 : bct x2 48 = bct (x2 % 256) 8 + bct (x2 / 256) 40 := bct_split x2 40
  obtain ⟨x3, e3⟩ : ∃ x3, x3 = x2 / 256 := ⟨_, rfl⟩
  rw [← e3] at A2 c2
  have A3 : ps x3 5 = 256 * ps (x3 / 256) 4 + bct (x3 % 256) 8 := rfl
  have c3 : bct x3 40 = bct (x3 % 256) 8 + bct (x3 / 256) 32 := bct_split x3 32
  obtain ⟨x4, e4⟩ : ∃ x4, x4 = x3 / 256 := ⟨_, rfl⟩
  rw [← e4] at A3 c3
  have A4 : ps x4 4 = 256 * ps (x4 / 256) 3 + bct (x4 % 256) 8 := rfl
  have c4 : bct x4 32 = bct (x4 % 256) 8 + bct (x4 / 256) 24 := bct_split x4 24
  obtain ⟨x5, e5⟩ : ∃ x5, x5 = x4 / 256 := ⟨_, rfl⟩
  rw [← e5] at A4 c4
  have A5 : ps x5 3 = 256 * ps (x5 / 256) 2 + bct (x5 % 256) 8 := rfl
  have c5 : bct x5 24 = bct (x5 % 256) 8 + bct (x5 / 256) 16 := bct_split x5 16
  obtain ⟨x6, e6⟩ : ∃ x6, x6 = x5 / 256 := ⟨_, rfl⟩
  rw [← e6] at A5 c5
  have A6 : ps x6 2 = 256 * ps (x6 / 256) 1 + bct (x6 % 256) 8 := rfl
  have c6 : bct x6 16 = bct (x6 % 256) 8 + bct (x6 / 256) 8 := bct_split x6 8
  obtain ⟨x7, e7⟩ : ∃ x7, x7 = x6 / 256 := ⟨_, rfl⟩
  rw [← e7] at A6 c6
  have A7 : ps x7 1 = bct (x7 % 256) 8 := by show 256 * 0 + _ = _; omega
  have c7 : bct x7 8 = bct (x7 % 256) 8 := bct_last x7
  have l0 := l x; have l1 := l x1; have l2 := l x2; have l3 := l x3; have l4 := l x4; have l5 := l x5; have l6 := l x6; have l7 := l x7
  generalize bct (x % 256) 8 = p0 at *
  generalize bct (x1 % 256) 8 = p1 at *
  generalize bct (x2 % 256) 8 = p2 at *
  generalize bct (x3 % 256) 8 = p3 at *
  generalize bct (x4 % 256) 8 = p4 at *
  generalize bct (x5 % 256) 8 = p5 at *
  generalize bct (x6 % 256) 8 = p6 at *
  generalize bct (x7 % 256) 8 = p7 at *
  generalize ps x 8 = B0 at *
  generalize ps x1 7 = B1 at *
  generalize ps x2 6 = B2 at *
  generalize ps x3 5 = B3 at *
  generalize ps x4 4 = B4 at *
  generalize ps x5 3 = B5 at *
  generalize ps x6 2 = B6 at *
  generalize ps x7 1 = B7 at *
  have hc : bct x 64 = p0 + (p1 + (p2 + (p3 + (p4 + (p5 + (p6 + p7)))))) := by rw [c0, c1, c2, c3, c4, c5, c6, c7]
  clear c0 c1 c2 c3 c4 c5 c6 c7 e1 e2 e3 e4 e5 e6 e7 l
  have hy : B0 / 256 = B1 := half1 A0 l0
  have Y0 : B0 + B1 = 256 * (B1 + B2) + (p0 + p1) := by omega
  have Y1 : B1 + B2 = 256 * (B2 + B3) + (p1 + p2) := by omega
  have Y2 : B2 + B3 = 256 * (B3 + B4) + (p2 + p3) := by omega
  have Y3 : B3 + B4 = 256 * (B4 + B5) + (p3 + p4) := by omega
  have Y4 : B4 + B5 = 256 * (B5 + B6) + (p4 + p5) := by omega
  have Y5 : B5 + B6 = 256 * (B6 + B7) + (p5 + p6) := by omega
  have Y6 : B6 + B7 = 256 * p7 + (p6 + p7) := by omega
  have a0 := step_pair Y0 Y1
  have a2 := step_pair Y2 Y3
  have a4 := step_pair Y4 Y5
  clear Y0 Y1 Y2 Y3 Y4 Y5 A1 A2 A3 A4 A5 A6 A7
  generalize B2 + B3 = S2 at *
  generalize B4 + B5 = S4 at *
  generalize B6 + B7 = S6 at *
  have hB : B0 ≤ B0 + B1 := by omega
  obtain ⟨y, ey⟩ : ∃ y, y = B0 + B1 := ⟨_, rfl⟩
  rw [← ey] at a0 hB
  have q0 : 256 * (p1 + p2) + (p0 + p1) < 8192 := by omega
  have q2 : 256 * (p3 + p4) + (p2 + p3) < 8192 := by omega
  have q4 : 256 * (p5 + p6) + (p4 + p5) < 8192 := by omega
  have q6 : S6 < 8192 := by omega
  have sum : 256 * (p1 + p2) + (p0 + p1) + (256 * (p3 + p4) + (p2 + p3)) + (256 * (p5 + p6) + (p4 + p5)) + S6 = 256 * (p1 + p2 + p3 + p4 + p5 + p6 + p7) + bct x 64 := by omega
  have hle : bct x 64 ≤ 64 := bct_le x 64
  generalize bct x 64 = P at *
  generalize p1 + p2 + p3 + p4 + p5 + p6 + p7 = R at *
  generalize 256 * (p1 + p2) + (p0 + p1) = r0 at *
  generalize 256 * (p3 + p4) + (p2 + p3) = r2 at *
  generalize 256 * (p5 + p6) + (p4 + p5) = r4 at *
  clear Y6 hc
  have hz : y / 65536 = S2 := half2 a0 (by omega)
  have z1 : y + S2 = 4294967296 * (S4 + S6) + (65536 * (r2 + r4) + (r0 + r2)) := by omega
  have ht : (y + S2) / 4294967296 = S4 + S6 := half3 z1 (by omega)
  have s4 : S4 < 536870912 := by omega
  have s2 : S2 < 35184372088832 := by omega
  have sy : y < 2305843009213693952 := by omega
  refine ⟨y, y + S2, y + S2 + (S4 + S6), by rw [hy, ey], by rw [hz], by rw [ht], by omega, by omega, by omega, by omega, ?_⟩
  have t1 : y + S2 + (S4 + S6) = 65536 * (65536 * (S4 + S6) + (r2 + r4) + S6) + (r0 + r2 + r4 + S6) := by omega
  omega
theorem and_i64 {a : Nat} (h : a < 9223372036854775808) : bitsI .and .i64 (a : Int) (127 : Int) = ((a % 128 : Nat) : Int) := by
  have e : bitsI .and .i64 (a : Int) (127 : Int) = wr .i64 ((BitVec.ofInt 64 (a : Int) &&& BitVec.ofInt 64 ((127 : Nat) : Int)).toNat : Int) := rfl
  rw [e, BitVec.toNat_and, ofInt_nat (by omega), ofInt_nat (by omega), show (127 : Nat) = 2 ^ 7 - 1 from rfl, Nat.and_two_pow_sub_one_eq_mod]
  exact wrap_id (by omega) (by omega)
theorem pop_swar {x : Nat} (hx : x < 18446744073709551616) {f : Int → Int} (hf : f = fun a => bitsI .and .i64 (wr .i64 a) (127 : Int)) :
    let x1 := wr .u64 ((bitsI .and .u64 (shr_ .u64 (x : Int) (1 : Int)) (6148914691236517205 : Int)) + (bitsI .and .u64 (x : Int) (6148914691236517205 : Int)))
    let x2 := wr .u64 ((bitsI .and .u64 (shr_ .u64 x1 (2 : Int)) (3689348814741910323 : Int)) + (bitsI .and .u64 x1 (3689348814741910323 : Int)))
    let x3 := bitsI .and .u64 (wr .u64 ((shr_ .u64 x2 (4 : Int)) + x2)) (1085102592571150095 : Int)
    let x4 := wr .u64 (x3 + shr_ .u64 x3 (8 : Int))
    let x5 := wr .u64 (x4 + shr_ .u64 x4 (16 : Int))
    let x6 := wr .u64 (x5 + shr_ .u64 x5 (32 : Int))
    f x6 = ((bct x 64 : Nat) : Int) := by
  intro x1 x2 x3 x4 x5 x6
  obtain ⟨y, z, t, hy, hz, ht, c0, c1, c2, c3, e⟩ := fold_ps x
  have S := st_ps 8 x hx
  have e1 : x1 = ((st1 8 x : Nat) : Int) := by
    show wr .u64 ((bitsI .and .u64 (shr_ .u64 (x : Int) ((1 : Nat) : Int)) ((6148914691236517205 : Nat) : Int)) + (bitsI .and .u64 (x : Int) ((6148914691236517205 : Nat) : Int))) = _
    rw [shr_nat (by omega), and_nat (by omega) (by omega), and_nat hx (by omega), ← msk_55]
    have h1 := Nat.and_le_right (n := x / 2 ^ 1) (m := msk 85 8)
    have h2 := Nat.and_le_right (n := x) (m := msk 85 8)
    have h3 := msk_55
    unfold st1
    rw [wrU (by omega) (by omega)]
    simp
  have d1 : st1 8 x ≤ 12297829382473034410 := by
    have h1 := Nat.and_le_right (n := x / 2) (m := msk 85 8)
    have h2 := Nat.and_le_right (n := x) (m := msk 85 8)
    have h3 := msk_55
    unfold st1; omega
  have e2 : x2 = ((st2 8 (st1 8 x) : Nat) : Int) := by
    show wr .u64 ((bitsI .and .u64 (shr_ .u64 x1 ((2 : Nat) : Int)) ((3689348814741910323 : Nat) : Int)) + (bitsI .and .u64 x1 ((3689348814741910323 : Nat) : Int))) = _
    rw [e1]
    generalize st1 8 x = u at *
    rw [shr_nat (by omega), and_nat (by omega) (by omega), and_nat (by omega) (by omega), ← msk_33]
    have h1 := Nat.and_le_right (n := u / 2 ^ 2) (m := msk 51 8)
    have h2 := Nat.and_le_right (n := u) (m := msk 51 8)
    have h3 := msk_33
    unfold st2
    rw [wrU (by omega) (by omega)]
    simp
  have d2 : st2 8 (st1 8 x) ≤ 7378697629483820646 := by
    have h1 := Nat.and_le_right (n := st1 8 x / 4) (m := msk 51 8)
    have h2 := Nat.and_le_right (n := st1 8 x) (m := msk 51 8)
    have h3 := msk_33
    unfold st2; omega
  have e3 : x3 = ((ps x 8 : Nat) : Int) := by
    rw [← S]
    show bitsI .and .u64 (wr .u64 ((shr_ .u64 x2 ((4 : Nat) : Int)) + x2)) ((1085102592571150095 : Nat) : Int) = _
    rw [e2]
    generalize st2 8 (st1 8 x) = u at *
    rw [shr_nat (by omega), wrU (by omega) (by omega), ← Int.natCast_add, and_nat (by omega) (by omega), ← msk_0f]
    rfl
  have e4 : x4 = (y : Int) := by
    show wr .u64 (x3 + shr_ .u64 x3 ((8 : Nat) : Int)) = _
    rw [e3]
    generalize ps x 8 = u at *
    rw [shr_nat (by omega), ← Int.natCast_add, show u + u / 2 ^ 8 = y by omega]
    exact wrU (by omega) (by omega)
  have e5 : x5 = (z : Int) := by
    show wr .u64 (x4 + shr_ .u64 x4 ((16 : Nat) : Int)) = _
    rw [e4, shr_nat (by omega), ← Int.natCast_add, show y + y / 2 ^ 16 = z by omega]
    exact wrU (by omega) (by omega)
  have e6 : x6 = (t : Int) := by
    show wr .u64 (x5 + shr_ .u64 x5 ((32 : Nat) : Int)) = _
    rw [e5, shr_nat (by omega), ← Int.natCast_add, show z + z / 2 ^ 32 = t by omega]
    exact wrU (by omega) (by omega)
  rw [e6, hf]
  show bitsI .and .i64 (wr .i64 (t : Int)) (127 : Int) = _
  rw [wrap_id (x := (t : Int)) (by omega) (by omega), and_i64 c3, e]
end Go.Cams

/- Two plates compared, in plain terms. -/
namespace Go.Cams
open Go Go.Fw
abbrev W64 (l : List Int) : Prop := ∀ v ∈ l, 0 ≤ v ∧ v < 18446744073709551616
theorem wrap_u64 (x : Int) : 0 ≤ wr .u64 x ∧ wr .u64 x < 18446744073709551616 := by
  show 0 ≤ IntKind.u64.wrap x ∧ IntKind.u64.wrap x < _
  simp [IntKind.wrap, IntKind.signed, IntKind.bits]; omega
theorem inkP_el {p : List Int} (h : W64 p) (m : Mk) : W64 (inkP p m) := fun v hv => by
  rcases List.mem_or_eq_of_mem_set hv with hv | hv
  · exact h v hv
  · rw [hv]; exact wrap_u64 _
theorem inkL_el : ∀ (l : List Mk) {p : List Int}, W64 p → W64 (inkL p l)
  | [], _, h => h
  | m :: l, _, h => inkL_el l (inkP_el h m)
theorem drawTo_el (m : Mch) : ∀ i, W64 (drawTo m i)
  | 0 => fun v hv => by rw [(List.mem_replicate.1 hv).2]; omega
  | i + 1 => by
    unfold drawTo
    split
    · split
      · exact inkL_el _ (inkP_el (drawTo_el m i) _)
      · exact inkP_el (drawTo_el m i) _
    · exact drawTo_el m i
/-- The bits of a row in which two plates differ. -/
def dif (p d : List Int) (y : Nat) : Nat := (g p y).toNat ^^^ (g d y).toNat
theorem dif_lt {p d : List Int} (hp : W64 p) (hd : W64 d) (lp : p.length = 64) (ld : d.length = 64) {y : Nat} (h : y < 64) : dif p d y < 18446744073709551616 := by
  have h1 := hp _ (g_mem (l := p) (i := y) (by omega))
  have h2 := hd _ (g_mem (l := d) (i := y) (by omega))
  have : (g p y).toNat ^^^ (g d y).toNat < 2 ^ 64 := Nat.xor_lt_two_pow (by omega) (by omega)
  unfold dif; omega
theorem dif_xor {p d : List Int} (hp : W64 p) (hd : W64 d) (lp : p.length = 64) (ld : d.length = 64) {y : Nat} (h : y < 64) : bitsI .xor .u64 (g p y) (g d y) = ((dif p d y : Nat) : Int) ∧ bitsI .xor .u64 (g d y) (g p y) = ((dif p d y : Nat) : Int) := by
  have h1 := hp _ (g_mem (l := p) (i := y) (by omega))
  have h2 := hd _ (g_mem (l := d) (i := y) (by omega))
  have e1 : g p y = (((g p y).toNat : Nat) : Int) := by omega
  have e2 : g d y = (((g d y).toNat : Nat) : Int) := by omega
  refine ⟨?_, ?_⟩
  · rw [e1, e2, xor_nat (by omega) (by omega)]; unfold dif; simp only [Int.toNat_natCast]
  · rw [e1, e2, xor_nat (by omega) (by omega), Nat.xor_comm]; unfold dif; simp only [Int.toNat_natCast]
/-- What is counted of a row: how many, and the first of all. -/
def rowS (w y : Nat) (s : Nat × List Int) : Nat → Nat × List Int
  | 0 => s
  | x + 1 => if w / 2 ^ x % 2 = 0 then rowS w y s x else ((rowS w y s x).1 + 1, if (rowS w y s x).1 = 0 then [(x : Int), (y : Int)] else (rowS w y s x).2)
def allS (W : Nat → Nat) : Nat → Nat × List Int
  | 0 => (0, [0, 0])
  | y + 1 => rowS (W y) y (allS W y) 64
theorem rowS_cnt (w y : Nat) (s : Nat × List Int) : ∀ x, (rowS w y s x).1 = s.1 + bct w x
  | 0 => rfl
  | x + 1 => by
    have := rowS_cnt w y s x
    unfold rowS bct
    split
    · omega
    · simp only; omega
def tot (W : Nat → Nat) : Nat → Nat
  | 0 => 0
  | y + 1 => tot W y + bct (W y) 64
theorem allS_cnt (W : Nat → Nat) : ∀ y, (allS W y).1 = tot W y
  | 0 => rfl
  | y + 1 => by unfold allS tot; rw [rowS_cnt, allS_cnt W y]
theorem tot_le (W : Nat → Nat) : ∀ y, tot W y ≤ 64 * y
  | 0 => Nat.le_refl _
  | y + 1 => by have := tot_le W y; have := bct_le (W y) 64; unfold tot; omega
theorem rowS_keep (w y : Nat) (s : Nat × List Int) (h : s.1 ≠ 0) : ∀ x, (rowS w y s x).2 = s.2
  | 0 => rfl
  | x + 1 => by
    have h1 := rowS_keep w y s h x
    have h2 := rowS_cnt w y s x
    unfold rowS
    split
    · exact h1
    · rw [if_neg (by omega)]; exact h1
theorem rowS_zero (y : Nat) (s : Nat × List Int) : ∀ x, rowS 0 y s x = s
  | 0 => rfl
  | x + 1 => by unfold rowS; rw [if_pos (by simp)]; exact rowS_zero y s x
theorem bit_mod (w x : Nat) : w.testBit x = true ↔ ¬ w / 2 ^ x % 2 = 0 := by
  rw [Nat.testBit_eq_decide_div_mod_eq, decide_eq_true_eq]; omega
theorem rowS_first {w y z : Nat} {f : List Int} (h1 : w.testBit z = true) (h2 : ∀ u, u < z → w.testBit u = false) : ∀ x, (x ≤ z → rowS w y (0, f) x = (0, f)) ∧ (z < x → (rowS w y (0, f) x).2 = [(z : Int), (y : Int)] ∧ (rowS w y (0, f) x).1 ≠ 0)
  | 0 => ⟨fun _ => rfl, fun h => absurd h (by omega)⟩
  | x + 1 => by
    obtain ⟨a, b⟩ := rowS_first (y := y) (f := f) h1 h2 x
    refine ⟨fun h => ?_, fun h => ?_⟩
    · have h3 := h2 x (by omega)
      have : w / 2 ^ x % 2 = 0 := Decidable.byContradiction fun hn => by rw [(bit_mod w x).2 hn] at h3; cases h3
      unfold rowS
      rw [if_pos this, a (by omega)]
    · by_cases e : x = z
      · subst e
        unfold rowS
        rw [if_neg ((bit_mod w x).1 h1), a (Nat.le_refl _)]
        simp
      · obtain ⟨b1, b2⟩ := b (by omega)
        unfold rowS
        split
        · exact ⟨b1, b2⟩
        · simp only
          exact ⟨b1, by omega⟩
theorem allS_none {W : Nat → Nat} : ∀ {y : Nat}, (∀ j, j < y → W j = 0) → allS W y = (0, [0, 0])
  | 0, _ => rfl
  | y + 1, h => by unfold allS; rw [h y (by omega), rowS_zero, allS_none fun j hj => h j (by omega)]
theorem allS_first {W : Nat → Nat} {y : Nat} (h0 : ∀ j, j < y → W j = 0) (hw : W y ≠ 0) (hlt : W y < 18446744073709551616) : ∀ k, y < k → (allS W k).2 = [((fstZ (W y).testBit : Nat) : Int), (y : Int)] ∧ (allS W k).1 ≠ 0
  | 0, h => absurd h (by omega)
  | k + 1, h => by
    by_cases e : k = y
    · subst e
      unfold allS
      rw [allS_none h0]
      have hany : (List.range 64).any (W k).testBit = true := by
        have h1 : (W k : Int) = row (W k).testBit := by unfold row; rw [← mkN_eq (p := (W k).testBit) (n := 64) (by omega) (fun _ _ => rfl)]
        rw [← row_ne, ← h1]
        simpa using hw
      obtain ⟨z1, z2, z3⟩ := fstZ_some hany
      exact (rowS_first (y := k) (f := [0, 0]) z2 z3 64).2 z1
    · obtain ⟨a, b⟩ := allS_first h0 hw hlt k (by omega)
      have h2 := rowS_cnt (W k) k (allS W k) 64
      unfold allS
      exact ⟨by rw [rowS_keep _ _ _ b]; exact a, by omega⟩
abbrev CmR : Type := Int × (List Int × (Int × Unit))
def cmR (m : Mch) (p : List Int) : CmR := if okM m = true then (if (allS (dif p (drawTo m m.1.length)) 64).1 = 0 then (0, [0, 0], 6, ()) else (((allS (dif p (drawTo m m.1.length)) 64).1 : Nat), (allS (dif p (drawTo m m.1.length)) 64).2, 0, ())) else (0, [0, 0], 1, ())
theorem rowS_len (w y : Nat) {s : Nat × List Int} (h : s.2.length = 2) : ∀ x, (rowS w y s x).2.length = 2
  | 0 => h
  | x + 1 => by
    have := rowS_len w y h x
    unfold rowS
    split
    · exact this
    · simp only
      split
      · rfl
      · exact this
theorem allS_len (W : Nat → Nat) : ∀ y, (allS W y).2.length = 2
  | 0 => rfl
  | y + 1 => rowS_len _ _ (allS_len W y) 64
theorem cmR_len (m : Mch) (p : List Int) : (cmR m p).2.1.length = 2 := by
  unfold cmR
  split
  · split
    · rfl
    · exact allS_len _ _
  · rfl
theorem tb_self {l : List Int} {n : Nat} (h : l.length = n) : l = tb n (g l) := by
  apply List.ext_getElem?
  intro i
  by_cases hi : i < n
  · rw [tb_get hi]
    unfold g
    rw [List.getD_eq_getElem?_getD, List.getElem?_eq_getElem (by omega)]
    rfl
  · rw [List.getElem?_eq_none (by omega), List.getElem?_eq_none (by rw [tb_len]; omega)]
theorem g_tb {n : Nat} {G : Nat → Int} {i : Nat} (h : i < n) : g (tb n G) i = G i := by
  unfold g
  rw [List.getD_eq_getElem?_getD, tb_get h]; rfl
end Go.Cams

/- Texts of cams, in plain terms. -/
namespace Go.Cams
open Go Go.Fw
def tx (l : List UInt8) : ByteArray := ⟨l.toArray⟩
theorem tx_app (a b : List UInt8) : tx a ++ tx b = tx (a ++ b) := by
  apply ByteArray.ext
  simp [tx, ByteArray.data_append]
theorem tx_size (a : List UInt8) : (tx a).size = a.length := by
  show (a.toArray).size = _
  simp
theorem tx_list (a : List UInt8) : (tx a).data.toList = a := rfl
theorem tx_strOf (x : Int) : strOf [x] = tx [UInt8.ofNat x.toNat] := by
  apply ByteArray.ext
  rfl
theorem dec_len {u : Nat} (h : u ≤ 9223372036854775807) : (Lib.decDigits u).length ≤ 21 := by
  have := Lib.itoa_length_le (u : Int) (by omega) (by omega)
  rwa [Lib.itoa_nonneg] at this
theorem dec_small {u : Nat} (h : u < 10) : Lib.decDigits u = [UInt8.ofNat (48 + u)] := Lib.decDigits_one h
theorem dec_big {u : Nat} (h : ¬ u < 10) : Lib.decDigits u = Lib.decDigits (u / 10) ++ [UInt8.ofNat (48 + u % 10)] := by rw [Lib.decDigits, dif_neg h]
theorem digit_wr {u : Nat} (h : u < 10) : wr .u8 (wr .i64 (48 + (u : Int))) = 48 + (u : Int) := by
  rw [wrap_id (x := 48 + (u : Int)) (by omega) (by omega)]
  show IntKind.u8.wrap _ = _
  simp [IntKind.wrap, IntKind.signed, IntKind.bits]; omega
theorem join_snoc {ws : List (List UInt8)} (h : ws ≠ []) (w s : List UInt8) : Lib.join (ws ++ [w]) s = Lib.join ws s ++ (s ++ w) := by
  cases ws with
  | nil => exact absurd rfl h
  | cons x r => rw [List.cons_append, Lib.join_cons, Lib.join_cons]; simp [Lib.joinTail]
/-- Runs of the same number: the number, and how often. -/
def rle : List Int → List (Int × Nat)
  | [] => []
  | v :: r => match rle r with
    | [] => [(v, 1)]
    | (w, k) :: t => if w = v then (w, k + 1) :: t else (v, 1) :: (w, k) :: t
theorem rle_cons (v : Int) (r : List Int) : rle (v :: r) = match rle r with
    | [] => [(v, 1)]
    | (w, k) :: t => if w = v then (w, k + 1) :: t else (v, 1) :: (w, k) :: t := rfl
theorem rle_head : ∀ (l : List Int) {w : Int} {k : Nat} {t : List (Int × Nat)}, rle l = (w, k) :: t → l.head? = some w
  | [], _, _, _, h => by cases h
  | v :: r, w, k, t, h => by
    rw [rle_cons] at h
    split at h
    · simp only [List.cons.injEq, Prod.mk.injEq] at h; simp [h.1.1]
    · split at h
      · rename_i e
        simp only [List.cons.injEq, Prod.mk.injEq] at h
        simp [← e, h.1.1]
      · simp only [List.cons.injEq, Prod.mk.injEq] at h; simp [h.1.1]
theorem rle_run (v : Int) {t : List Int} (ht : t.head? ≠ some v) : ∀ k, rle (List.replicate (k + 1) v ++ t) = (v, k + 1) :: rle t
  | 0 => by
    simp only [List.replicate_succ, List.replicate_zero, List.cons_append, List.nil_append]
    rw [rle_cons]
    split
    · rename_i h
      rw [h]
    · rename_i w k r h
      have := rle_head t h
      rw [if_neg (fun e => ht (by rw [this, e])), h]
  | k + 1 => by
    have ih := rle_run v ht k
    rw [List.replicate_succ, List.cons_append, rle_cons, ih]
    simp
/-- A stretch of the same number within a list. -/
theorem rle_drop {c : List Int} {i j : Nat} (h1 : i < j) (h2 : j ≤ c.length) (h3 : ∀ u, i ≤ u → u < j → g c u = g c i) (h4 : j = c.length ∨ g c j ≠ g c i) : rle (c.drop i) = (g c i, j - i) :: rle (c.drop j) := by
  have e : c.drop i = List.replicate (j - i - 1 + 1) (g c i) ++ c.drop j := by
    apply List.ext_getElem?
    intro n
    rw [List.getElem?_drop, show j - i - 1 + 1 = j - i by omega]
    by_cases hn : n < j - i
    · rw [List.getElem?_append_left (by simpa using hn), List.getElem?_replicate, if_pos hn]
      have := h3 (i + n) (by omega) (by omega)
      unfold g at this ⊢
      rw [← this, List.getD_eq_getElem?_getD, List.getElem?_eq_getElem (by omega)]
      rfl
    · rw [List.getElem?_append_right (by simp; omega), List.getElem?_drop, List.length_replicate]
      congr 1; omega
  rw [e, rle_run]
  · congr 2; omega
  · rcases h4 with h4 | h4
    · rw [h4, List.drop_length]; simp
    · intro h
      rw [List.head?_drop] at h
      apply h4
      unfold g
      rw [List.getD_eq_getElem?_getD, h]; rfl
theorem rle_len : ∀ l : List Int, (rle l).length ≤ l.length
  | [] => Nat.le_refl _
  | v :: r => by
    have := rle_len r
    rw [rle_cons]
    split
    · simp
    · rename_i h
      rw [h] at this
      split
      · simpa using Nat.le_succ_of_le this
      · simpa using this
def wordL (x : Int × Nat) : List UInt8 := if x.2 > 1 then Lib.decDigits x.1.toNat ++ 42 :: Lib.decDigits x.2 else Lib.decDigits x.1.toNat
theorem wordL_len {x : Int × Nat} (h1 : x.1 ≤ 10000000) (h2 : x.2 ≤ 10000000) : (wordL x).length ≤ 43 := by
  have a := dec_len (u := x.1.toNat) (by omega)
  have b := dec_len (u := x.2) (by omega)
  unfold wordL
  split
  · simp; omega
  · omega
def camJ (c : List Int) : List UInt8 := Lib.join ((rle c).map wordL) [32]
def camT (c : List Int) : ByteArray := if okC c = true then tx (camJ c) else tx []
theorem join_len (s : List UInt8) : ∀ (ws : List (List UInt8)) {m : Nat}, (∀ w ∈ ws, w.length ≤ m) → (Lib.join ws s).length ≤ ws.length * (m + s.length)
  | [], _, _ => by simp [Lib.join_nil]
  | x :: r, m, h => by
    have hx := h x (by simp)
    have ht : ∀ r : List (List UInt8), (∀ w ∈ r, w.length ≤ m) → (Lib.joinTail s r).length ≤ r.length * (m + s.length) := by
      intro r
      induction r with
      | nil => intro _; simp [Lib.joinTail]
      | cons y r ih =>
        intro h
        have h1 := h y (by simp)
        have h2 := ih fun w hw => h w (by simp [hw])
        simp only [Lib.joinTail, List.map_cons, List.flatten_cons, List.length_append, List.length_cons] at h2 ⊢
        rw [Nat.add_mul]
        omega
    have := ht r fun w hw => h w (by simp [hw])
    rw [Lib.join_cons, List.length_append, List.length_cons, Nat.add_mul]
    omega
end Go.Cams
namespace Go.Cams
open Go Go.Fw
theorem szT {a b : List UInt8} (ha : a.length ≤ 1000000000) (hb : b.length ≤ 1000000000) : decide ((((tx a).size + (tx b).size : Nat) : Int) ≤ 4611686018427387904) = true := by
  rw [tx_size, tx_size]
  exact decide_eq_true (by omega)
end Go.Cams
namespace Go.Cams
open Go Go.Fw
theorem rle_el : ∀ (l : List Int), ∀ x ∈ rle l, x.1 ∈ l ∧ x.2 ≤ l.length
  | [], x, h => by cases h
  | v :: r, x, h => by
    have ih := rle_el r
    rw [rle_cons] at h
    split at h
    · simp at h; rw [h]; simp
    · rename_i w k t e
      rw [e] at ih
      split at h
      · rcases List.mem_cons.1 h with h | h
        · have := ih (w, k) (by simp)
          rw [h]
          exact ⟨List.mem_cons_of_mem _ this.1, by simp; exact this.2⟩
        · have := ih x (List.mem_cons_of_mem _ h)
          exact ⟨List.mem_cons_of_mem _ this.1, by simp; omega⟩
      · rcases List.mem_cons.1 h with h | h
        · rw [h]; simp
        · have := ih x h
          exact ⟨List.mem_cons_of_mem _ this.1, by simp; omega⟩
theorem camJ_len {c : List Int} (hl : c.length ≤ 1000) (hC : ∀ v ∈ c, 0 ≤ v ∧ v ≤ 10000) : (camJ c).length ≤ 1000000 := by
  have h1 := rle_len c
  have h := join_len [32] ((rle c).map wordL) (m := 43) (fun w hw => by
    obtain ⟨x, hx, rfl⟩ := List.mem_map.1 hw
    have := rle_el c x hx
    have := hC _ this.1
    exact wordL_len (by omega) (by omega))
  simp only [List.length_map, List.length_cons, List.length_nil] at h
  unfold camJ
  omega
theorem machC : (⟨#[120, 32]⟩ : ByteArray) = tx [120, 32] ∧ (⟨#[10, 121, 32]⟩ : ByteArray) = tx [10, 121, 32] ∧ (⟨#[10, 112, 101, 110, 32]⟩ : ByteArray) = tx [10, 112, 101, 110, 32] ∧ (⟨#[10]⟩ : ByteArray) = tx [10] := ⟨rfl, rfl, rfl, rfl⟩
def machT (m : Mch) : ByteArray := tx (((((([120, 32] ++ camJ m.1) ++ [10, 121, 32]) ++ camJ m.2.1) ++ [10, 112, 101, 110, 32]) ++ camJ m.2.2.1) ++ [10])
def mtR (m : Mch) : ByteArray := if okM m = true then machT m else tx []
end Go.Cams

/- Programs and their texts, in plain terms. -/
namespace Go.Cams
open Go Go.Fw
abbrev MoTy : Ty := .pair (.int .i8) (.pair (.int .i16) (.pair (.int .i16) .unit))
structure RngMo (L : List Ct) : Prop where
  len : (L.length : Int) * 6 ≤ 140737488351232
  el : ∀ v ∈ L, (-128 ≤ v.1 ∧ v.1 ≤ 127) ∧ (-32768 ≤ v.2.1 ∧ v.2.1 ≤ 32767) ∧ (-32768 ≤ v.2.2.1 ∧ v.2.2.1 ≤ 32767)
theorem rngMo_of {L : List Ct} (h : Dom (.slc MoTy) L) : RngMo L := ⟨Int.ofNat_le.2 h.1, fun v hv => (h.2 v hv).elim fun a b => ⟨a, b.1, b.2.1⟩⟩
theorem RngMo.len' {L : List Ct} (h : RngMo L) : (L.length : Int) ≤ 23456248058538 := by have := h.len; omega
theorem RngMo.i1 {L : List Ct} (h : RngMo L) {v : Ct} (hv : v ∈ L) : wr .i64 v.1 = v.1 := by have := (h.el v hv).1; exact wrap_id (by omega) (by omega)
theorem RngMo.i2 {L : List Ct} (h : RngMo L) {v : Ct} (hv : v ∈ L) : wr .i64 v.2.1 = v.2.1 := by have := (h.el v hv).2.1; exact wrap_id (by omega) (by omega)
theorem RngMo.i3 {L : List Ct} (h : RngMo L) {v : Ct} (hv : v ∈ L) : wr .i64 v.2.2.1 = v.2.2.1 := by have := (h.el v hv).2.2; exact wrap_id (by omega) (by omega)
structure RngPg (p : Prg) : Prop where
  t : -32768 ≤ p.1 ∧ p.1 ≤ 32767
  m : RngMo p.2.1
theorem rngPg_of {p : Prg} (h : Dom (.pair (.int .i16) (.pair (.slc MoTy) .unit)) p) : RngPg p := ⟨h.1, rngMo_of h.2.1⟩
def moOk (v : Ct) : Bool := inR (wr .i64 v.1) 0 3 && !decide (v.2.1 < 1) && inR (wr .i64 v.2.2.1) 0 10000
def sumM : List Ct → Int
  | [] => 0
  | v :: r => v.2.1 + sumM r
theorem sumM_snoc (l : List Ct) (v : Ct) : sumM (l ++ [v]) = sumM l + v.2.1 := by
  induction l with
  | nil => simp [sumM]
  | cons a l ih => simp only [List.cons_append, sumM, ih]; omega
theorem sumM_bd : ∀ l : List Ct, (∀ v ∈ l, -32768 ≤ v.2.1 ∧ v.2.1 ≤ 32767) → -32768 * (l.length : Int) ≤ sumM l ∧ sumM l ≤ 32768 * (l.length : Int)
  | [], _ => by simp [sumM]
  | v :: r, h => by
    have h1 := h v (by simp)
    have h2 := sumM_bd r fun u hu => h u (by simp [hu])
    simp only [sumM, List.length_cons]
    omega
theorem sumM_take {L : List Ct} (hr : RngMo L) (h : (L.length : Int) ≤ 24) (i : Nat) : -1000000 ≤ sumM (L.take i) ∧ sumM (L.take i) ≤ 1000000 := by
  have := sumM_bd (L.take i) fun v hv => (hr.el v (List.mem_of_mem_take hv)).2.1
  have h2 : ((L.take i).length : Int) ≤ 24 := by rw [List.length_take]; omega
  omega
def lastT (L : List Ct) : Int := ((idx L ((L.length : Int) - 1)).map fun v => v.2.2.1).getD 0
def okPg (p : Prg) : Bool := inR (p.2.1.length : Int) 1 24 && inR (wr .i64 p.1) 0 10000 && p.2.1.all moOk && inR (sumM p.2.1) 8 360 && (lastT p.2.1 == p.1)
structure GoodPg (p : Prg) : Prop where
  n : 1 ≤ (p.2.1.length : Int) ∧ (p.2.1.length : Int) ≤ 24
  t : 0 ≤ p.1 ∧ p.1 ≤ 10000
  el : ∀ v ∈ p.2.1, (0 ≤ v.1 ∧ v.1 ≤ 3) ∧ 1 ≤ v.2.1 ∧ (0 ≤ v.2.2.1 ∧ v.2.2.1 ≤ 10000)
theorem goodPg {p : Prg} (hr : RngPg p) (h : okPg p = true) : GoodPg p := by
  simp only [okPg, Bool.and_eq_true, inR_iff, List.all_eq_true] at h
  obtain ⟨⟨⟨⟨h1, h2⟩, h3⟩, _⟩, _⟩ := h
  have ht := hr.t
  rw [wrap_id (x := p.1) (by omega) (by omega)] at h2
  refine ⟨h1, h2, fun v hv => ?_⟩
  have h4 := h3 v hv
  simp only [moOk, Bool.and_eq_true, inR_iff] at h4
  rw [hr.m.i1 hv, hr.m.i3 hv] at h4
  obtain ⟨⟨h5, h6⟩, h7⟩ := h4
  have h6 : ¬ v.2.1 < 1 := by simpa using h6
  exact ⟨h5, by omega, h7⟩
def ltr (k : Int) : UInt8 := if k = 0 then 101 else if k = 1 then 115 else if k = 2 then 99 else 102
theorem ltr_cut {k : Int} (h0 : 0 ≤ k) (h1 : k ≤ 3) : (⟨#[101, 115, 99, 102]⟩ : ByteArray).extract k.toNat (k + 1).toNat = tx [ltr k] := by
  have : k = 0 ∨ k = 1 ∨ k = 2 ∨ k = 3 := by omega
  rcases this with rfl | rfl | rfl | rfl <;> rfl
theorem wr_i8 {x : Int} (h0 : -128 ≤ x) (h1 : x ≤ 127) : wr .i8 x = x := by
  show IntKind.i8.wrap x = x
  simp [IntKind.wrap, IntKind.signed, IntKind.bits]; omega
def motW (v : Ct) : List UInt8 := ltr v.1 :: (Lib.decDigits v.2.1.toNat ++ 58 :: Lib.decDigits v.2.2.1.toNat)
theorem motW_len {v : Ct} (h1 : v.2.1 ≤ 32767) (h2 : v.2.2.1 ≤ 32767) : (motW v).length ≤ 45 := by
  have a := dec_len (u := v.2.1.toNat) (by omega)
  have b := dec_len (u := v.2.2.1.toNat) (by omega)
  unfold motW
  simp; omega
def pgW (t : Int) (l : List Ct) : List (List UInt8) := Lib.decDigits t.toNat :: l.map motW
theorem pgW_snoc (t : Int) (l : List Ct) (v : Ct) : pgW t (l ++ [v]) = pgW t l ++ [motW v] := by simp [pgW]
theorem pgW_ne (t : Int) (l : List Ct) : pgW t l ≠ [] := by simp [pgW]
theorem pgW_len {t : Int} {L : List Ct} (hr : RngMo L) (ht : t ≤ 32767) (hl : (L.length : Int) ≤ 24) (i : Nat) : (Lib.join (pgW t (L.take i)) [32]).length ≤ 10000 ∧ (pgW t (L.take i)).length ≤ 25 := by
  have h2 : (L.take i).length ≤ 24 := by rw [List.length_take]; omega
  have h := join_len [32] (pgW t (L.take i)) (m := 45) (fun w hw => by
    rcases List.mem_cons.1 hw with hw | hw
    · have := dec_len (u := t.toNat) (by omega)
      rw [hw]; omega
    · obtain ⟨v, hv, rfl⟩ := List.mem_map.1 hw
      have := hr.el v (List.mem_of_mem_take hv)
      exact motW_len (by omega) (by omega))
  have h3 : (pgW t (L.take i)).length = (L.take i).length + 1 := by simp [pgW]
  simp only [List.length_cons, List.length_nil] at h
  omega
def ptR (p : Prg) : ByteArray := if okPg p = true then tx (Lib.join (pgW p.1 p.2.1) [32]) else tx []
end Go.Cams

/- What is drawn out of bytes, and lifts between others, in plain terms. -/
namespace Go.Cams
open Go Go.Fw
theorem shN_in {w k n : Int} (w0 : 0 ≤ w) (w1 : w ≤ 3) (k0 : 0 ≤ k) (k1 : k ≤ n) (n0 : 1 ≤ n) : 0 ≤ shN w k n ∧ shN w k n ≤ shD w n := by
  have m0 : 0 ≤ n - k := by omega
  have nn : 0 ≤ n := by omega
  have kk := Int.mul_nonneg k0 k0
  have kn := Int.mul_nonneg k0 nn
  have mm := Int.mul_nonneg m0 m0
  rcases (show w = 0 ∨ w = 1 ∨ w = 2 ∨ w = 3 by omega) with rfl | rfl | rfl | rfl
  · unfold shN shD; simp; omega
  · unfold shN shD
    rw [if_pos rfl, if_pos rfl]
    split
    · rename_i h
      have a : n * n - 2 * k * k = n * (n - 2 * k) + 2 * (k * (n - k)) := by grind
      have b := Int.mul_nonneg nn (show 0 ≤ n - 2 * k by omega)
      have c := Int.mul_nonneg k0 m0
      have d : 2 * k * k = 2 * (k * k) := by grind
      omega
    · rename_i h
      have a : n * n - 2 * (n - k) * (n - k) = n * (n - 2 * (n - k)) + 2 * ((n - k) * k) := by grind
      have b := Int.mul_nonneg nn (show 0 ≤ n - 2 * (n - k) by omega)
      have c := Int.mul_nonneg m0 k0
      have d : 2 * (n - k) * (n - k) = 2 * ((n - k) * (n - k)) := by grind
      omega
  · unfold shN shD
    rw [if_neg (by decide), if_pos rfl, if_neg (by decide), if_pos rfl]
    have a : 3 * k * k * n - 2 * k * k * k = k * k * (3 * n - 2 * k) := by grind
    have b := Int.mul_nonneg kk (show 0 ≤ 3 * n - 2 * k by omega)
    have c : n * n * n - (3 * k * k * n - 2 * k * k * k) = (n - k) * (n - k) * (n + 2 * k) := by grind
    have d := Int.mul_nonneg mm (show 0 ≤ n + 2 * k by omega)
    omega
  · unfold shN shD
    rw [if_neg (by decide), if_neg (by decide), if_pos rfl, if_neg (by decide), if_neg (by decide), if_pos rfl]
    have a : 10 * n * n - 15 * k * n + 6 * k * k = 6 * ((n - k) * (n - k)) + n * (4 * n - 3 * k) := by grind
    have b := Int.mul_nonneg nn (show 0 ≤ 4 * n - 3 * k by omega)
    have c : 0 ≤ 10 * n * n - 15 * k * n + 6 * k * k := by omega
    have d := Int.mul_nonneg (Int.mul_nonneg kk k0) c
    have e : n * n * n * n * n - k * k * k * (10 * n * n - 15 * k * n + 6 * k * k) = (n - k) * (n - k) * (n - k) * (n * n + 3 * n * k + 6 * k * k) := by grind
    have nn2 := Int.mul_nonneg nn nn
    have f : 0 ≤ n * n + 3 * n * k + 6 * k * k := by
      have e1 : n * n + 3 * n * k + 6 * k * k = n * n + 3 * (k * n) + 6 * (k * k) := by grind
      omega
    have h := Int.mul_nonneg (Int.mul_nonneg mm m0) f
    omega
theorem nr_in {x d lo hi : Int} (hd : 0 < d) (h1 : lo * d ≤ x) (h2 : x ≤ hi * d) : lo ≤ nr x d ∧ nr x d ≤ hi := by
  unfold nr
  constructor
  · apply (Int.le_ediv_iff_mul_le (by omega)).2
    have : lo * (2 * d) = 2 * (lo * d) := by grind
    omega
  · have : (2 * x + d) / (2 * d) < hi + 1 := by
      apply (Int.ediv_lt_iff_lt_mul (by omega)).2
      have : (hi + 1) * (2 * d) = 2 * (hi * d) + 2 * d := by grind
      omega
    omega
/-- A lift of a motion lies between its ends. -/
theorem liftP_in {f t w k n lo hi : Int} (w0 : 0 ≤ w) (w1 : w ≤ 3) (k0 : 0 ≤ k) (k1 : k ≤ n) (n0 : 1 ≤ n) (n1 : n ≤ 360) (f0 : lo ≤ f) (f1 : f ≤ hi) (t0 : lo ≤ t) (t1 : t ≤ hi) : lo ≤ liftP f t w k n ∧ liftP f t w k n ≤ hi := by
  have hd := shD_bd (w := w) n0 n1
  obtain ⟨s0, s1⟩ := shN_in w0 w1 k0 k1 n0
  unfold liftP
  generalize shN w k n = s at *
  generalize shD w n = d at *
  have a1 := Int.mul_nonneg (show 0 ≤ f - lo by omega) (show 0 ≤ d - s by omega)
  have a2 := Int.mul_nonneg (show 0 ≤ t - lo by omega) s0
  have a3 := Int.mul_nonneg (show 0 ≤ hi - f by omega) (show 0 ≤ d - s by omega)
  have a4 := Int.mul_nonneg (show 0 ≤ hi - t by omega) s0
  have e1 : f * d + (t - f) * s - lo * d = (f - lo) * (d - s) + (t - lo) * s := by grind
  have e2 : hi * d - (f * d + (t - f) * s) = (hi - f) * (d - s) + (hi - t) * s := by grind
  exact nr_in (by omega) (by omega) (by omega)
/-- A source of numbers: the bytes, how many have been read, and its state. -/
abbrev Src : Type := List Int × (Int × (Int × Unit))
structure GoodSrc (s : Src) : Prop where
  by_ : ∀ v ∈ s.1, 0 ≤ v ∧ v ≤ 255
  len : (s.1.length : Int) ≤ 1000000
  pos : 0 ≤ s.2.1 ∧ s.2.1 ≤ 1000000000000
/-- A number of times that a source is still read. -/
def SrcAt (k : Int) (s : Src) : Prop := (∀ v ∈ s.1, 0 ≤ v ∧ v ≤ 255) ∧ (s.1.length : Int) ≤ 1000000 ∧ 0 ≤ s.2.1 ∧ s.2.1 ≤ k
theorem SrcAt.mono {k j : Int} {s : Src} (h : SrcAt k s) (hk : k ≤ j) : SrcAt j s := ⟨h.1, h.2.1, h.2.2.1, Int.le_trans h.2.2.2 hk⟩
theorem and_255 {a : Nat} (h : a < 18446744073709551616) : bitsI .and .u64 (a : Int) (255 : Int) = ((a % 256 : Nat) : Int) := by
  rw [show (255 : Int) = ((255 : Nat) : Int) from rfl, and_nat h (by omega), show (255 : Nat) = 2 ^ 8 - 1 from rfl, Nat.and_two_pow_sub_one_eq_mod]
end Go.Cams
namespace Go.Fw
/-- A loop whose result is not told beforehand. -/
theorem loop_ex {σ α : Type} {f : Nat → σ → (σ → Option α) → Option α} (I : σ → Prop) (μ : σ → Nat) (Q : α → Prop) {x : σ} (h : I x)
    (step : ∀ x, I x → (∃ y, Q y ∧ Round (fun n ag => f n x ag) y (fun _ => False)) ∨ (∃ x1, I x1 ∧ μ x1 < μ x ∧ ∀ y, Round (fun n ag => f n x ag) y (fun x' => x' = x1))) : ∃ y, Q y ∧ Evt (fun n => loopK (f n) n x) y := by
  have key : ∀ m x, I x → μ x ≤ m → ∃ y, Q y ∧ ∃ N, ∀ n, N ≤ n → ∀ k, m < k → loopK (f n) k x = some y := by
    intro m
    induction m with
    | zero =>
      intro x hx hm
      rcases step x hx with ⟨y, hy, hR⟩ | ⟨x1, _, h2, _⟩
      · rcases hR with ⟨N, hN⟩ | ⟨_, hF, _⟩
        · refine ⟨y, hy, N, fun n hn k hk => ?_⟩
          obtain ⟨k, rfl⟩ : ∃ j, k = j + 1 := ⟨k - 1, by omega⟩
          exact hN n hn _
        · exact hF.elim
      · omega
    | succ m ih =>
      intro x hx hm
      rcases step x hx with ⟨y, hy, hR⟩ | ⟨x1, h1, h2, hR⟩
      · rcases hR with ⟨N, hN⟩ | ⟨_, hF, _⟩
        · refine ⟨y, hy, N, fun n hn k hk => ?_⟩
          obtain ⟨k, rfl⟩ : ∃ j, k = j + 1 := ⟨k - 1, by omega⟩
          exact hN n hn _
        · exact hF.elim
      · obtain ⟨y, hy, M, hM⟩ := ih x1 h1 (by omega)
        rcases hR y with ⟨N, hN⟩ | ⟨x', rfl, N, hN⟩
        · refine ⟨y, hy, N, fun n hn k hk => ?_⟩
          obtain ⟨k, rfl⟩ : ∃ j, k = j + 1 := ⟨k - 1, by omega⟩
          exact hN n hn _
        · refine ⟨y, hy, N + M, fun n hn k hk => ?_⟩
          obtain ⟨k, rfl⟩ : ∃ j, k = j + 1 := ⟨k - 1, by omega⟩
          show f n x (loopK (f n) k) = _
          exact (hN n (by omega) _).trans (hM n (by omega) k (by omega))
  obtain ⟨y, hy, N, hN⟩ := key (μ x) x h (Nat.le_refl _)
  exact ⟨y, hy, N + μ x + 1, fun n hn => hN n (by omega) n (by omega)⟩
end Go.Fw
namespace Go.Cams
open Go Go.Fw
/-- A motion as it is drawn. -/
def MoSm (v : Ct) : Prop := (0 ≤ v.1 ∧ v.1 ≤ 3) ∧ (1 ≤ v.2.1 ∧ v.2.1 ≤ 9) ∧ (0 ≤ v.2.2.1 ∧ v.2.2.1 ≤ 59)
theorem sumM_sm : ∀ l : List Ct, (∀ v ∈ l, MoSm v) → (l.length : Int) ≤ sumM l ∧ sumM l ≤ 9 * l.length
  | [], _ => by simp [sumM]
  | v :: r, h => by
    have h1 := (h v (by simp)).2.1
    have h2 := sumM_sm r fun u hu => h u (by simp [hu])
    simp only [sumM, List.length_cons]
    omega
theorem last_split {L : List Ct} (h : 0 < L.length) : ∃ M v, L = M ++ [v] := by
  refine ⟨L.take (L.length - 1), L[L.length - 1]'(by omega), ?_⟩
  have := List.take_concat_get (l := L) (i := L.length - 1) (by omega)
  rw [show L.length - 1 + 1 = L.length by omega, List.take_length] at this
  rw [← List.concat_eq_append]
  exact this.symm
theorem lastT_snoc (M : List Ct) (v : Ct) : lastT (M ++ [v]) = v.2.2.1 := by
  unfold lastT idx
  rw [if_pos (by simp), show (((M ++ [v]).length : Int) - 1).toNat = M.length by simp]
  simp
structure SmPg (p : Prg) : Prop where
  rng : RngPg p
  ok : okPg p = true
  n : (p.2.1.length : Int) ≤ 5
  sum : 8 ≤ sumM p.2.1 ∧ sumM p.2.1 ≤ 45
  t : 0 ≤ p.1 ∧ p.1 ≤ 59
  el : ∀ v ∈ p.2.1, (0 ≤ v.1 ∧ v.1 ≤ 3) ∧ (1 ≤ v.2.1 ∧ v.2.1 ≤ 45) ∧ (0 ≤ v.2.2.1 ∧ v.2.2.1 ≤ 59)
theorem smPg {t : Int} {M : List Ct} {a b : Int} (t0 : 0 ≤ t) (t1 : t ≤ 29) (hM : ∀ v ∈ M, MoSm v) (hn : (M.length : Int) ≤ 4) (a0 : 0 ≤ a) (a1 : a ≤ 3) (b0 : 1 ≤ b) (b1 : b ≤ 45) (s0 : 8 ≤ sumM M + b) (s1 : sumM M + b ≤ 45) : SmPg (t, M ++ [(a, b, t, ())], ()) := by
  have hel : ∀ v ∈ M ++ [(a, b, t, ())], (0 ≤ v.1 ∧ v.1 ≤ 3) ∧ (1 ≤ v.2.1 ∧ v.2.1 ≤ 45) ∧ (0 ≤ v.2.2.1 ∧ v.2.2.1 ≤ 59) := fun v hv => by
    rcases List.mem_append.1 hv with hv | hv
    · have := hM v hv
      unfold MoSm at this
      omega
    · simp at hv; rw [hv]; simp only; omega
  have hl : ((M ++ [(a, b, t, ())]).length : Int) = M.length + 1 := by simp
  have hs : sumM (M ++ [(a, b, t, ())]) = sumM M + b := sumM_snoc _ _
  have hr : RngPg (t, M ++ [(a, b, t, ())], ()) := ⟨by simp only; omega, by simp only; omega, fun v hv => by have := hel v hv; omega⟩
  refine ⟨hr, ?_, by simp only; omega, by simp only; omega, by simp only; omega, hel⟩
  have hall : (M ++ [(a, b, t, ())]).all moOk = true := List.all_eq_true.2 fun v hv => by
    have h1 := hel v hv
    unfold moOk
    rw [hr.m.i1 hv, hr.m.i3 hv]
    simp only [Bool.and_eq_true, inR_iff, Bool.not_eq_true', decide_eq_false_iff_not]
    omega
  unfold okPg
  simp only
  rw [hall, wrap_id (x := t) (by omega) (by omega), lastT_snoc, hs]
  simp only [Bool.and_eq_true, inR_iff, beq_self_eq_true, and_true]
  omega
end Go.Cams
namespace Go.Fw
variable {α β σ : Type}
/-- A result of which something is told. -/
def EvtX (f : Nat → Option α) (Q : α → Prop) : Prop := ∃ y, Q y ∧ Evt f y
theorem EvtX.next {f g : Nat → Option α} {Q : α → Prop} (h : EvtX g Q) (e : ∀ n, f (n + 1) = g n) : EvtX f Q := by
  obtain ⟨y, hy, hE⟩ := h
  exact ⟨y, hy, hE.next e⟩
theorem EvtX.bind {f : Nat → Option β} {g : Nat → β → Option α} {x : β} {Q : α → Prop} (h : Evt f x) (k : EvtX (fun n => g n x) Q) : EvtX (fun n => (f n).bind (g n)) Q := by
  obtain ⟨y, hy, hE⟩ := k
  exact ⟨y, hy, Evt.bind h hE⟩
theorem EvtX.loop {f : Nat → σ → (σ → Option α) → Option α} (I : σ → Prop) (μ : σ → Nat) {Q : α → Prop} {x : σ} (h : I x)
    (step : ∀ x, I x → (∃ y, Q y ∧ Round (fun n ag => f n x ag) y (fun _ => False)) ∨ (∃ x1, I x1 ∧ μ x1 < μ x ∧ ∀ y, Round (fun n ag => f n x ag) y (fun x' => x' = x1))) : EvtX (fun n => loopK (f n) n x) Q := loop_ex I μ Q h step
end Go.Fw
namespace Go.Cams
open Go Go.Fw
/-- The lifts of a motion, and of several. -/
def seg (f : Int) (v : Ct) : List Int := (List.range v.2.1.toNat).map fun k => liftP f v.2.2.1 v.1 (k : Nat) v.2.1
def toF (f : Int) (l : List Ct) : Int := l.foldl (fun _ v => v.2.2.1) f
def proF (f : Int) : List Ct → List Int
  | [] => []
  | v :: r => seg f v ++ proF v.2.2.1 r
theorem toF_snoc (f : Int) (l : List Ct) (v : Ct) : toF f (l ++ [v]) = v.2.2.1 := by simp [toF]
theorem proF_snoc : ∀ (l : List Ct) (f : Int) (v : Ct), proF f (l ++ [v]) = proF f l ++ seg (toF f l) v
  | [], f, v => by simp [proF, toF]
  | u :: r, f, v => by
    rw [List.cons_append, proF, proF_snoc r, proF, List.append_assoc]
    rfl
theorem seg_len (f : Int) (v : Ct) : (seg f v).length = v.2.1.toNat := by simp [seg]
theorem seg_take (f : Int) (v : Ct) {i : Int} (h : 0 ≤ i) (h1 : i < v.2.1) : (seg f v).take (i + 1).toNat = (seg f v).take i.toNat ++ [liftP f v.2.2.1 v.1 i v.2.1] := by
  rw [show (i + 1).toNat = i.toNat + 1 by omega, List.take_add_one]
  congr 1
  unfold seg
  rw [List.getElem?_map, List.getElem?_range (by omega)]
  simp only [Option.map_some, Option.toList]
  rw [show ((i.toNat : Nat) : Int) = i by omega]
theorem seg_el {f : Int} {v : Ct} {lo hi : Int} (w0 : 0 ≤ v.1) (w1 : v.1 ≤ 3) (n0 : 1 ≤ v.2.1) (n1 : v.2.1 ≤ 360) (f0 : lo ≤ f) (f1 : f ≤ hi) (t0 : lo ≤ v.2.2.1) (t1 : v.2.2.1 ≤ hi) : ∀ x ∈ seg f v, lo ≤ x ∧ x ≤ hi := fun x hx => by
  unfold seg at hx
  obtain ⟨k, hk, rfl⟩ := List.mem_map.1 hx
  have := List.mem_range.1 hk
  exact liftP_in w0 w1 (by omega) (by omega) n0 n1 f0 f1 t0 t1
structure MoIn (lo hi : Int) (v : Ct) : Prop where
  w : 0 ≤ v.1 ∧ v.1 ≤ 3
  n : 1 ≤ v.2.1 ∧ v.2.1 ≤ 360
  t : lo ≤ v.2.2.1 ∧ v.2.2.1 ≤ hi
theorem toF_in {lo hi : Int} : ∀ (l : List Ct) {f : Int}, (∀ v ∈ l, MoIn lo hi v) → lo ≤ f → f ≤ hi → lo ≤ toF f l ∧ toF f l ≤ hi
  | [], _, _, f0, f1 => ⟨f0, f1⟩
  | v :: r, f, h, _, _ => by
    have := (h v (by simp)).t
    exact toF_in r (f := v.2.2.1) (fun u hu => h u (by simp [hu])) this.1 this.2
theorem proF_el {lo hi : Int} : ∀ (l : List Ct) {f : Int}, (∀ v ∈ l, MoIn lo hi v) → lo ≤ f → f ≤ hi → ∀ x ∈ proF f l, lo ≤ x ∧ x ≤ hi
  | [], _, _, _, _ => fun x hx => by cases hx
  | v :: r, f, h, f0, f1 => fun x hx => by
    have hv := h v (by simp)
    rcases List.mem_append.1 hx with hx | hx
    · exact seg_el hv.w.1 hv.w.2 hv.n.1 hv.n.2 f0 f1 hv.t.1 hv.t.2 x hx
    · exact proF_el r (fun u hu => h u (by simp [hu])) hv.t.1 hv.t.2 x hx
theorem proF_len : ∀ (l : List Ct) (f : Int), (∀ v ∈ l, 1 ≤ v.2.1) → ((proF f l).length : Int) = sumM l
  | [], _, _ => rfl
  | v :: r, f, h => by
    have h1 := h v (by simp)
    have h2 := proF_len r v.2.2.1 fun u hu => h u (by simp [hu])
    simp only [proF, sumM, List.length_append, seg_len]
    omega
theorem SmPg.ins {p : Prg} (S : SmPg p) : ∀ v ∈ p.2.1, MoIn 0 59 v := fun v hv => by
  have := S.el v hv
  exact ⟨this.1, ⟨this.2.1.1, by omega⟩, this.2.2⟩
/-- A cam as it is drawn. -/
structure SmC (c : List Int) : Prop where
  len : 8 ≤ (c.length : Int) ∧ (c.length : Int) ≤ 45
  el : ∀ v ∈ c, 0 ≤ v ∧ v ≤ 59
theorem SmPg.cam {p : Prg} (S : SmPg p) : SmC (proF p.1 p.2.1) := by
  have h := proF_len p.2.1 p.1 fun v hv => (S.ins v hv).n.1
  have := S.sum
  exact ⟨by omega, proF_el p.2.1 S.ins S.t.1 S.t.2⟩
theorem SmC.rng {c : List Int} (S : SmC c) : Rng c := rng_bd (by have := S.len; omega) fun v hv => by have := S.el v hv; omega
theorem SmC.ok {c : List Int} (S : SmC c) : okC c = true := by
  unfold okC
  have hl := S.len
  simp only [Bool.and_eq_true, inR_iff, List.all_eq_true]
  refine ⟨by omega, fun v hv => ?_⟩
  have := S.el v hv
  unfold okV
  rw [wrap_id (x := v) (by omega) (by omega), inR_iff]
  omega
end Go.Cams
namespace Go.Fw
variable {α β σ : Type}
theorem EvtX.no {c : Bool} {f g : Nat → Option α} {Q : α → Prop} (h : ¬ c = true) (k : EvtX g Q) : EvtX (fun n => if c = true then f n else g n) Q := by
  obtain ⟨y, hy, hE⟩ := k
  exact ⟨y, hy, Evt.no h hE⟩
theorem EvtX.yes {c : Bool} {f g : Nat → Option α} {Q : α → Prop} (h : c = true) (k : EvtX f Q) : EvtX (fun n => if c = true then f n else g n) Q := by
  obtain ⟨y, hy, hE⟩ := k
  exact ⟨y, hy, Evt.yes h hE⟩
theorem EvtX.chk {c : Bool} {f : Nat → Option α} {Q : α → Prop} (h : c = true) (k : EvtX f Q) : EvtX (fun n => chk c (f n)) Q := by
  obtain ⟨y, hy, hE⟩ := k
  exact ⟨y, hy, Evt.chk h hE⟩
end Go.Fw

/- Cutters as they are drawn, and which can replace which, in plain terms. -/
namespace Go.Cams
open Go Go.Fw
def dst (H j : Nat) : Nat := if j ≤ H then H - j else j - H
def symK (H : Nat) (h : Nat → Int) : List Int := tb (2 * H + 1) fun j => h (dst H j)
structure Ris (H : Nat) (h : Nat → Int) : Prop where
  zero : h 0 = 0
  up : ∀ a b, a ≤ b → b ≤ H → h a ≤ h b
  hi : ∀ a, a ≤ H → h a ≤ 1000
theorem Ris.lo {H : Nat} {h : Nat → Int} (R : Ris H h) {a : Nat} (ha : a ≤ H) : 0 ≤ h a := by
  have := R.up 0 a (by omega) ha
  rw [R.zero] at this; exact this
theorem dst_le {H j : Nat} (h : j < 2 * H + 1) : dst H j ≤ H := by unfold dst; split <;> omega
theorem symK_len (H : Nat) (h : Nat → Int) : (symK H h).length = 2 * H + 1 := tb_len _ _
theorem symK_g {H : Nat} {h : Nat → Int} {j : Nat} (hj : j < 2 * H + 1) : g (symK H h) j = h (dst H j) := g_tb hj
theorem symK_rng {H : Nat} {h : Nat → Int} (R : Ris H h) (hH : H ≤ 15) : Rng (symK H h) := rng_bd (by rw [symK_len]; omega) fun v hv => by
  unfold symK tb at hv
  obtain ⟨j, hj, rfl⟩ := List.mem_map.1 hv
  have hd := dst_le (List.mem_range.1 hj)
  have h1 := R.lo hd
  have h2 := R.hi _ hd
  omega
theorem symK_ok {H : Nat} {h : Nat → Int} (R : Ris H h) (hH : H ≤ 15) : okK (symK H h) = true := by
  have hl := symK_len H h
  have hh : (symK H h).length / 2 = H := by omega
  unfold okK
  simp only [Bool.and_eq_true, decide_eq_true_eq, beq_iff_eq, inR_iff]
  refine ⟨⟨⟨by omega, by omega⟩, ?_⟩, ?_⟩
  · rw [hh, symK_g (by omega)]
    unfold dst
    rw [if_pos (Nat.le_refl _), Nat.sub_self, R.zero]
  · rw [hh, allTo_iff]
    intro i hi
    have d1 : dst H i = H - i := by unfold dst; rw [if_pos (by omega)]
    have d2 : dst H (2 * H + 1 - 1 - i) = H - i := by unfold dst; split <;> omega
    have h1 := R.lo (a := H - i) (by omega)
    have h2 := R.hi (H - i) (by omega)
    unfold kOne
    rw [hl, symK_g (by omega), symK_g (by omega), d1, d2, wrap_id (x := h (H - i)) (by omega) (by omega)]
    simp only [Bool.and_eq_true, inR_iff, Bool.or_eq_true, decide_eq_true_eq, beq_self_eq_true, and_true]
    refine ⟨by omega, ?_⟩
    by_cases h0 : i = 0
    · exact .inl h0
    · right
      have d3 : dst H (i - 1) = H - i + 1 := by unfold dst; rw [if_pos (by omega)]; omega
      rw [symK_g (by omega), d3]
      have := R.up (H - i) (H - i + 1) (by omega) (by omega)
      simp only [Bool.not_eq_true', decide_eq_false_iff_not]
      omega
theorem flat_sym (H : Nat) : List.replicate (2 * H + 1) (0 : Int) = symK H fun _ => 0 := tb_rep _ _
theorem flat_ris (H : Nat) : Ris H fun _ => 0 := ⟨rfl, fun _ _ _ _ => Int.le_refl _, fun _ _ => by omega⟩
structure SmK (k : List Int) : Prop where
  rng : Rng k
  ok : okK k = true
theorem SmK.of {H : Nat} {h : Nat → Int} (R : Ris H h) (hH : H ≤ 15) : SmK (symK H h) := ⟨symK_rng R hH, symK_ok R hH⟩
/-- A cutter that is set from the middle outward. -/
theorem symK_step {H i : Nat} {h : Nat → Int} {y : Int} (hi : 1 ≤ i) (hH : i ≤ H) :
    ((symK H fun a => if a < i then h a else 0).set (H - i) y).set (H + i) y = symK H fun a => if a < i + 1 then (if a = i then y else h a) else 0 := by
  unfold symK
  rw [tb_set, tb_set]
  apply tb_ext
  intro j hj
  have hd : (j ≤ H → dst H j = H - j) ∧ (H < j → dst H j = j - H) := by unfold dst; constructor <;> intro h <;> split <;> omega
  generalize dst H j = d at hd ⊢
  dsimp only
  by_cases h1 : j = H + i
  · rw [if_pos h1, if_pos (by omega), if_pos (by omega)]
  · rw [if_neg h1]
    by_cases h2 : j = H - i
    · rw [if_pos h2, if_pos (by omega), if_pos (by omega)]
    · rw [if_neg h2]
      by_cases h3 : d < i
      · rw [if_pos h3, if_pos (by omega), if_neg (by omega)]
      · rw [if_neg h3, if_neg (by omega)]
end Go.Cams

/- Which cutter can replace which, in plain terms. -/
namespace Go.Cams
open Go Go.Fw
/-- How high a cutter stands on another one. -/
def stTo (a b : List Int) (off : Nat) : Nat → Int
  | 0 => 0
  | i + 1 => max (stTo a b off i) (g b (off + i) - g a i)
def st (a b : List Int) (off : Nat) : Int := stTo a b off a.length
def siTo (a b : List Int) (off : Nat) : Nat → Int
  | 0 => g b off - g a 0
  | i + 1 => max (siTo a b off i) (g b (off + i) - g a i)
theorem stTo_ge (a b : List Int) (off : Nat) : ∀ (n i : Nat), i < n → g b (off + i) - g a i ≤ stTo a b off n
  | 0, _, h => absurd h (by omega)
  | n + 1, i, h => by
    by_cases e : i = n
    · subst e; unfold stTo; omega
    · have := stTo_ge a b off n i (by omega)
      unfold stTo; omega
theorem stTo_nn (a b : List Int) (off : Nat) : ∀ n, 0 ≤ stTo a b off n
  | 0 => Int.le_refl _
  | n + 1 => by have := stTo_nn a b off n; unfold stTo; omega
theorem stTo_le {a b : List Int} (off : Nat) (ha : ∀ i, i < a.length → 0 ≤ g a i) {m : Int} (h0 : 0 ≤ m) : ∀ n, n ≤ a.length → (∀ i, i < n → g b (off + i) ≤ m) → stTo a b off n ≤ m
  | 0, _, _ => h0
  | n + 1, hn, h => by
    have := stTo_le off ha h0 n (by omega) fun i hi => h i (by omega)
    have h1 := h n (by omega)
    have h2 := ha n (by omega)
    unfold stTo; omega
theorem siTo_eq (a b : List Int) (off : Nat) : ∀ n, max (stTo a b off n) (g b off - g a 0) = max 0 (siTo a b off n)
  | 0 => rfl
  | n + 1 => by have := siTo_eq a b off n; unfold stTo siTo; omega
theorem siTo_ge (a b : List Int) (off : Nat) : ∀ (n i : Nat), i < n → g b (off + i) - g a i ≤ siTo a b off n
  | 0, _, h => absurd h (by omega)
  | n + 1, i, h => by
    by_cases e : i = n
    · subst e; unfold siTo; omega
    · have := siTo_ge a b off n i (by omega)
      unfold siTo; omega
theorem si_st {a b : List Int} {off : Nat} (A : GoodK a) (B : GoodK b) (h : off + a.length ≤ b.length) : siTo a b off a.length = st a b off := by
  have h1 := siTo_eq a b off a.length
  have h2 := stTo_ge a b off a.length 0 A.lo
  have hlo := A.lo
  have h3 := siTo_ge a b off a.length (a.length / 2) (by omega)
  have h4 := (B.el (off + a.length / 2) (by omega)).1
  rw [A.mid] at h3
  rw [Nat.add_zero] at h2
  unfold st
  omega
/-- A cutter that stands on another one touches it at a step. -/
def cov (a b : List Int) (j off : Nat) : Bool := decide (off ≤ j ∧ j < off + a.length) && (st a b off + g a (j - off) == g b j)
def offs (a b : List Int) : Nat := b.length + 1 - a.length
def tch (a b : List Int) (j : Nat) : Bool := allTo (fun off => !cov a b j off) (offs a b) == false
def crB (a b : List Int) : Bool := allTo (tch a b) b.length
theorem tipTo_le (c k : List Int) (s : Int) {m : Int} (h0 : 0 ≤ m) : ∀ n, (∀ u : Nat, u < n → cAt c (s + u - half k) - g k u ≤ m) → tipTo c k s n ≤ m
  | 0, _ => h0
  | n + 1, h => by
    have h1 := tipTo_le c k s h0 n fun u hu => h u (by omega)
    have h2 := h n (by omega)
    rw [tipTo_succ]; omega
theorem cAt_sh (c : List Int) (x y : Int) : cAt c (x % (c.length : Int) + y) = cAt c (x + y) := by
  unfold cAt
  rw [Int.emod_add_emod]
/-- What a cutter leaves at a place, by one of its stands. -/
theorem lf_at {c k : List Int} (K : GoodK k) (p : Nat) (hp : p < c.length) : ∃ j, j < k.length ∧ lf c k p = tip c k (((p : Nat) + (j : Nat) - half k) % c.length) + g k j := by
  obtain ⟨_, _, h⟩ := lfTo_el c k p k.length
  rcases h with h | ⟨j, hj, h⟩
  · have hlo := K.lo
    refine ⟨k.length / 2, by omega, ?_⟩
    rw [K.mid]
    unfold half
    rw [show ((p : Nat) : Int) + ((k.length / 2 : Nat) : Int) - ((k.length / 2 : Nat) : Int) = (p : Int) by omega, Int.emod_eq_of_lt (by omega) (by omega)]
    unfold lf
    rw [h]; omega
  · exact ⟨j, hj, h⟩
theorem tch_some {a b : List Int} {j : Nat} (h : tch a b j = true) : ∃ off, off < offs a b ∧ cov a b j off = true := by
  unfold tch at h
  rw [beq_iff_eq] at h
  apply Classical.byContradiction
  intro hn
  have : allTo (fun off => !cov a b j off) (offs a b) = true := (allTo_iff _ _).2 fun off ho => by
    cases hc : cov a b j off with
    | true => exact absurd ⟨off, ho, hc⟩ hn
    | false => rfl
  rw [this] at h
  cases h
/-- What a cutter leaves that can replace another one is no more. -/
theorem lf_rep {c a k : List Int} (A : GoodK a) (K : GoodK k) (h : crB a k = true) (p : Nat) (hp : p < c.length) : lf c a p ≤ lf c k p := by
  obtain ⟨j, hj, e⟩ := lf_at K p hp
  have ht := (allTo_iff _ _).1 h j hj
  obtain ⟨off, ho, hc⟩ := tch_some ht
  unfold cov at hc
  simp only [Bool.and_eq_true, decide_eq_true_eq, beq_iff_eq] at hc
  obtain ⟨⟨o1, o2⟩, o3⟩ := hc
  unfold offs at ho
  have hao := A.odd
  have hko := K.odd
  have hal := A.lo
  obtain ⟨_, hl, _⟩ := lfTo_el c a p a.length
  have hle := hl (j - off) (by omega)
  have tp : tip c a (((p : Nat) + ((j - off : Nat) : Int) - half a) % c.length) ≤ tip c k (((p : Nat) + (j : Nat) - half k) % c.length) + st a k off := by
    have hst : 0 ≤ st a k off := stTo_nn a k off a.length
    refine tipTo_le c a _ ?_ a.length fun u hu => ?_
    · have : 0 ≤ tip c k (((p : Nat) + (j : Nat) - half k) % c.length) := by
        have hm := tipTo_succ
        have aux : ∀ n, 0 ≤ tipTo c k (((p : Nat) + (j : Nat) - half k) % c.length) n := by
          intro n
          induction n with
          | zero => exact Int.le_refl _
          | succ n ih => rw [tipTo_succ]; omega
        exact aux _
      omega
    · have hw : k.length - a.length - off + u < k.length := by omega
      have h1 := tipTo_mono c k (((p : Nat) + (j : Nat) - half k) % c.length) k.length (k.length - a.length - off + u) hw
      have h2 := K.sym (k.length - a.length - off + u) hw
      rw [show k.length - 1 - (k.length - a.length - off + u) = off + (a.length - 1 - u) by omega] at h2
      have h3 := stTo_ge a k off a.length (a.length - 1 - u) (by omega)
      have h4 := A.sym u hu
      have hx : cAt c (((p : Nat) + ((j - off : Nat) : Int) - half a) % c.length + u - half a) = cAt c (((p : Nat) + (j : Nat) - half k) % c.length + ((k.length - a.length - off + u : Nat) : Int) - half k) := by
        have q1 := cAt_sh c ((p : Nat) + ((j - off : Nat) : Int) - half a) (u - half a)
        have q2 := cAt_sh c ((p : Nat) + (j : Nat) - half k) (((k.length - a.length - off + u : Nat) : Int) - half k)
        rw [← Int.add_sub_assoc] at q1 q2
        rw [q1, q2]
        congr 1
        unfold half
        omega
      rw [hx]
      unfold tip
      unfold st
      omega
  unfold lf at hle ⊢ e
  omega
end Go.Cams
namespace Go.Cams
open Go Go.Fw
theorem ok_zero : okK [0] = true := by decide
theorem good_zero : GoodK [0] := goodK ⟨by decide, by decide⟩ ok_zero
theorem tip_zero {c : List Int} (hC : ∀ v ∈ c, 0 ≤ v ∧ v ≤ 10000) (h0 : 0 < c.length) (s : Int) : tip c [0] s = cAt c s := by
  have h := hC _ (cAt_mem h0 s)
  show max 0 (cAt c (s + ((0 : Nat) : Int) - half [0]) - g [0] 0) = cAt c s
  have e : s + ((0 : Nat) : Int) - half [0] = s := by unfold half; simp
  rw [e]
  show max 0 (cAt c s - 0) = _
  omega
/-- A cutter without width leaves the cam. -/
theorem left_flat {c : List Int} (h0 : 0 < c.length) (hC : ∀ v ∈ c, 0 ≤ v ∧ v ≤ 10000) : leftL c [0] = c := by
  have hl := leftL_len c [0]
  apply List.ext_getElem?
  intro p
  by_cases hp : p < c.length
  · have h1 := leftL_g h0 hC good_zero hp
    have h2 : lf c [0] p = g c p := by
      show min (tip c [0] p) (tip c [0] (((p : Nat) + ((0 : Nat) : Int) - half [0]) % c.length) + g [0] 0) = g c p
      rw [tip_zero hC h0, tip_zero hC h0]
      have e : ((p : Nat) : Int) + ((0 : Nat) : Int) - half [0] = p := by unfold half; simp
      rw [e, Int.emod_eq_of_lt (by omega) (by omega), cAt_self hp]
      show min (g c p) (g c p + 0) = _
      omega
    have a1 := (g_idx (l := leftL c [0]) (i := (p : Int)) (by omega) (by omega)).get
    have a2 := (g_idx (l := c) (i := (p : Int)) (by omega) (by omega)).get
    rw [Int.toNat_natCast] at a1 a2
    rw [a1, a2, h1, h2]
  · rw [List.getElem?_eq_none (by omega), List.getElem?_eq_none (by omega)]
theorem left_ok {c k : List Int} (h : okC c = true) (hr : Rng c) (G : GoodK k) : okC (leftL c k) = true ∧ Rng (leftL c k) := by
  have hl := okC_len h
  have hb := leftL_bd (show 0 < c.length by omega) (okC_el h hr) G
  have hr2 : Rng (leftL c k) := rng_bd (by rw [leftL_len]; omega) hb
  refine ⟨?_, hr2⟩
  unfold okC
  simp only [Bool.and_eq_true, inR_iff, List.all_eq_true]
  refine ⟨by rw [leftL_len]; exact hl, fun v hv => ?_⟩
  unfold okV
  rw [wrap_id (x := v) (by have := hb v hv; omega) (by have := hb v hv; omega), inR_iff]
  exact hb v hv
theorem nrTo_lt (c l : List Int) : ∀ n, ∀ v ∈ nrTo c l n, v < (n : Int)
  | 0, v, h => by cases h
  | n + 1, v, h => by
    rw [nrTo_succ] at h
    split at h
    · rcases List.mem_append.1 h with h | h
      · have := nrTo_lt c l n v h; omega
      · simp at h; omega
    · have := nrTo_lt c l n v h; omega
theorem nrTo_has (c l : List Int) (s : Nat) : ∀ n, s < n → (nrTo c l n).any (fun v => v == (s : Int)) = decide (g l s > g c s)
  | 0, h => absurd h (by omega)
  | n + 1, h => by
    rw [nrTo_succ]
    by_cases e : s = n
    · subst e
      have h0 : (nrTo c l s).any (fun v => v == (s : Int)) = false := by
        rw [List.any_eq_false]
        intro v hv
        have := nrTo_lt c l s v hv
        simp; omega
      split
      · rename_i hg
        rw [List.any_append, h0, decide_eq_true hg]
        simp
      · rename_i hg
        rw [h0, decide_eq_false hg]
    · have ih := nrTo_has c l s n (by omega)
      split
      · rw [List.any_append, ih]
        have : ((n : Int) == (s : Int)) = false := beq_eq_false_iff_ne.2 (by omega)
        simp [this]
      · exact ih
theorem bk_two {c k o : List Int} (h : 0 ≤ waste c k) : bkTo c [k, o] 2 = if waste c o < waste c k then (1, waste c o) else (0, waste c k) := by
  have h1 : bkTo c [k, o] 1 = (0, waste c k) := by
    rw [bkTo_succ, if_pos (.inl (show (-1 : Int) < 0 by decide))]; rfl
  rw [bkTo_succ, h1]
  by_cases h2 : waste c o < waste c k
  · rw [if_pos (.inr h2), if_pos h2]; rfl
  · rw [if_neg (fun hh => hh.elim (fun h3 => by have h3 : waste c k < 0 := h3; omega) (fun h3 => h2 h3)), if_neg h2]
theorem byte_of {l : List Int} (h : Dom (.slc (.int .u8)) l) : ∀ v ∈ l, 0 ≤ v ∧ v ≤ 255 := fun v hv => by
  have h1 := h.2 v hv
  have h2 : IntKind.u8.min ≤ v := h1.1
  have h3 : v ≤ IntKind.u8.max := h1.2
  simp only [IntKind.min, IntKind.max, IntKind.signed, IntKind.bits] at h2 h3
  exact ⟨by simpa using h2, by simpa using h3⟩
end Go.Cams

/- A cam that is read as a program is made again by it, in plain terms. -/
namespace Go.Cams
open Go Go.Fw
/-- Stretches that follow each other. -/
def ChS (s : Int) : List Ct → Int → Prop
  | [], e => s = e
  | v :: r, e => v.2.1 = s ∧ 1 ≤ v.2.2.1 ∧ ChS (s + v.2.2.1) r e
theorem ChS.app : ∀ {L M : List Ct} {s m e : Int}, ChS s L m → ChS m M e → ChS s (L ++ M) e
  | [], _, _, _, _, h, k => by rw [show _ = _ from h]; exact k
  | v :: L, _, _, _, _, h, k => ⟨h.1, h.2.1, ChS.app h.2.2 k⟩
theorem ChS.le : ∀ {L : List Ct} {s e : Int}, ChS s L e → s + L.length ≤ e
  | [], _, _, h => by rw [show _ = _ from h]; simp
  | v :: L, s, e, h => by
    have := ChS.le h.2.2
    have := h.2.1
    simp only [List.length_cons]; omega
theorem rs_chain (c : List Int) : ∀ (left : Nat) (s : Int), 0 ≤ s → s + left ≤ (c.length : Int) → ChS s (rs c s left) (s + left) := by
  intro left
  induction left using Nat.strongRecOn with
  | ind left ih =>
    intro s h0 h1
    by_cases hl : left = 0
    · subst hl
      rw [rs_zero]
      show s = _
      simp
    · have hpos : 0 < left := by omega
      obtain ⟨a1, a2, _, _⟩ := rl_spec (kd c) s hpos
      rw [rs_pos c s hpos]
      refine ⟨Int.emod_eq_of_lt h0 (by omega), by show (1 : Int) ≤ ((rl (kd c) s left : Nat) : Int); omega, ?_⟩
      have := ih (left - rl (kd c) s left) (by omega) (s + ((rl (kd c) s left : Nat) : Int)) (by omega) (by omega)
      rw [show s + ((rl (kd c) s left : Nat) : Int) + ((left - rl (kd c) s left : Nat) : Int) = s + left by omega] at this
      exact this
theorem strP_chain {c : List Int} (h0 : 0 < c.length) : ChS 0 (strP c) c.length := by
  unfold strP runsP
  by_cases h : bk c = c.length
  · rw [if_pos h]
    show ChS 0 (if (0 : Int) > 0 then _ else _) _
    rw [if_neg (by omega)]
    exact ⟨rfl, by show (1 : Int) ≤ (c.length : Int); omega, by show (0 : Int) + (c.length : Int) = _; omega⟩
  · rw [if_neg h]
    obtain ⟨f1, f2⟩ := first_long h h0
    have hb := bk_lt c h0 h
    obtain ⟨a1, a2, _, _⟩ := rl_spec (kd c) (-(bk c : Int)) h0
    rw [rs_pos c _ h0]
    by_cases hb0 : bk c = 0
    · have hz : (-(bk c : Int)) % (c.length : Int) = 0 := by rw [hb0]; simp
      show ChS 0 (if (-(bk c : Int)) % (c.length : Int) > 0 then _ else _) _
      rw [hz, if_neg (by omega)]
      refine ⟨rfl, by show (1 : Int) ≤ ((rl (kd c) (-(bk c : Int)) c.length : Nat) : Int); omega, ?_⟩
      have := rs_chain c (c.length - rl (kd c) (-(bk c : Int)) c.length) (-(bk c : Int) + ((rl (kd c) (-(bk c : Int)) c.length : Nat) : Int)) (by omega) (by omega)
      rw [show -(bk c : Int) + ((rl (kd c) (-(bk c : Int)) c.length : Nat) : Int) + ((c.length - rl (kd c) (-(bk c : Int)) c.length : Nat) : Int) = (c.length : Int) by omega] at this
      have e : (0 : Int) + ((rl (kd c) (-(bk c : Int)) c.length : Nat) : Int) = -(bk c : Int) + ((rl (kd c) (-(bk c : Int)) c.length : Nat) : Int) := by omega
      show ChS (0 + ((rl (kd c) (-(bk c : Int)) c.length : Nat) : Int)) _ _
      rw [e]
      exact this
    · have hz : (-(bk c : Int)) % (c.length : Int) = (c.length : Int) - bk c := by
        have := Int.add_emod_right (-(bk c : Int)) c.length
        rw [← this]
        exact (Int.emod_eq_of_lt (by omega) (by omega)).trans (by omega)
      show ChS 0 (if (-(bk c : Int)) % (c.length : Int) > 0 then _ else _) _
      rw [if_pos (by rw [hz]; omega)]
      dsimp only
      rw [hz]
      refine ChS.app (m := (c.length : Int) - bk c) ⟨rfl, by show (1 : Int) ≤ (c.length : Int) - bk c + ((rl (kd c) (-(bk c : Int)) c.length : Nat) : Int) - c.length; omega, ?_⟩ ⟨rfl, by show (1 : Int) ≤ (c.length : Int) - ((c.length : Int) - bk c); omega, by show (c.length : Int) - bk c + ((c.length : Int) - ((c.length : Int) - bk c)) = _; omega⟩
      have := rs_chain c (c.length - rl (kd c) (-(bk c : Int)) c.length) (-(bk c : Int) + ((rl (kd c) (-(bk c : Int)) c.length : Nat) : Int)) (by omega) (by omega)
      rw [show -(bk c : Int) + ((rl (kd c) (-(bk c : Int)) c.length : Nat) : Int) + ((c.length - rl (kd c) (-(bk c : Int)) c.length : Nat) : Int) = (c.length : Int) - bk c by omega] at this
      show ChS (0 + ((c.length : Int) - bk c + ((rl (kd c) (-(bk c : Int)) c.length : Nat) : Int) - c.length)) _ _
      rw [show (0 : Int) + ((c.length : Int) - bk c + ((rl (kd c) (-(bk c : Int)) c.length : Nat) : Int) - c.length) = -(bk c : Int) + ((rl (kd c) (-(bk c : Int)) c.length : Nat) : Int) by omega]
      exact this
theorem liftP_zero {f t w n : Int} (n0 : 1 ≤ n) (n1 : n ≤ 360) : liftP f t w 0 n = f := by
  have hd := shD_bd (w := w) n0 n1
  have hs : shN w 0 n = 0 := by
    unfold shN
    split
    · rw [if_pos (by omega)]; simp
    split
    · simp
    split
    · simp
    · rfl
  unfold liftP
  rw [hs, Int.mul_zero, nr_from (by omega), nr_zero (by omega)]
  omega
theorem seg_fit {c : List Int} {s l : Int} (l0 : 1 ≤ l) (l1 : l ≤ 360) (h : 0 ≤ fitL c s l) (v : Ct) (hv : v = motP c (v.1, s, l, ())) : seg (cAt c s) v = (List.range l.toNat).map fun k => cAt c (s + (k : Nat)) := by
  have hw : fitW c s l (fitL c s l) = true := by
    unfold fitL at h ⊢
    split
    · assumption
    split
    · assumption
    split
    · assumption
    split
    · assumption
    · rename_i a1 a2 a3 a4
      rw [if_neg a1, if_neg a2, if_neg a3, if_neg a4] at h
      omega
  rw [hv]
  unfold seg motP
  dsimp only
  apply List.map_congr_left
  intro k hk
  have hk := List.mem_range.1 hk
  by_cases k0 : k = 0
  · subst k0
    show liftP (cAt c s) (cAt c (s + l)) (fitL c s l) 0 l = cAt c (s + 0)
    rw [liftP_zero l0 l1, Int.add_zero]
  · have h1 := (allTo_iff _ _).1 hw (k - 1) (by omega)
    rw [beq_iff_eq] at h1
    rw [show (((k - 1 : Nat) : Int) + 1) = (k : Int) by omega] at h1
    exact h1.symm
theorem proF_fit {c : List Int} (hl : (c.length : Int) ≤ 360) : ∀ (L : List Ct) (s : Int), 0 ≤ s → ChS s L c.length → (∀ v ∈ L, 0 ≤ fitL c v.2.1 v.2.2.1) → proF (cAt c s) (L.map (motP c)) = (List.range ((c.length : Int) - s).toNat).map fun k => cAt c (s + (k : Nat))
  | [], s, _, h, _ => by
    have h : s = c.length := h
    rw [h]; simp [proF]
  | v :: r, s, h0, h, hf => by
    obtain ⟨h1, h2, h3⟩ := h
    have hle := h3.le
    have hv := hf v (by simp)
    rw [h1] at hv
    have e1 : motP c v = (fitL c s v.2.2.1, v.2.2.1, cAt c (s + v.2.2.1), ()) := by unfold motP; rw [h1]
    have ih := proF_fit hl r (s + v.2.2.1) (by omega) h3 fun u hu => hf u (by simp [hu])
    rw [List.map_cons, proF, e1]
    dsimp only
    rw [ih, seg_fit h2 (by omega) hv _ rfl]
    rw [show ((c.length : Int) - s).toNat = v.2.2.1.toNat + ((c.length : Int) - (s + v.2.2.1)).toNat by omega, List.range_add, List.map_append, List.map_map]
    congr 1
    apply List.map_congr_left
    intro k _
    show cAt c (s + v.2.2.1 + (k : Nat)) = cAt c (s + ((v.2.2.1.toNat + k : Nat) : Int))
    congr 1
    omega
end Go.Cams
namespace Go.Cams
open Go Go.Fw
theorem liftP_full {f t w n : Int} (w0 : 0 ≤ w) (w1 : w ≤ 3) (n0 : 1 ≤ n) (n1 : n ≤ 360) : liftP f t w n n = t := by
  have hd := shD_bd (w := w) n0 n1
  have hs : shN w n n = shD w n := by
    rcases (show w = 0 ∨ w = 1 ∨ w = 2 ∨ w = 3 by omega) with rfl | rfl | rfl | rfl
    · rfl
    · unfold shN shD
      rw [if_pos rfl, if_pos rfl, if_neg (by omega)]; grind
    · unfold shN shD
      rw [if_neg (by decide), if_pos rfl, if_neg (by decide), if_pos rfl]; grind
    · unfold shN shD
      rw [if_neg (by decide), if_neg (by decide), if_pos rfl, if_neg (by decide), if_neg (by decide), if_pos rfl]; grind
  unfold liftP
  rw [hs]
  have e : f * shD w n + (t - f) * shD w n = t * shD w n + 0 := by grind
  rw [e, nr_from (by omega), nr_zero (by omega)]
  omega
theorem lift_fit {c : List Int} {s l k : Int} (l0 : 1 ≤ l) (l1 : l ≤ 360) (h : 0 ≤ fitL c s l) (k0 : 0 ≤ k) (k1 : k ≤ l) : liftP (cAt c s) (cAt c (s + l)) (fitL c s l) k l = cAt c (s + k) := by
  by_cases hk : k = l
  · rw [hk, liftP_full h (fitL_bd c s l).2 l0 l1]
  · have hsg := seg_fit l0 l1 h (motP c (0, s, l, ())) rfl
    have h1 : ((seg (cAt c s) (motP c (0, s, l, ())))[k.toNat]?) = some (liftP (cAt c s) (cAt c (s + l)) (fitL c s l) k l) := by
      unfold seg motP
      dsimp only
      rw [List.getElem?_map, List.getElem?_range (by omega)]
      simp only [Option.map_some]
      rw [show ((k.toNat : Nat) : Int) = k by omega]
    rw [hsg, List.getElem?_map, List.getElem?_range (by omega)] at h1
    simp only [Option.map_some, Option.some.injEq] at h1
    rw [← h1, show ((k.toNat : Nat) : Int) = k by omega]
theorem chain_sum (c : List Int) : ∀ (L : List Ct) (s e : Int), ChS s L e → sumM (L.map (motP c)) = e - s
  | [], s, e, h => by rw [show s = e from h]; simp [sumM]
  | v :: r, s, e, h => by
    have ih := chain_sum c r _ _ h.2.2
    simp only [List.map_cons, sumM, ih]
    show v.2.2.1 + _ = _
    omega
theorem chain_last (c : List Int) : ∀ (M : List Ct) (v : Ct) (s e : Int), ChS s (M ++ [v]) e → v.2.1 + v.2.2.1 = e
  | [], v, s, e, h => by
    have h3 : s + v.2.2.1 = e := h.2.2
    rw [h.1]; exact h3
  | u :: M, v, s, e, h => chain_last c M v _ _ h.2.2
/-- What is read as a program. -/
theorem fp_cases {c : List Int} (S : SmC c) : (∃ r, (r = 3 ∨ r = 6) ∧ fpR c = ((0, [], ()), r, ())) ∨ (∃ L : List Ct, fpR c = ((g c 0, L, ()), 0, ()) ∧ RngPg (g c 0, L, ()) ∧ okPg (g c 0, L, ()) = true ∧ (∀ v ∈ L, MoIn 0 10000 v) ∧ proF (g c 0) L = c) := by
  have hl := S.len
  have hc0 : 0 < c.length := by omega
  have ok := S.ok
  have c0 : cAt c 0 = g c 0 := cAt_self (p := 0) hc0
  have cb : ∀ x, 0 ≤ cAt c x ∧ cAt c x ≤ 59 := fun x => S.el _ (cAt_mem hc0 x)
  have hch := strP_chain hc0
  unfold fpR
  rw [ok, if_neg (by decide)]
  split
  · exact .inl ⟨3, .inl rfl, rfl⟩
  rename_i h24
  split
  · rename_i hall
    right
    have hf : ∀ v ∈ strP c, 0 ≤ fitL c v.2.1 v.2.2.1 := fun v hv => by
      have := List.all_eq_true.1 hall v hv
      have : ¬ fitL c v.2.1 v.2.2.1 < 0 := by simpa using this
      omega
    have hel := (strP_el hc0).2
    have hin : ∀ v ∈ (strP c).map (motP c), (0 ≤ v.1 ∧ v.1 ≤ 3) ∧ (1 ≤ v.2.1 ∧ v.2.1 ≤ 45) ∧ (0 ≤ v.2.2.1 ∧ v.2.2.1 ≤ 59) := fun v hv => by
      obtain ⟨u, hu, rfl⟩ := List.mem_map.1 hv
      have h1 := hf u hu
      have h2 := (fitL_bd c u.2.1 u.2.2.1).2
      have h3 := (hel u hu).2.2
      have h4 := cb (u.2.1 + u.2.2.1)
      unfold motP
      dsimp only
      omega
    have hlm : (((strP c).map (motP c)).length : Int) = (strP c).length := by simp
    have g0 := cb 0
    rw [c0] at g0
    have hr : RngPg (g c 0, (strP c).map (motP c), ()) := ⟨by dsimp only; omega, by dsimp only; omega, fun v hv => by have := hin v hv; omega⟩
    refine ⟨(strP c).map (motP c), rfl, hr, ?_, fun v hv => ?_, ?_⟩
    · have hpos : 0 < (strP c).length := by
        apply Classical.byContradiction
        intro hn
        have e0 : strP c = [] := List.length_eq_zero_iff.1 (by omega)
        rw [e0] at hch
        have : (0 : Int) = c.length := hch
        omega
      obtain ⟨M, v, hM⟩ := last_split hpos
      have hlast := chain_last c M v 0 _ (hM ▸ hch)
      have hsum := chain_sum c (strP c) 0 _ hch
      have hmo : ((strP c).map (motP c)).all moOk = true := List.all_eq_true.2 fun v hv => by
        have h1 := hin v hv
        unfold moOk
        rw [hr.m.i1 hv, hr.m.i3 hv]
        simp only [Bool.and_eq_true, inR_iff, Bool.not_eq_true', decide_eq_false_iff_not]
        omega
      have hlt : lastT ((strP c).map (motP c)) = g c 0 := by
        rw [hM, List.map_append, List.map_cons, List.map_nil, lastT_snoc]
        show cAt c (v.2.1 + v.2.2.1) = _
        rw [hlast]
        have := cAt_add c 0
        rw [Int.zero_add] at this
        rw [this, c0]
      unfold okPg
      dsimp only
      rw [hmo, hlt, hsum, wrap_id (x := g c 0) (by omega) (by omega)]
      simp only [Bool.and_eq_true, inR_iff, beq_self_eq_true, and_true]
      omega
    · have := hin v hv
      exact ⟨this.1, by omega, by omega⟩
    · have h := proF_fit (by omega) (strP c) 0 (Int.le_refl _) hch hf
      rw [c0] at h
      rw [h]
      apply List.ext_getElem?
      intro p
      by_cases hp : p < c.length
      · rw [List.getElem?_map, List.getElem?_range (by omega)]
        simp only [Option.map_some, Int.zero_add]
        rw [cAt_self hp]
        have a2 := (g_idx (l := c) (i := (p : Int)) (by omega) (by omega)).get
        rw [Int.toNat_natCast] at a2
        exact a2.symm
      · rw [List.getElem?_eq_none (by simp; omega), List.getElem?_eq_none (by omega)]
  · exact .inl ⟨6, .inr rfl, rfl⟩
end Go.Cams
namespace Go.Cams
def fmR (c : List Int) (s l : Int) : Int × (Int × Unit) := if fitL c s l < 0 then (0, 6, ()) else (fitL c s l, 0, ())
end Go.Cams

/- The lifts of a motion rise evenly, in plain terms. -/
namespace Go.Cams
open Go Go.Fw
theorem shN_up {w k n : Int} (w0 : 0 ≤ w) (w1 : w ≤ 3) (k0 : 0 ≤ k) (k1 : k < n) : shN w k n ≤ shN w (k + 1) n := by
  obtain ⟨m, rfl⟩ : ∃ m, n = k + m + 1 := ⟨n - k - 1, by omega⟩
  have m0 : 0 ≤ m := by omega
  have kk := Int.mul_nonneg k0 k0
  have km := Int.mul_nonneg k0 m0
  have mm := Int.mul_nonneg m0 m0
  rcases (show w = 0 ∨ w = 1 ∨ w = 2 ∨ w = 3 by omega) with rfl | rfl | rfl | rfl
  · unfold shN; simp; omega
  · unfold shN
    rw [if_pos rfl, if_pos rfl]
    split
    · rename_i h
      split
      · have : 2 * (k + 1) * (k + 1) = 2 * k * k + (4 * k + 2) := by grind
        omega
      · rename_i h2
        have e : (k + m + 1) * (k + m + 1) - 2 * (k + m + 1 - (k + 1)) * (k + m + 1 - (k + 1)) - 2 * k * k = 2 * (k * m) - k * k - m * m + 2 * k + 2 * m + 1 := by grind
        have hk : k = m ∨ k = m + 1 ∨ k + 1 = m := by omega
        rcases hk with h3 | h3 | h3
        · subst h3; omega
        · subst h3
          have : 2 * ((m + 1) * m) - (m + 1) * (m + 1) - m * m = -1 := by grind
          omega
        · subst h3
          have : 2 * (k * (k + 1)) - k * k - (k + 1) * (k + 1) = -1 := by grind
          omega
    · rename_i h
      split
      · omega
      · have e : (k + m + 1) * (k + m + 1) - 2 * (k + m + 1 - (k + 1)) * (k + m + 1 - (k + 1)) - ((k + m + 1) * (k + m + 1) - 2 * (k + m + 1 - k) * (k + m + 1 - k)) = 4 * m + 2 := by grind
        omega
  · unfold shN
    rw [if_neg (by decide), if_pos rfl, if_neg (by decide), if_pos rfl]
    have e : 3 * (k + 1) * (k + 1) * (k + m + 1) - 2 * (k + 1) * (k + 1) * (k + 1) - (3 * k * k * (k + m + 1) - 2 * k * k * k) = 6 * (k * m) + 3 * k + 3 * m + 1 := by grind
    omega
  · unfold shN
    rw [if_neg (by decide), if_neg (by decide), if_pos rfl, if_neg (by decide), if_neg (by decide), if_pos rfl]
    have e : (k + 1) * (k + 1) * (k + 1) * (10 * (k + m + 1) * (k + m + 1) - 15 * (k + 1) * (k + m + 1) + 6 * (k + 1) * (k + 1)) - k * k * k * (10 * (k + m + 1) * (k + m + 1) - 15 * k * (k + m + 1) + 6 * k * k) = 30 * ((k * k) * (m * m)) + 30 * ((k * k) * m) + 10 * (k * k) + 30 * (k * (m * m)) + 20 * (k * m) + 5 * k + 10 * (m * m) + 5 * m + 1 := by grind
    have a1 := Int.mul_nonneg kk mm
    have a2 := Int.mul_nonneg kk m0
    have a3 := Int.mul_nonneg k0 mm
    omega
theorem nr_mono {x y d : Int} (hd : 0 < d) (h : x ≤ y) : nr x d ≤ nr y d := by
  unfold nr
  exact Int.ediv_le_ediv (by omega) (by omega)
/-- A lift that rises never falls between. -/
theorem liftP_up {f t w k n : Int} (w0 : 0 ≤ w) (w1 : w ≤ 3) (k0 : 0 ≤ k) (k1 : k < n) (n1 : n ≤ 360) (h : f ≤ t) : liftP f t w k n ≤ liftP f t w (k + 1) n := by
  have hd := shD_bd (w := w) (n := n) (by omega) n1
  have hs := shN_up w0 w1 k0 k1
  unfold liftP
  refine nr_mono (by omega) ?_
  have := Int.mul_le_mul_of_nonneg_left hs (show 0 ≤ t - f by omega)
  omega
end Go.Cams
namespace Go.Cams
open Go Go.Fw
/-- The greatest size of numbers, and its first place. -/
def grS (q : Int × Int × Int) (v : Int) : Int × Int × Int := if siz v > q.2.1 then (q.2.2, siz v, q.2.2 + 1) else (q.1, q.2.1, q.2.2 + 1)
def gr (l : List Int) : Int × Int × Int := l.foldl grS (0, -1, 0)
theorem gr_snoc (l : List Int) (v : Int) : gr (l ++ [v]) = grS (gr l) v := by simp [gr, List.foldl_append]
theorem grS_n (q : Int × Int × Int) (v : Int) : (grS q v).2.2 = q.2.2 + 1 := by unfold grS; split <;> rfl
theorem gr_n (l : List Int) : ∀ (q : Int × Int × Int), (l.foldl grS q).2.2 = q.2.2 + l.length := by
  induction l with
  | nil => intro q; simp
  | cons v l ih => intro q; rw [List.foldl_cons, ih, grS_n, List.length_cons]; omega
theorem gr_le : ∀ (l : List Int) (q : Int × Int × Int) (m : Int), ((l.foldl grS q).2.1 ≤ m) ↔ (q.2.1 ≤ m ∧ ∀ v ∈ l, siz v ≤ m)
  | [], q, m => by simp
  | v :: l, q, m => by
    rw [List.foldl_cons, gr_le l (grS q v) m]
    have : (grS q v).2.1 ≤ m ↔ q.2.1 ≤ m ∧ siz v ≤ m := by
      unfold grS
      split <;> simp only <;> omega
    rw [this]
    simp only [List.mem_cons, forall_eq_or_imp]
    exact ⟨fun h => ⟨h.1.1, h.1.2, h.2⟩, fun h => ⟨⟨h.1, h.2.1⟩, h.2.2⟩⟩
end Go.Cams

/- The least number of steps of a motion, its bends, and planned programs, in plain terms. -/
namespace Go.Cams
open Go Go.Fw
/-- The changes of a motion. -/
def chgs (f t w : Int) (n : Nat) : List Int := tb n fun k => liftP f t w ((k : Nat) + 1) n - liftP f t w (k : Nat) n
theorem tb_mem {α : Type} {n : Nat} {G : Nat → α} {v : α} (h : v ∈ tb n G) : ∃ i, i < n ∧ v = G i := by
  simp only [tb, List.mem_map, List.mem_range] at h
  obtain ⟨i, hi, e⟩ := h
  exact ⟨i, hi, e.symm⟩
theorem mem_tb {α : Type} {n : Nat} {G : Nat → α} {i : Nat} (h : i < n) : G i ∈ tb n G := by
  simp only [tb, List.mem_map, List.mem_range]
  exact ⟨i, h, rfl⟩
theorem tb_at {α : Type} {n : Nat} {G : Nat → α} {i : Int} (h0 : 0 ≤ i) (h1 : i < (n : Int)) : At (tb n G) i (G i.toNat) := by
  obtain ⟨v, hv⟩ := at_of (l := tb n G) h0 (by rw [tb_len]; exact h1)
  have e := hv.get
  rw [tb_get (show i.toNat < n by omega)] at e
  rw [Option.some.inj e]; exact hv
theorem siz_nn (v : Int) : 0 ≤ siz v := by unfold siz; split <;> omega
theorem siz_le {v m : Int} (h1 : -m ≤ v) (h2 : v ≤ m) : siz v ≤ m := by unfold siz; split <;> omega
theorem chg_bd {f t w : Int} {n i : Nat} (f0 : 0 ≤ f) (f1 : f ≤ 10000) (t0 : 0 ≤ t) (t1 : t ≤ 10000) (w0 : 0 ≤ w) (w1 : w ≤ 3) (hn : n ≤ 360) (h : i < n) : -10000 ≤ liftP f t w ((i : Nat) + 1) n - liftP f t w (i : Nat) n ∧ liftP f t w ((i : Nat) + 1) n - liftP f t w (i : Nat) n ≤ 10000 := by
  have b1 := liftP_in (f := f) (t := t) (w := w) (k := (i : Int)) (n := (n : Int)) (lo := 0) (hi := 10000) w0 w1 (by omega) (by omega) (by omega) (by omega) f0 f1 t0 t1
  have b2 := liftP_in (f := f) (t := t) (w := w) (k := (i : Int) + 1) (n := (n : Int)) (lo := 0) (hi := 10000) w0 w1 (by omega) (by omega) (by omega) (by omega) f0 f1 t0 t1
  omega
theorem chgs_bd {f t w : Int} {n : Nat} (f0 : 0 ≤ f) (f1 : f ≤ 10000) (t0 : 0 ≤ t) (t1 : t ≤ 10000) (w0 : 0 ≤ w) (w1 : w ≤ 3) (hn : n ≤ 360) : ∀ v ∈ chgs f t w n, -10000 ≤ v ∧ v ≤ 10000 := fun v hv => by
  obtain ⟨i, hi, rfl⟩ := tb_mem hv
  exact chg_bd f0 f1 t0 t1 w0 w1 hn hi
/-- Are all changes within a bound? -/
def okN (w r m : Int) (n : Nat) : Bool := decide ((gr (chgs 0 r w n)).2.1 ≤ m)
theorem okN_all {w r m : Int} (hm : 0 ≤ m) (n : Nat) : allTo (fun j => decide (siz (liftP 0 r w ((j : Nat) + 1) n - liftP 0 r w (j : Nat) n) ≤ m)) n = okN w r m n := by
  rw [Bool.eq_iff_iff, allTo_iff]
  unfold okN
  rw [decide_eq_true_iff]
  unfold gr
  rw [gr_le]
  constructor
  · intro h
    refine ⟨by show (-1 : Int) ≤ m; omega, fun v hv => ?_⟩
    obtain ⟨i, hi, rfl⟩ := tb_mem hv
    exact of_decide_eq_true (h i hi)
  · intro h i hi
    exact decide_eq_true (h.2 _ (mem_tb (G := fun k : Nat => liftP 0 r w ((k : Nat) + 1) n - liftP 0 r w (k : Nat) n) hi))
def lsF (w r m : Int) : Nat → Nat → Int × (Int × Unit)
  | 0, _ => (0, 6, ())
  | f + 1, n => if okN w r m n = true then ((n : Int), 0, ()) else lsF w r m f (n + 1)
def lsR (w r m : Int) : Int × (Int × Unit) := lsF w r m 360 1
theorem lsF_spec (w r m : Int) : ∀ f n, 1 ≤ n → (n = 1 ∨ okN w r m (n - 1) = false) → (lsF w r m f n = (0, 6, ())) ∨ ∃ k : Nat, lsF w r m f n = ((k : Int), 0, ()) ∧ n ≤ k ∧ k < n + f ∧ okN w r m k = true ∧ (k = 1 ∨ okN w r m (k - 1) = false)
  | 0, n, _, _ => .inl rfl
  | f + 1, n, h1, h => by
    unfold lsF
    by_cases hk : okN w r m n = true
    · rw [if_pos hk]
      exact .inr ⟨n, rfl, Nat.le_refl _, by omega, hk, h⟩
    · rw [if_neg hk]
      rcases lsF_spec w r m f (n + 1) (by omega) (.inr (by simpa using hk)) with e | ⟨k, e, k1, k2, k3, k4⟩
      · exact .inl e
      · exact .inr ⟨k, e, by omega, by omega, k3, k4⟩
theorem lsR_spec (w r m : Int) : lsR w r m = (0, 6, ()) ∨ ∃ k : Nat, lsR w r m = ((k : Int), 0, ()) ∧ 1 ≤ k ∧ k ≤ 360 ∧ okN w r m k = true ∧ (k = 1 ∨ okN w r m (k - 1) = false) := by
  rcases lsF_spec w r m 360 1 (Nat.le_refl _) (.inl rfl) with e | ⟨k, e, k1, k2, k3, k4⟩
  · exact .inl e
  · exact .inr ⟨k, e, k1, by omega, k3, k4⟩
/-- Of a motion that rises a change is its own size. -/
theorem okN_wide {w r m : Int} (w0 : 0 ≤ w) (w1 : w ≤ 3) (r0 : 0 ≤ r) (hm : 0 ≤ m) {n : Nat} (n1 : n ≤ 360) : (!okN w r m n) = !allTo (fun j => decide (liftP 0 r w ((j : Nat) + 1) n - liftP 0 r w (j : Nat) n ≤ m)) n := by
  rw [← okN_all hm]
  congr 1
  rw [Bool.eq_iff_iff, allTo_iff, allTo_iff]
  have key : ∀ i, i < n → siz (liftP 0 r w ((i : Nat) + 1) n - liftP 0 r w (i : Nat) n) = liftP 0 r w ((i : Nat) + 1) n - liftP 0 r w (i : Nat) n := fun i hi => by
    have := liftP_up (f := 0) (t := r) (w := w) (k := (i : Nat)) (n := n) w0 w1 (by omega) (by omega) (by omega) r0
    unfold siz
    rw [if_neg (by omega)]
  exact ⟨fun h i hi => by rw [← key i hi]; exact h i hi, fun h i hi => by rw [key i hi]; exact h i hi⟩
/-! ### Bends of a motion -/
def chg (f t w : Int) (n k : Nat) : Int := if k < n then liftP f t w ((k : Nat) + 1) n - liftP f t w (k : Nat) n else 0
def bnd (f t w : Int) (n k : Nat) : Int := chg f t w n k - (if k = 0 then 0 else chg f t w n (k - 1))
def bnds (f t w : Int) (n : Nat) : List Int := tb (n + 1) fun k => bnd f t w n k
theorem chg_in {f t w : Int} {n i : Nat} (f0 : 0 ≤ f) (f1 : f ≤ 10000) (t0 : 0 ≤ t) (t1 : t ≤ 10000) (w0 : 0 ≤ w) (w1 : w ≤ 3) (hn : n ≤ 360) : -10000 ≤ chg f t w n i ∧ chg f t w n i ≤ 10000 := by
  unfold chg
  split
  · rename_i h; exact chg_bd f0 f1 t0 t1 w0 w1 hn h
  · omega
theorem bnd_in {f t w : Int} {n i : Nat} (f0 : 0 ≤ f) (f1 : f ≤ 10000) (t0 : 0 ≤ t) (t1 : t ≤ 10000) (w0 : 0 ≤ w) (w1 : w ≤ 3) (hn : n ≤ 360) : -20000 ≤ bnd f t w n i ∧ bnd f t w n i ≤ 20000 := by
  have h1 := chg_in (i := i) f0 f1 t0 t1 w0 w1 hn
  have h2 := chg_in (i := i - 1) f0 f1 t0 t1 w0 w1 hn
  unfold bnd
  split <;> omega
theorem chgs_more (f t w : Int) (n : Nat) : chgs f t w n ++ [0] = tb (n + 1) fun k => chg f t w n k := by
  rw [← tb_snoc]
  congr 1
  · exact tb_ext fun j hj => by unfold chg; rw [if_pos hj]
  · unfold chg; rw [if_neg (by omega)]
def mxS (l : List Int) : Int := l.foldl (fun m v => max m (siz v)) 0
theorem mxS_snoc (l : List Int) (v : Int) : mxS (l ++ [v]) = max (mxS l) (siz v) := by simp [mxS, List.foldl_append]
theorem mxS_le' : ∀ (l : List Int) (q m : Int), (l.foldl (fun m v => max m (siz v)) q ≤ m) ↔ (q ≤ m ∧ ∀ v ∈ l, siz v ≤ m)
  | [], q, m => by simp
  | v :: l, q, m => by
    rw [List.foldl_cons, mxS_le' l _ m]
    simp only [List.mem_cons, forall_eq_or_imp]
    constructor
    · rintro ⟨h1, h2⟩; exact ⟨by omega, by omega, h2⟩
    · rintro ⟨h1, h2, h3⟩; exact ⟨by omega, h3⟩
theorem gr_mxS {l : List Int} (h : l ≠ []) : (gr l).2.1 = mxS l := by
  have key : ∀ m : Int, (gr l).2.1 ≤ m ↔ mxS l ≤ m := fun m => by
    unfold gr mxS
    rw [gr_le, mxS_le']
    obtain ⟨v, r, rfl⟩ := List.exists_cons_of_ne_nil h
    constructor
    · rintro ⟨_, h2⟩
      have := h2 v (by simp)
      have := siz_nn v
      exact ⟨by omega, h2⟩
    · rintro ⟨h1, h2⟩
      exact ⟨by show (-1 : Int) ≤ m; omega, h2⟩
  exact Int.le_antisymm ((key _).2 (Int.le_refl _)) ((key _).1 (Int.le_refl _))
theorem mxS_nn (l : List Int) : 0 ≤ mxS l := ((mxS_le' l 0 (mxS l)).1 (Int.le_refl _)).1
theorem bnds_ne (f t w : Int) (n : Nat) : bnds f t w n ≠ [] := fun h => by
  have := congrArg List.length h
  simp [bnds, tb_len] at this
theorem bnds_snoc (f t w : Int) (n i : Nat) : tb i (fun k => bnd f t w n k) ++ [bnd f t w n i] = tb (i + 1) fun k => bnd f t w n k := tb_snoc i fun k => bnd f t w n k
/-- The easiest law. -/
def esF (s : Nat → Int) : Nat → Int × Int
  | 0 => (0, s 0)
  | k + 1 => if s (k + 1) < (esF s k).2 then (((k : Nat) : Int) + 1, s (k + 1)) else esF s k
def esS (f t : Int) (n : Nat) (w : Nat) : Int := mxS (bnds f t (w : Int) n)
def esR (f t : Int) (n : Nat) : Int × (Int × (Int × Unit)) := ((esF (esS f t n) 3).1, (esF (esS f t n) 3).2, 0, ())
theorem esF_in {s : Nat → Int} (h : ∀ k, 0 ≤ s k) : ∀ k, 0 ≤ (esF s k).1 ∧ (esF s k).1 ≤ (k : Int) ∧ 0 ≤ (esF s k).2
  | 0 => ⟨Int.le_refl _, Int.le_refl _, h 0⟩
  | k + 1 => by
    have := esF_in h k
    have := h (k + 1)
    unfold esF
    split
    · simp only; omega
    · omega
/-! ### Planned programs -/
def mosP (law : Int) (to S : Nat → Int) (n : Nat) : List Ct := tb n fun i => (law, S i, to i, ())
def pick (z S : Nat → Int) : Nat → Nat
  | 0 => 0
  | i + 1 => if z i * S (pick z S i) > z (pick z S i) * S i then i else pick z S i
theorem pick_lt (z S : Nat → Int) {n : Nat} (h : 0 < n) : ∀ i, i ≤ n → pick z S i < n
  | 0, _ => h
  | i + 1, hi => by
    have := pick_lt z S h i (by omega)
    unfold pick
    split <;> omega
theorem pick_one (z S : Nat → Int) : pick z S 1 = 0 := by unfold pick; split <;> rfl
def more (z S : Nat → Int) (n : Nat) : Nat → Int := fun i => if i = pick z S n then S i + 1 else S i
def plan (z : Nat → Int) (n : Nat) : Nat → Nat → Int
  | 0 => fun _ => 1
  | k + 1 => more z (plan z n k) n
def sumN (S : Nat → Int) : Nat → Int
  | 0 => 0
  | i + 1 => sumN S i + S i
theorem sumN_up (S : Nat → Int) (a : Nat) : ∀ n, sumN (fun i => if i = a then S i + 1 else S i) n = sumN S n + if a < n then 1 else 0
  | 0 => by simp [sumN]
  | n + 1 => by
    unfold sumN
    rw [sumN_up S a n]
    by_cases h : n = a
    · subst h; rw [if_pos rfl, if_neg (by omega), if_pos (by omega)]; omega
    · rw [if_neg h]
      by_cases h2 : a < n
      · rw [if_pos h2, if_pos (by omega)]; omega
      · rw [if_neg h2, if_neg (by omega)]; omega
theorem sumN_one (n : Nat) : sumN (fun _ => 1) n = n := by
  induction n with
  | zero => rfl
  | succ n ih => unfold sumN; rw [ih]; omega
theorem sumN_el {S : Nat → Int} (h : ∀ i, 1 ≤ S i) : ∀ {n i : Nat}, i < n → S i + (n : Int) - 1 ≤ sumN S n
  | 0, i, hi => by omega
  | n + 1, i, hi => by
    have h0 : ∀ n : Nat, (n : Int) ≤ sumN S n := fun n => by
      induction n with
      | zero => exact Int.le_refl _
      | succ n ih => unfold sumN; have := h n; omega
    unfold sumN
    by_cases e : i = n
    · subst e; have := h0 i; omega
    · have := sumN_el h (n := n) (i := i) (by omega)
      have := h n
      omega
structure GoodP2 (n k : Nat) (S : Nat → Int) : Prop where
  one : ∀ i, 1 ≤ S i
  sum : sumN S n = n + k
theorem plan_good (z : Nat → Int) {n : Nat} (h : 0 < n) : ∀ k, GoodP2 n k (plan z n k)
  | 0 => ⟨fun _ => Int.le_refl _, by show sumN (fun _ => 1) n = _; rw [sumN_one]; omega⟩
  | k + 1 => by
    have ih := plan_good z h k
    refine ⟨fun i => ?_, ?_⟩
    · have := ih.one i
      show 1 ≤ more z (plan z n k) n i
      unfold more
      split <;> omega
    · show sumN (more z (plan z n k) n) n = _
      unfold more
      rw [sumN_up, ih.sum, if_pos (pick_lt z _ h n (Nat.le_refl _))]
      omega
theorem GoodP2.le {n k : Nat} {S : Nat → Int} (h : GoodP2 n k S) {i : Nat} (hi : i < n) : 1 ≤ S i ∧ S i ≤ k + 1 := by
  have h1 := sumN_el h.one hi
  rw [h.sum] at h1
  exact ⟨h.one i, by omega⟩
theorem mosP_set (law : Int) (to S : Nat → Int) (n a : Nat) : (mosP law to S n).set a (law, S a + 1, to a, ()) = mosP law to (fun i => if i = a then S i + 1 else S i) n := by
  unfold mosP
  rw [tb_set]
  exact tb_ext fun j _ => by
    by_cases h : j = a
    · subst h; simp
    · simp [h]
/-- Where a planned program's motions lead, and how far they are. -/
def toL (l : List Int) (i : Nat) : Int := g l ((i + 1) % l.length)
def zL (l : List Int) (i : Nat) : Int := siz (toL l i - g l i)
theorem toL_in {l : List Int} (h : 0 < l.length) (he : ∀ v ∈ l, 0 ≤ v ∧ v ≤ 10000) (i : Nat) : 0 ≤ toL l i ∧ toL l i ≤ 10000 := he _ (g_mem (Nat.mod_lt _ h))
theorem zL_in {l : List Int} {i : Nat} (h : 0 < l.length) (he : ∀ v ∈ l, 0 ≤ v ∧ v ≤ 10000) (hi : i < l.length) : 0 ≤ zL l i ∧ zL l i ≤ 10000 := by
  have a := toL_in h he i
  have b := he _ (g_mem hi)
  exact ⟨siz_nn _, siz_le (by omega) (by omega)⟩
theorem toL_at {l : List Int} {i : Nat} (h : 0 < l.length) (hi : i < l.length) : At l (Int.tmod ((i : Int) + 1) (l.length : Int)) (toL l i) := by
  have hm := Nat.mod_lt (i + 1) h
  have e : Int.tmod ((i : Int) + 1) (l.length : Int) = (((i + 1) % l.length : Nat) : Int) := by
    rw [Int.tmod_eq_emod_of_nonneg (by omega), Int.natCast_emod, Int.natCast_add]
    rfl
  rw [e]
  have := g_idx (l := l) (i := (((i + 1) % l.length : Nat) : Int)) (by omega) (by omega)
  rwa [Int.toNat_natCast] at this
theorem mosP_sum (law : Int) (to S : Nat → Int) : ∀ n, sumM (mosP law to S n) = sumN S n
  | 0 => rfl
  | n + 1 => by
    unfold mosP
    rw [← tb_snoc, sumM_snoc]
    show sumM (mosP law to S n) + S n = _
    rw [mosP_sum law to S n]
    rfl
theorem mosP_rng {law : Int} {to S : Nat → Int} {n : Nat} (l0 : 0 ≤ law) (l1 : law ≤ 3) (hn : n ≤ 24) (ht : ∀ i, i < n → 0 ≤ to i ∧ to i ≤ 10000) (hS : ∀ i, i < n → 1 ≤ S i ∧ S i ≤ 360) : RngMo (mosP law to S n) := by
  refine ⟨by unfold mosP; rw [tb_len]; omega, fun v hv => ?_⟩
  obtain ⟨i, hi, rfl⟩ := tb_mem hv
  have := ht i hi
  have := hS i hi
  simp only
  omega
theorem mosP_ok {law : Int} {to S : Nat → Int} {n : Nat} {s : Int} (l0 : 0 ≤ law) (l1 : law ≤ 3) (h0 : 0 < n) (hn : n ≤ 24) (ht : ∀ i, i < n → 0 ≤ to i ∧ to i ≤ 10000) (hS : ∀ i, i < n → 1 ≤ S i ∧ S i ≤ 360) (s0 : 8 ≤ sumN S n) (s1 : sumN S n ≤ 360) (hs : to (n - 1) = s) (hs0 : 0 ≤ s) (hs1 : s ≤ 10000) : okPg (s, mosP law to S n, ()) = true := by
  have hl : (mosP law to S n).length = n := tb_len _ _
  unfold okPg
  simp only [Bool.and_eq_true, inR_iff, List.all_eq_true, beq_iff_eq]
  refine ⟨⟨⟨⟨by rw [hl]; omega, by rw [wrap_id (by omega) (by omega)]; omega⟩, fun v hv => ?_⟩, by rw [mosP_sum]; omega⟩, ?_⟩
  · obtain ⟨i, hi, rfl⟩ := tb_mem hv
    have a1 := ht i hi
    have a2 := hS i hi
    unfold moOk
    simp only [Bool.and_eq_true, inR_iff, Bool.not_eq_true', decide_eq_false_iff_not]
    rw [wrap_id (x := law) (by omega) (by omega), wrap_id (x := to i) (by omega) (by omega)]
    omega
  · have ha := tb_at (n := n) (G := fun i => ((law, S i, to i, ()) : Ct)) (i := (n : Int) - 1) (by omega) (by omega)
    unfold lastT
    rw [hl]
    show ((idx (tb n fun i => ((law, S i, to i, ()) : Ct)) ((n : Int) - 1)).map fun v => v.2.2.1).getD 0 = s
    rw [ha.idx]
    show to ((n : Int) - 1).toNat = s
    rw [show ((n : Int) - 1).toNat = n - 1 by omega]
    exact hs
end Go.Cams

/- Drawn cams, lag and feet, in plain terms. -/
namespace Go.Cams
open Go Go.Fw
/-- A cam as it is drawn. -/
structure SmD (c : List Int) : Prop where
  len : 8 ≤ (c.length : Int) ∧ (c.length : Int) ≤ 36
  el : ∀ v ∈ c, 0 ≤ v ∧ v ≤ 60
theorem SmD.rng {c : List Int} (S : SmD c) : Rng c := rng_bd (by have := S.len; omega) fun v hv => by have := S.el v hv; omega
theorem okC_of {c : List Int} (h : 8 ≤ (c.length : Int) ∧ (c.length : Int) ≤ 360) (he : ∀ v ∈ c, 0 ≤ v ∧ v ≤ 10000) : okC c = true := by
  unfold okC
  simp only [Bool.and_eq_true, inR_iff, List.all_eq_true]
  exact ⟨h, fun v hv => by
    have := he v hv
    unfold okV
    rw [inR_iff, wrap_id (by omega) (by omega)]
    exact this⟩
theorem SmD.ok {c : List Int} (S : SmD c) : okC c = true := okC_of (by have := S.len; omega) fun v hv => by have := S.el v hv; omega
def grow (b : Int) (m : Nat) : Nat → List Int × Int → List Int × Int
  | 0, s => s
  | k + 1, s => if s.1.length < m then grow b m k (s.1 ++ [max 0 (min 60 (s.2 + b))], max 0 (min 60 (s.2 + b))) else s
structure GoodG2 (m : Nat) (s : List Int × Int) : Prop where
  el : ∀ v ∈ s.1, 0 ≤ v ∧ v ≤ 60
  lf : 0 ≤ s.2 ∧ s.2 ≤ 60
  le : s.1.length ≤ m
theorem grow_one {b : Int} {m : Nat} {s : List Int × Int} (h : GoodG2 m s) (hl : s.1.length < m) : GoodG2 m (s.1 ++ [max 0 (min 60 (s.2 + b))], max 0 (min 60 (s.2 + b))) := by
  have hb : 0 ≤ max 0 (min 60 (s.2 + b)) ∧ max 0 (min 60 (s.2 + b)) ≤ 60 := by omega
  refine ⟨fun v hv => ?_, hb, by simp; omega⟩
  rcases List.mem_append.1 hv with hv | hv
  · exact h.el v hv
  · simp at hv; rw [hv]; exact hb
theorem grow_good {b : Int} {m : Nat} : ∀ k {s : List Int × Int}, GoodG2 m s → GoodG2 m (grow b m k s) ∧ s.1.length ≤ (grow b m k s).1.length
  | 0, s, h => ⟨h, Nat.le_refl _⟩
  | k + 1, s, h => by
    unfold grow
    by_cases hl : s.1.length < m
    · rw [if_pos hl]
      have := grow_good (b := b) k (grow_one (b := b) h hl)
      exact ⟨this.1, by have h2 := this.2; simp at h2; omega⟩
    · rw [if_neg hl]; exact ⟨h, Nat.le_refl _⟩
theorem grow_more {b : Int} {m : Nat} {k : Nat} {s : List Int × Int} (h : GoodG2 m s) (hl : s.1.length < m) (hk : 0 < k) : s.1.length < (grow b m k s).1.length := by
  obtain ⟨k, rfl⟩ : ∃ j, k = j + 1 := ⟨k - 1, by omega⟩
  unfold grow
  rw [if_pos hl]
  have := (grow_good (b := b) k (grow_one (b := b) h hl)).2
  simp at this
  omega
/-! ### What lies beside -/
def wTo (op : Int → Int → Int) (h : Int → Int) (f : Nat) (x : Int) : Nat → Int
  | 0 => h x
  | i + 1 => op (wTo op h f x i) (h (x + ((i : Nat) - (f : Nat) : Int)))
def upW (h : Int → Int) (f : Nat) (x : Int) : Int := wTo max h f x (2 * f + 1)
def dnW (h : Int → Int) (f : Nat) (x : Int) : Int := wTo min h f x (2 * f + 1)
theorem wTo_max {h : Int → Int} {f : Nat} {x m : Int} : ∀ k, wTo max h f x k ≤ m ↔ h x ≤ m ∧ ∀ i, i < k → h (x + ((i : Nat) - (f : Nat) : Int)) ≤ m
  | 0 => by simp [wTo]
  | k + 1 => by
    unfold wTo
    constructor
    · intro H
      have h1 := (wTo_max k).1 (show wTo max h f x k ≤ m by omega)
      refine ⟨h1.1, fun i hi => ?_⟩
      by_cases e : i = k
      · subst e; omega
      · exact h1.2 i (by omega)
    · rintro ⟨h1, h2⟩
      have h3 := (wTo_max k).2 ⟨h1, fun i hi => h2 i (by omega)⟩
      have := h2 k (by omega)
      omega
theorem wTo_min {h : Int → Int} {f : Nat} {x m : Int} : ∀ k, m ≤ wTo min h f x k ↔ m ≤ h x ∧ ∀ i, i < k → m ≤ h (x + ((i : Nat) - (f : Nat) : Int))
  | 0 => by simp [wTo]
  | k + 1 => by
    unfold wTo
    constructor
    · intro H
      have h1 := (wTo_min k).1 (show m ≤ wTo min h f x k by omega)
      refine ⟨h1.1, fun i hi => ?_⟩
      by_cases e : i = k
      · subst e; omega
      · exact h1.2 i (by omega)
    · rintro ⟨h1, h2⟩
      have h3 := (wTo_min k).2 ⟨h1, fun i hi => h2 i (by omega)⟩
      have := h2 k (by omega)
      omega
theorem upW_le {h : Int → Int} {f : Nat} {x m : Int} : upW h f x ≤ m ↔ ∀ d : Int, -f ≤ d → d ≤ f → h (x + d) ≤ m := by
  unfold upW
  rw [wTo_max]
  constructor
  · rintro ⟨_, h2⟩ d d0 d1
    have := h2 (d + f).toNat (by omega)
    rwa [show (((d + f).toNat : Nat) : Int) - (f : Nat) = d by omega] at this
  · intro H
    refine ⟨by have := H 0 (by omega) (by omega); rwa [Int.add_zero] at this, fun i hi => H _ (by omega) (by omega)⟩
theorem le_dnW {h : Int → Int} {f : Nat} {x m : Int} : m ≤ dnW h f x ↔ ∀ d : Int, -f ≤ d → d ≤ f → m ≤ h (x + d) := by
  unfold dnW
  rw [wTo_min]
  constructor
  · rintro ⟨_, h2⟩ d d0 d1
    have := h2 (d + f).toNat (by omega)
    rwa [show (((d + f).toNat : Nat) : Int) - (f : Nat) = d by omega] at this
  · intro H
    refine ⟨by have := H 0 (by omega) (by omega); rwa [Int.add_zero] at this, fun i hi => H _ (by omega) (by omega)⟩
def rcW (h : Int → Int) (f : Nat) : Int → Int := dnW (upW h f) f
theorem le_upW (h : Int → Int) (f : Nat) (x : Int) : h x ≤ upW h f x := by
  have := (upW_le (h := h) (f := f) (x := x) (m := upW h f x)).1 (Int.le_refl _) 0 (by omega) (by omega)
  rwa [Int.add_zero] at this
theorem dnW_le (h : Int → Int) (f : Nat) (x : Int) : dnW h f x ≤ h x := by
  have := (le_dnW (h := h) (f := f) (x := x) (m := dnW h f x)).1 (Int.le_refl _) 0 (by omega) (by omega)
  rwa [Int.add_zero] at this
theorem upW_mono {h k : Int → Int} (H : ∀ x, h x ≤ k x) (f : Nat) (x : Int) : upW h f x ≤ upW k f x :=
  upW_le.2 fun d d0 d1 => Int.le_trans (H _) ((upW_le (h := k) (f := f) (x := x)).1 (Int.le_refl _) d d0 d1)
theorem dnW_mono {h k : Int → Int} (H : ∀ x, h x ≤ k x) (f : Nat) (x : Int) : dnW h f x ≤ dnW k f x :=
  le_dnW.2 fun d d0 d1 => Int.le_trans ((le_dnW (h := h) (f := f) (x := x)).1 (Int.le_refl _) d d0 d1) (H _)
theorem le_rcW (h : Int → Int) (f : Nat) (x : Int) : h x ≤ rcW h f x := le_dnW.2 fun d d0 d1 => by
  have := (upW_le (h := h) (f := f) (x := x + d) (m := upW h f (x + d))).1 (Int.le_refl _) (-d) (by omega) (by omega)
  rwa [show x + d + -d = x by omega] at this
theorem up_dn (k : Int → Int) (f : Nat) (x : Int) : upW (dnW k f) f x ≤ k x := upW_le.2 fun d d0 d1 => by
  have := (le_dnW (h := k) (f := f) (x := x + d) (m := dnW k f (x + d))).1 (Int.le_refl _) (-d) (by omega) (by omega)
  rwa [show x + d + -d = x by omega] at this
theorem rcW_rcW (h : Int → Int) (f : Nat) (x : Int) : rcW (rcW h f) f x = rcW h f x :=
  Int.le_antisymm (dnW_mono (fun y => up_dn (upW h f) f y) f x) (le_rcW (rcW h f) f x)
theorem rcW_up (h : Int → Int) (f : Nat) (x : Int) : rcW h f x ≤ upW h f x := dnW_le _ _ _
theorem wTo_congr {op : Int → Int → Int} {h k : Int → Int} (H : ∀ x, h x = k x) (f : Nat) (x : Int) : ∀ i, wTo op h f x i = wTo op k f x i
  | 0 => H x
  | i + 1 => by unfold wTo; rw [wTo_congr H f x i, H]
theorem wTo_per {op : Int → Int → Int} {c : List Int} (f : Nat) (x : Int) : ∀ i, wTo op (cAt c) f (x % c.length) i = wTo op (cAt c) f x i
  | 0 => cAt_mod c x
  | i + 1 => by unfold wTo; rw [wTo_per f x i, cAt_mod']
theorem wTo_bd {op : Int → Int → Int} (ho : ∀ a b : Int, op a b = a ∨ op a b = b) {h : Int → Int} {lo hi : Int} (H : ∀ x, lo ≤ h x ∧ h x ≤ hi) (f : Nat) (x : Int) : ∀ i, lo ≤ wTo op h f x i ∧ wTo op h f x i ≤ hi
  | 0 => H x
  | i + 1 => by
    unfold wTo
    rcases ho (wTo op h f x i) (h (x + ((i : Nat) - (f : Nat) : Int))) with e | e <;> rw [e]
    · exact wTo_bd ho H f x i
    · exact H _
theorem max_or (a b : Int) : max a b = a ∨ max a b = b := by omega
theorem min_or (a b : Int) : min a b = a ∨ min a b = b := by omega
def wL (op : Int → Int → Int) (c : List Int) (f : Nat) : List Int := tb c.length fun i => wTo op (cAt c) f (i : Nat) (2 * f + 1)
theorem wL_len (op : Int → Int → Int) (c : List Int) (f : Nat) : (wL op c f).length = c.length := tb_len _ _
theorem wL_at {op : Int → Int → Int} {c : List Int} (h0 : 0 < c.length) (f : Nat) (x : Int) : cAt (wL op c f) x = wTo op (cAt c) f x (2 * f + 1) := by
  unfold cAt
  rw [wL_len]
  have h1 := Int.emod_nonneg x (show (c.length : Int) ≠ 0 by omega)
  have h2 := Int.emod_lt_of_pos x (show (0 : Int) < c.length by omega)
  unfold wL
  rw [g_tb (by omega), show (((x % (c.length : Int)).toNat : Nat) : Int) = x % (c.length : Int) by omega]
  exact wTo_per f x _
theorem wL_el {op : Int → Int → Int} (ho : ∀ a b : Int, op a b = a ∨ op a b = b) {c : List Int} (h0 : 0 < c.length) {lo hi : Int} (H : ∀ v ∈ c, lo ≤ v ∧ v ≤ hi) (f : Nat) : ∀ v ∈ wL op c f, lo ≤ v ∧ v ≤ hi := fun v hv => by
  obtain ⟨i, hi, rfl⟩ := tb_mem hv
  exact wTo_bd ho (fun x => H _ (cAt_mem h0 x)) f _ _
def rcL (c : List Int) (f : Nat) : List Int := wL min (wL max c f) f
theorem rcL_len (c : List Int) (f : Nat) : (rcL c f).length = c.length := by unfold rcL; rw [wL_len, wL_len]
theorem rcL_at {c : List Int} (h0 : 0 < c.length) (f : Nat) (x : Int) : cAt (rcL c f) x = rcW (cAt c) f x := by
  unfold rcL
  rw [wL_at (by rw [wL_len]; exact h0)]
  unfold rcW dnW
  exact wTo_congr (fun y => wL_at h0 f y) f x _
theorem cAt_ext {a b : List Int} (h : a.length = b.length) (H : ∀ i : Nat, i < b.length → cAt a i = cAt b i) : a = b := by
  apply List.ext_getElem? 
  intro i
  by_cases hi : i < b.length
  · have := H i hi
    rw [cAt_self (by omega), cAt_self hi] at this
    unfold g at this
    rw [List.getD_eq_getElem?_getD, List.getD_eq_getElem?_getD, List.getElem?_eq_getElem (by omega), List.getElem?_eq_getElem hi] at this
    rw [List.getElem?_eq_getElem (by omega), List.getElem?_eq_getElem hi]
    simpa using this
  · rw [List.getElem?_eq_none (by omega), List.getElem?_eq_none (by omega)]
theorem rcL_idem {c : List Int} (h0 : 0 < c.length) (f : Nat) : rcL (rcL c f) f = rcL c f :=
  cAt_ext (by rw [rcL_len]) fun i _ => by
    rw [rcL_at (by rw [rcL_len]; exact h0), rcL_at h0]
    have : ∀ x, rcW (cAt (rcL c f)) f x = rcW (rcW (cAt c) f) f x := fun x => by
      unfold rcW dnW
      exact wTo_congr (fun y => wTo_congr (fun z => rcL_at h0 f z) f y _) f x _
    rw [this, rcW_rcW]
theorem rcL_zero {c : List Int} (h0 : 0 < c.length) : rcL c 0 = c :=
  cAt_ext (rcL_len c 0) fun i _ => by
    rw [rcL_at h0]
    have h1 := le_rcW (cAt c) 0 i
    have h2 := rcW_up (cAt c) 0 i
    have h3 : upW (cAt c) 0 (i : Int) ≤ cAt c i := upW_le.2 fun d d0 d1 => by rw [show d = 0 by omega, Int.add_zero]; exact Int.le_refl _
    omega
theorem rcL_el {c : List Int} (h0 : 0 < c.length) {lo hi : Int} (H : ∀ v ∈ c, lo ≤ v ∧ v ≤ hi) (f : Nat) : ∀ v ∈ rcL c f, lo ≤ v ∧ v ≤ hi :=
  wL_el min_or (by rw [wL_len]; exact h0) (wL_el max_or h0 H f) f
/-- Where two cams differ. -/
def offTo (r c : List Int) : Nat → List Int
  | 0 => []
  | i + 1 => if g r i != g c i then offTo r c i ++ [((i : Nat) : Int)] else offTo r c i
theorem offTo_len (r c : List Int) : ∀ i, (offTo r c i).length ≤ i
  | 0 => Nat.le_refl _
  | i + 1 => by
    have := offTo_len r c i
    unfold offTo
    split
    · simp; omega
    · omega
theorem offTo_same (c : List Int) : ∀ i, offTo c c i = []
  | 0 => rfl
  | i + 1 => by unfold offTo; rw [offTo_same c i]; simp
/-- The widest foot. -/
def wfF (c : List Int) : Nat → Nat → Nat
  | 0, f => f
  | k + 1, f => if rcL c (f + 1) = c then wfF c k (f + 1) else f
theorem wfF_spec (c : List Int) : ∀ k f, (∀ j, j ≤ f → rcL c j = c) → f ≤ wfF c k f ∧ wfF c k f ≤ f + k ∧ ∀ j, j ≤ wfF c k f → rcL c j = c
  | 0, f, h => ⟨Nat.le_refl _, Nat.le_refl _, h⟩
  | k + 1, f, h => by
    unfold wfF
    by_cases hc : rcL c (f + 1) = c
    · rw [if_pos hc]
      have := wfF_spec c k (f + 1) fun j hj => by
        by_cases e : j = f + 1
        · rw [e]; exact hc
        · exact h j (by omega)
      exact ⟨by omega, by omega, this.2.2⟩
    · rw [if_neg hc]
      exact ⟨Nat.le_refl _, by omega, h⟩
/-! ### Lag -/
def lgTo (c : List Int) (r x : Int) : Nat → Int
  | 0 => cAt c x
  | j + 1 => max (lgTo c r x j) (cAt c (x - (j : Nat)) - r * (j : Nat))
def lgL (c : List Int) (r : Int) : List Int := tb c.length fun i => lgTo c r (i : Nat) c.length
theorem lgL_len (c : List Int) (r : Int) : (lgL c r).length = c.length := tb_len _ _
theorem lgTo_one (c : List Int) (r x : Int) : lgTo c r x 1 = cAt c x := by
  unfold lgTo lgTo
  simp
theorem lgTo_le {c : List Int} {r x m : Int} : ∀ k, lgTo c r x k ≤ m ↔ cAt c x ≤ m ∧ ∀ j, j < k → cAt c (x - (j : Nat)) - r * (j : Nat) ≤ m
  | 0 => by simp [lgTo]
  | k + 1 => by
    unfold lgTo
    constructor
    · intro H
      have h1 := (lgTo_le k).1 (show lgTo c r x k ≤ m by omega)
      refine ⟨h1.1, fun i hi => ?_⟩
      by_cases e : i = k
      · subst e; omega
      · exact h1.2 i (by omega)
    · rintro ⟨h1, h2⟩
      have h3 := (lgTo_le k).2 ⟨h1, fun i hi => h2 i (by omega)⟩
      have := h2 k (by omega)
      omega
theorem lgTo_per (c : List Int) (r x : Int) : ∀ k, lgTo c r (x % c.length) k = lgTo c r x k
  | 0 => cAt_mod c x
  | k + 1 => by
    unfold lgTo
    rw [lgTo_per c r x k]
    have := cAt_mod' c x (-(k : Nat))
    rw [show x % (c.length : Int) + -(k : Nat) = x % (c.length : Int) - (k : Nat) by omega, show x + -((k : Nat) : Int) = x - (k : Nat) by omega] at this
    rw [this]
theorem lgL_at {c : List Int} (h0 : 0 < c.length) (r x : Int) : cAt (lgL c r) x = lgTo c r x c.length := by
  unfold cAt
  rw [lgL_len]
  have h1 := Int.emod_nonneg x (show (c.length : Int) ≠ 0 by omega)
  have h2 := Int.emod_lt_of_pos x (show (0 : Int) < c.length by omega)
  unfold lgL
  rw [g_tb (by omega), show (((x % (c.length : Int)).toNat : Nat) : Int) = x % (c.length : Int) by omega]
  exact lgTo_per c r x _
theorem lgTo_bd {c : List Int} (h0 : 0 < c.length) {r lo hi : Int} (hr : 0 ≤ r) (H : ∀ v ∈ c, lo ≤ v ∧ v ≤ hi) (x : Int) (k : Nat) : lo ≤ lgTo c r x k ∧ lgTo c r x k ≤ hi := by
  have h1 := (lgTo_le (c := c) (r := r) (x := x) (m := lgTo c r x k) k).1 (Int.le_refl _)
  have hx := H _ (cAt_mem h0 x)
  refine ⟨by omega, (lgTo_le k).2 ⟨hx.2, fun j _ => ?_⟩⟩
  have := H _ (cAt_mem h0 (x - (j : Nat)))
  have := Int.mul_nonneg hr (show (0 : Int) ≤ (j : Nat) by omega)
  omega
theorem lgL_el {c : List Int} (h0 : 0 < c.length) {r lo hi : Int} (hr : 0 ≤ r) (H : ∀ v ∈ c, lo ≤ v ∧ v ≤ hi) : ∀ v ∈ lgL c r, lo ≤ v ∧ v ≤ hi := fun v hv => by
  obtain ⟨i, hi, rfl⟩ := tb_mem hv
  exact lgTo_bd h0 hr H _ _
/-- The least rate. -/
def lrV (c : List Int) : Int := max 1 (-(mnL (chgL c)))
theorem chgL_mem {c : List Int} {v : Int} (h : v ∈ chgL c) : ∃ x : Int, v = cAt c (x + 1) - cAt c x := by
  simp only [chgL, List.mem_map, List.mem_range] at h
  obtain ⟨i, _, rfl⟩ := h
  exact ⟨(i : Nat), rfl⟩
theorem mnL_ge {l : List Int} {v : Int} (h : v ∈ l) : mnL l ≤ v := (mnF_ge l _).2 v h
theorem mnL_mem {l : List Int} (h : l ≠ []) : mnL l ∈ l := by
  have key : ∀ (l : List Int) (a : Int), mnF l a = a ∨ mnF l a ∈ l := by
    intro l
    induction l with
    | nil => intro a; exact .inl rfl
    | cons v l ih =>
      intro a
      have e : mnF (v :: l) a = mnF l (min a v) := rfl
      rw [e]
      rcases ih (min a v) with h | h
      · rw [h]
        by_cases hm : a ≤ v
        · left; omega
        · right; rw [show min a v = v by omega]; simp
      · right; exact List.mem_cons_of_mem _ h
  unfold mnL
  rcases key l (l.headD 0) with e | e
  · rw [e]
    obtain ⟨v, r, rfl⟩ := List.exists_cons_of_ne_nil h
    simp
  · exact e
theorem chg_mem {c : List Int} (h0 : 0 < c.length) (x : Int) : cAt c (x + 1) - cAt c x ∈ chgL c := (chgL_at h0 x).mem
theorem chgL_ne {c : List Int} (h0 : 0 < c.length) : chgL c ≠ [] := fun e => by
  have h : c.length = 0 := by rw [← chgL_len c, e]; rfl
  omega
theorem lr_fall {c : List Int} (h0 : 0 < c.length) (x : Int) : cAt c x - cAt c (x + 1) ≤ lrV c := by
  have := mnL_ge (chg_mem h0 x)
  unfold lrV
  omega
theorem lr_le {c : List Int} (h0 : 0 < c.length) {m : Int} (h1 : 1 ≤ m) (H : ∀ x, cAt c x - cAt c (x + 1) ≤ m) : lrV c ≤ m := by
  have hne : chgL c ≠ [] := chgL_ne h0
  obtain ⟨x, e⟩ := chgL_mem (mnL_mem hne)
  have := H x
  unfold lrV
  omega
theorem lr_is {c : List Int} (h0 : 0 < c.length) (h : 1 < lrV c) : ∃ x, cAt c x - cAt c (x + 1) = lrV c := by
  have hne : chgL c ≠ [] := chgL_ne h0
  obtain ⟨x, e⟩ := chgL_mem (mnL_mem hne)
  refine ⟨x, ?_⟩
  unfold lrV at h ⊢
  omega
theorem lr_bd {c : List Int} (h0 : 0 < c.length) {hi : Int} (hh : 1 ≤ hi) (H : ∀ v ∈ c, 0 ≤ v ∧ v ≤ hi) : 1 ≤ lrV c ∧ lrV c ≤ hi :=
  ⟨by unfold lrV; omega, lr_le h0 hh fun x => by
    have := H _ (cAt_mem h0 x)
    have := H _ (cAt_mem h0 (x + 1))
    omega⟩
theorem fall_far {c : List Int} (h0 : 0 < c.length) (x : Int) : ∀ j : Nat, cAt c (x - (j : Nat)) - lrV c * (j : Nat) ≤ cAt c x
  | 0 => by simp
  | j + 1 => by
    have h1 := fall_far h0 x j
    have h2 := lr_fall h0 (x - ((j + 1 : Nat) : Int))
    rw [show x - ((j + 1 : Nat) : Int) + 1 = x - (j : Nat) by omega] at h2
    have h3 : lrV c * ((j + 1 : Nat) : Int) = lrV c * (j : Nat) + lrV c := by rw [Int.natCast_add, Int.mul_add]; simp
    rw [h3]
    omega
theorem lg_same {c : List Int} (h0 : 0 < c.length) : lgL c (lrV c) = c :=
  cAt_ext (lgL_len _ _) fun i _ => by
    rw [lgL_at h0]
    have h1 := (lgTo_le (c := c) (r := lrV c) (x := (i : Nat)) (m := lgTo c (lrV c) (i : Nat) c.length) c.length).1 (Int.le_refl _)
    have h2 : lgTo c (lrV c) (i : Nat) c.length ≤ cAt c (i : Nat) := (lgTo_le _).2 ⟨Int.le_refl _, fun j _ => fall_far h0 _ j⟩
    omega
theorem le_lg {c : List Int} (h0 : 0 < c.length) (r x : Int) : cAt c x ≤ cAt (lgL c r) x := by
  rw [lgL_at h0]
  exact ((lgTo_le (c := c) (r := r) (x := x) (m := lgTo c r x c.length) c.length).1 (Int.le_refl _)).1
theorem lg_slow {c : List Int} (h2 : 2 ≤ c.length) {r : Int} (h : ∃ x, cAt c x - cAt c (x + 1) > r) : lgL c r ≠ c := fun e => by
  obtain ⟨x, hx⟩ := h
  have h1 := lgL_at (c := c) (by omega) r (x + 1)
  rw [e] at h1
  have h3 := ((lgTo_le (c := c) (r := r) (x := x + 1) (m := lgTo c r (x + 1) c.length) c.length).1 (Int.le_refl _)).2 1 (by omega)
  rw [show x + 1 - ((1 : Nat) : Int) = x by omega, show r * ((1 : Nat) : Int) = r by omega] at h3
  omega
theorem lg_fall {c : List Int} (h0 : 0 < c.length) {r : Int} (hr : 0 ≤ r) (x : Int) : cAt (lgL c r) x - cAt (lgL c r) (x + 1) ≤ r := by
  rw [lgL_at h0, lgL_at h0]
  have hU := (lgTo_le (c := c) (r := r) (x := x + 1) (m := lgTo c r (x + 1) c.length) c.length).1 (Int.le_refl _)
  have : lgTo c r x c.length ≤ lgTo c r (x + 1) c.length + r := by
    have key : ∀ j : Nat, j < c.length → cAt c (x - (j : Nat)) - r * (j : Nat) ≤ lgTo c r (x + 1) c.length + r := fun j hj => by
      by_cases e : j + 1 < c.length
      · have := hU.2 (j + 1) e
        rw [show x + 1 - ((j + 1 : Nat) : Int) = x - (j : Nat) by omega] at this
        have h3 : r * ((j + 1 : Nat) : Int) = r * (j : Nat) + r := by rw [Int.natCast_add, Int.mul_add]; simp
        omega
      · have h1 := hU.1
        have h2 := cAt_add c (x - (j : Nat))
        rw [show x - (j : Nat) + (c.length : Int) = x + 1 by omega] at h2
        have := Int.mul_nonneg hr (show (0 : Int) ≤ (j : Nat) by omega)
        omega
    refine (lgTo_le _).2 ⟨?_, key⟩
    have := key 0 h0
    simpa using this
  omega
end Go.Cams
namespace Go.Cams
open Go Go.Fw
def nxF (l : List Int) (a : Int) : Int := l.foldl (fun m v => max m (-v)) a
theorem nxF_snoc (l : List Int) (v a : Int) : nxF (l ++ [v]) a = max (nxF l a) (-v) := by simp [nxF, List.foldl_append]
theorem nxF_le : ∀ (l : List Int) (q m : Int), nxF l q ≤ m ↔ (q ≤ m ∧ ∀ v ∈ l, -v ≤ m)
  | [], q, m => by simp [nxF]
  | v :: l, q, m => by
    have e : nxF (v :: l) q = nxF l (max q (-v)) := rfl
    rw [e, nxF_le l _ m]
    simp only [List.mem_cons, forall_eq_or_imp]
    constructor
    · rintro ⟨h1, h2⟩; exact ⟨by omega, by omega, h2⟩
    · rintro ⟨h1, h2, h3⟩; exact ⟨by omega, h3⟩
theorem lr_nx {c : List Int} (h0 : 0 < c.length) : nxF (chgL c) 1 = lrV c := by
  apply Int.le_antisymm
  · rw [nxF_le]
    unfold lrV
    exact ⟨by omega, fun v hv => by have := mnL_ge hv; omega⟩
  · have h := (nxF_le (chgL c) 1 (nxF (chgL c) 1)).1 (Int.le_refl _)
    have := h.2 _ (mnL_mem (chgL_ne h0))
    unfold lrV
    omega
end Go.Cams
