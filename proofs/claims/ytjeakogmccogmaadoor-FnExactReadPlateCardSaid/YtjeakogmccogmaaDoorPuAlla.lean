/- What the functions compute, in plain terms: definitions and laws of lists and numbers, no program in sight. -/
import Derived.Test.YtjeakogmccogmaaDoorFwC
import Derived.Lib.TrailingZeros
/- What the functions of cams and shafts compute, in plain terms. -/
namespace Go.Cams
open Go Go.Fw
abbrev Sft : Type := Int × (Int × (Int × ((List Int) × Unit)))

def inR (a b c : Int) : Bool := decide (b ≤ a ∧ a ≤ c)
def okV (v : Int) : Bool := inR (wr .i64 v) 0 10000
def okC (l : List Int) : Bool := inR (l.length : Int) 8 360 && l.all okV

/-! ### Validity -/
def fi {α : Type} (p : α → Bool) : List α → Int → Int
  | [], _ => -1
  | v :: r, i => if p v = true then i else fi p r (i + 1)
theorem fi_any {α : Type} (p : α → Bool) : ∀ (l : List α) (i : Int), 0 ≤ i → decide (fi p l i ≥ 0) = l.any p
  | [], i, _ => by simp [fi]
  | v :: r, i, h => by
    unfold fi
    by_cases hp : p v = true
    · simp [hp, h]
    · have hp' : p v = false := by simpa using hp
      simp [hp', fi_any p r (i + 1) (by omega)]

/-- A shaft that is valid. -/
def okS (s : Sft) : Bool := inR (wr .i64 s.1) 1 60 && inR (wr .i64 s.2.1) 1 60 && okC s.2.2.2.1 && inR (wr .i64 s.2.2.1) 0 (wr .i64 ((s.2.2.2.1.length : Int) - 1))
/-- What is known of a list of shafts. -/
def Small (l : List Sft) : Prop := (l.length : Int) ≤ 140737488351232 ∧ ∀ s ∈ l, (s.2.2.2.1.length : Int) ≤ 140737488351232
theorem Small.get {l : List Sft} (h : Small l) {i : Nat} {s : Sft} (hs : l[i]? = some s) : (s.2.2.2.1.length : Int) ≤ 140737488351232 := h.2 s (List.mem_of_getElem? hs)

def okA (l : List Sft) : Bool := inR (l.length : Int) 1 6 && l.all okS
/-! ### The greatest common divisor -/
/-! ### Periods -/
def gg (a b : Int) : Int := ((Nat.gcd a.toNat b.toNat : Nat) : Int)
theorem gg_pos {a b : Int} (ha : 0 < a) : 0 < gg a b := by
  have : 0 < Nat.gcd a.toNat b.toNat := Nat.gcd_pos_of_pos_left _ (by omega)
  unfold gg; omega
theorem gg_le {a b : Int} (ha : 0 < a) : gg a b ≤ a := by
  have : Nat.gcd a.toNat b.toNat ≤ a.toNat := Nat.gcd_le_left _ (by omega)
  unfold gg; omega
theorem div_pos_of {a g : Int} (hg : 0 < g) (h : g ≤ a) : 0 < Int.tdiv a g ∧ Int.tdiv a g ≤ a := by
  rw [Int.tdiv_eq_ediv_of_nonneg (by omega)]
  refine ⟨?_, Int.ediv_le_self _ (by omega)⟩
  have := (Int.le_ediv_iff_mul_le (a := 1) (b := a) hg).2 (by omega)
  omega

theorem bne_pos {a : Int} (h : 0 < a) : (a != 0) = true := by simp; omega
theorem inR_iff {a b c : Int} : inR a b c = true ↔ b ≤ a ∧ a ≤ c := by simp [inR]
structure Good (s : Sft) : Prop where
  num : 1 ≤ wr .i64 s.1 ∧ wr .i64 s.1 ≤ 60
  den : 1 ≤ wr .i64 s.2.1 ∧ wr .i64 s.2.1 ≤ 60
  len : 8 ≤ (s.2.2.2.1.length : Int) ∧ (s.2.2.2.1.length : Int) ≤ 360
  cam : ∀ v ∈ s.2.2.2.1, 0 ≤ wr .i64 v ∧ wr .i64 v ≤ 10000
  ph : 0 ≤ wr .i64 s.2.2.1 ∧ wr .i64 s.2.2.1 ≤ 360
theorem good_of {s : Sft} (h : okS s = true) : Good s := by
  simp only [okS, okC, Bool.and_eq_true, inR_iff, List.all_eq_true] at h
  obtain ⟨⟨⟨h1, h2⟩, h3, h4⟩, h5⟩ := h
  have hw : wr .i64 ((s.2.2.2.1.length : Int) - 1) = (s.2.2.2.1.length : Int) - 1 := wrap_id (by omega) (by omega)
  rw [hw] at h5
  exact ⟨h1, h2, h3, fun v hv => inR_iff.1 (h4 v hv), by omega⟩

def dl (s : Sft) : Int := wr .i64 (wr .i64 s.2.1 * (s.2.2.2.1.length : Int))
theorem dl_eq {s : Sft} (h : Good s) : 8 ≤ dl s ∧ dl s ≤ 21600 := by
  have h1 := h.den
  have h2 := h.len
  have a : wr .i64 s.2.1 * 8 ≤ wr .i64 s.2.1 * (s.2.2.2.1.length : Int) := Int.mul_le_mul_of_nonneg_left h2.1 (by omega)
  have b : wr .i64 s.2.1 * (s.2.2.2.1.length : Int) ≤ 60 * (s.2.2.2.1.length : Int) := Int.mul_le_mul_of_nonneg_right h1.2 (by omega)
  unfold dl
  rw [wrap_id (by omega) (by omega)]
  omega
def own (s : Sft) : Int := wr .i64 (Int.tdiv (dl s) (gg (dl s) (wr .i64 s.1)))
theorem own_eq {s : Sft} (h : Good s) : 1 ≤ own s ∧ own s ≤ 21600 := by
  have h1 := dl_eq h
  have hg := gg_pos (a := dl s) (b := wr .i64 s.1) (by omega)
  have hd := div_pos_of hg (gg_le (b := wr .i64 s.1) (show 0 < dl s by omega))
  unfold own
  rw [wrap_id (by omega) (by omega)]
  omega
/-- The common period, if it is short enough. -/
def nxt (t : Int) (s : Sft) : Int := wr .i64 (wr .i64 (Int.tdiv t (gg t (own s))) * own s)
def per : List Sft → Int → Option Int
  | [], t => some t
  | s :: r, t => if nxt t s > 20000 then none else per r (nxt t s)
theorem nxt_pos {t : Int} {s : Sft} (h : Good s) (h0 : 1 ≤ t) (h1 : t ≤ 20000) : 1 ≤ nxt t s := by
  have ho := own_eq h
  have hg := gg_pos (a := t) (b := own s) (by omega)
  have hd := div_pos_of hg (gg_le (b := own s) (show 0 < t by omega))
  unfold nxt
  rw [wrap_id (x := Int.tdiv t (gg t (own s))) (by omega) (by omega)]
  have a : 1 * own s ≤ Int.tdiv t (gg t (own s)) * own s := Int.mul_le_mul_of_nonneg_right (by omega) (by omega)
  have b : Int.tdiv t (gg t (own s)) * own s ≤ 20000 * own s := Int.mul_le_mul_of_nonneg_right (by omega) (by omega)
  rw [wrap_id (by omega) (by omega)]
  omega

theorem okA_good {l : List Sft} (h : okA l = true) : (1 ≤ (l.length : Int) ∧ (l.length : Int) ≤ 6) ∧ ∀ s ∈ l, Good s := by
  simp only [okA, Bool.and_eq_true, inR_iff, List.all_eq_true] at h
  exact ⟨h.1, fun s hs => good_of (h.2 s hs)⟩

def allR (l : List Sft) : (resTy [.ro (.int .i64), .ro (.int .i64)]).I := match per l 1 with | some t => (t, 0, ()) | none => (0, 3, ())
def perR (l : List Sft) : (resTy [.ro (.int .i64), .ro .bool]).I := match per l 1 with | some t => (t, true, ()) | none => (0, false, ())
/-! ### Codes -/
def fst0 : List Int → Int
  | [] => 0
  | v :: r => if v ≠ 0 then v else fst0 r
def codeR (l : List Sft) (room : Bool) : (resTy [.ro (.int .i64), .ro (.int .i64)]).I := if okA l = false then (0, 1, ()) else if room = false then (0, 2, ()) else allR l
/-! ### Lifts -/
def stp (s : Sft) (t : Int) : Int := Int.tmod (wr .i64 ((wr .i64 s.2.2.1) + (wr .i64 (Int.tdiv (wr .i64 (t * (wr .i64 s.1))) (wr .i64 s.2.1))))) (s.2.2.2.1.length : Int)
def lift (s : Sft) (t : Int) : Int := match idx s.2.2.2.1 (stp s t) with | some v => wr .i64 v | none => 0
theorem lift_eq {s : Sft} (h : Good s) {t : Int} (h0 : 0 ≤ t) (h1 : t ≤ 20000) : (∃ v, idx s.2.2.2.1 (stp s t) = some v ∧ lift s t = wr .i64 v) ∧ 0 ≤ lift s t ∧ lift s t ≤ 10000 := by
  have hn := h.num
  have hd := h.den
  have hl := h.len
  have hp := h.ph
  have a : 0 * wr .i64 s.1 ≤ t * wr .i64 s.1 := Int.mul_le_mul_of_nonneg_right h0 (by omega)
  have b : t * wr .i64 s.1 ≤ 20000 * wr .i64 s.1 := Int.mul_le_mul_of_nonneg_right h1 (by omega)
  have e1 : wr .i64 (t * wr .i64 s.1) = t * wr .i64 s.1 := wrap_id (by omega) (by omega)
  have e2 : 0 ≤ Int.tdiv (t * wr .i64 s.1) (wr .i64 s.2.1) := Int.tdiv_nonneg (by omega) (by omega)
  have e3 : Int.tdiv (t * wr .i64 s.1) (wr .i64 s.2.1) ≤ t * wr .i64 s.1 := by
    rw [Int.tdiv_eq_ediv_of_nonneg (by omega)]
    exact Int.ediv_le_self _ (by omega)
  have e4 : stp s t = Int.tmod (wr .i64 s.2.2.1 + Int.tdiv (t * wr .i64 s.1) (wr .i64 s.2.1)) (s.2.2.2.1.length : Int) := by
    unfold stp
    rw [e1, wrap_id (x := Int.tdiv _ _) (by omega) (by omega), wrap_id (by omega) (by omega)]
  have e5 : 0 ≤ stp s t := by rw [e4]; exact Int.tmod_nonneg _ (by omega)
  have e6 : stp s t < (s.2.2.2.1.length : Int) := by rw [e4]; exact Int.tmod_lt_of_pos _ (by omega)
  obtain ⟨v, hv, hv'⟩ := idx_at e5 e6
  have hc := h.cam v (List.mem_of_getElem? hv')
  have : lift s t = wr .i64 v := by unfold lift; rw [hv]
  exact ⟨⟨v, hv, this⟩, by omega, by omega⟩
theorem den_ne {s : Sft} (h : Good s) : (wr .i64 s.2.1 != 0) = true := bne_pos (by have := h.den; omega)
theorem len_ne {s : Sft} (h : Good s) : (((s.2.2.2.1.length : Nat) : Int) != 0) = true := bne_pos (by have := h.len; omega)
/-! ### Copies -/
theorem set_take {α : Type} {l : List α} {i : Nat} {v z : α} (h : l[i]? = some v) : (l.take i ++ List.replicate (l.length - i) z).set i v = l.take (i + 1) ++ List.replicate (l.length - (i + 1)) z := by
  obtain ⟨hlt, e⟩ := List.getElem?_eq_some_iff.1 h
  have h1 : (l.take i).length = i := by simp; omega
  rw [List.set_append_right _ _ (by omega), h1, Nat.sub_self]
  rw [show l.length - i = (l.length - (i + 1)) + 1 by omega, List.replicate_succ, List.set_cons_zero]
  rw [List.take_add_one, h]
  simp
/-! ### Equal to itself -/
/-! ### Sizes -/
def sz1 (l : List Int) (a : Int) : Int := if wr .i64 (a - (l.length : Int)) < 0 then -1 else wr .i64 (a - (l.length : Int))
def sz (s : Sft) (a : Int) : Int := if sz1 s.2.2.2.1 a < 0 then -1 else sz1 s.2.2.2.1 a
def szf : List Sft → Int → Int
  | [], a => a
  | s :: r, a => if sz s a < 0 then -1 else szf r (sz s a)
/-! ### All lifts -/
/-! ### The search -/
theorem per_le : ∀ {l : List Sft} {t p : Int}, (∀ s ∈ l, Good s) → 1 ≤ t → t ≤ 20000 → per l t = some p → 1 ≤ p ∧ p ≤ 20000
  | [], t, p, _, h0, h1, h => by simp [per] at h; omega
  | s :: r, t, p, hG, h0, h1, h => by
    simp only [per] at h
    split at h
    · cases h
    · rename_i hn
      exact per_le (fun s hs => hG s (by simp [hs])) (nxt_pos (hG s (by simp)) h0 h1) (by omega) h
theorem code_ok {l : List Sft} {room : Bool} (h : (codeR l room).2.1 = (0 : Int)) : okA l = true ∧ (0 : Int) ≤ (codeR l room).1 ∧ (codeR l room).1 ≤ (20000 : Int) := by
  unfold codeR at h ⊢
  split at h
  · exact absurd h (by decide)
  · rename_i h1
    split at h
    · exact absurd h (by decide)
    · rename_i h2
      have hok : okA l = true := by simpa using h1
      unfold allR at h
      cases hp : per l 1 with
      | none => rw [hp] at h; exact absurd h (by decide)
      | some p =>
        have := per_le (okA_good hok).2 (by omega) (by omega) hp
        refine ⟨hok, ?_⟩
        rw [if_neg h1, if_neg h2]
        unfold allR
        rw [hp]
        show (0 : Int) ≤ p ∧ p ≤ 20000
        omega
def sc (a t : Int) : List Sft → Int → Option Int
  | s :: u :: r, i => if lift s t + lift u t > a then some i else sc a t (u :: r) (i + 1)
  | _, _ => none
abbrev R4 : Type := Int × Int × Int × Int × Unit
def fc (l : List Sft) (a : Int) : Nat → Int → R4
  | 0, _ => (0, 0, 0, 6, ())
  | d + 1, t => match sc a t l 0 with
    | some i => (t, i, i + 1, 0, ())
    | none => fc l a d (t + 1)
def ans (l : List Sft) (a : Int) : R4 := if (codeR l (inR a 0 20000)).2.1 ≠ (0 : Int) then (0, 0, 0, (codeR l (inR a 0 20000)).2.1, ()) else fc l a (Int.toNat (codeR l (inR a 0 20000)).1) 0
theorem idx_map {l : List Sft} {t i : Int} {v : Sft} (h : idx l i = some v) : idx (l.map (lift · t)) i = some (lift v t) := by
  unfold idx at h ⊢
  split at h
  · rename_i h0
    rw [if_pos h0, List.getElem?_map, h]
    rfl
  · cases h
end Go.Cams

/- Clashes of two shafts, in plain terms. -/
namespace Go.Cams
open Go Go.Fw
def isAt (l : List Sft) (i : Int) : Bool := inR i 0 (wr .i64 ((l.length : Int) - 1))
theorem isAt_iff {l : List Sft} (h : okA l = true) {i : Int} : isAt l i = true ↔ 0 ≤ i ∧ i < (l.length : Int) := by
  have hG := (okA_good h).1
  rw [isAt, wrap_id (by omega) (by omega), inR_iff]
  omega
/-- A shaft with another phase. -/
def withP (s : Sft) (p : Int) : Sft := (s.1, s.2.1, p, s.2.2.2)
theorem Good.withP {s : Sft} (h : Good s) {p : Int} (h0 : 0 ≤ p) (h1 : p ≤ 360) : Good (withP s p) :=
  ⟨h.num, h.den, h.len, h.cam, by show 0 ≤ wr .i64 p ∧ wr .i64 p ≤ 360; rw [wrap_id (by omega) (by omega)]; omega⟩
theorem withP_self (s : Sft) : withP s s.2.2.1 = s := rfl
theorem lift_wr {s : Sft} (h : Good s) (t : Int) : lift (Cams.withP s (wr .i64 s.2.2.1)) t = lift s t := by
  have hp := h.ph
  unfold lift stp Cams.withP
  simp only [wrap_id (x := wr .i64 s.2.2.1) (by omega) (by omega)]
/-- The clashes ahead of a tick. -/
def cnt (s u : Sft) (a : Int) : Nat → Int
  | 0 => 0
  | k + 1 => if lift s k + lift u k > a then cnt s u a k + 1 else cnt s u a k
theorem cnt_le (s u : Sft) (a : Int) : ∀ k : Nat, 0 ≤ cnt s u a k ∧ cnt s u a k ≤ k
  | 0 => by simp [cnt]
  | k + 1 => by
    have := cnt_le s u a k
    unfold cnt
    split <;> omega
theorem cnt_step (s u : Sft) (a : Int) {i : Int} (h0 : 0 ≤ i) : cnt s u a (i + 1).toNat = if lift s i + lift u i > a then cnt s u a i.toNat + 1 else cnt s u a i.toNat := by
  obtain ⟨k, rfl⟩ : ∃ k : Nat, i = k := ⟨i.toNat, by omega⟩
  show cnt s u a (k + 1) = _
  rfl
theorem cnt_wr {u : Sft} (h : Good u) (s : Sft) (a : Int) : ∀ k : Nat, cnt s (Cams.withP u (wr .i64 u.2.2.1)) a k = cnt s u a k
  | 0 => rfl
  | k + 1 => by simp only [cnt, lift_wr h, cnt_wr h s a k]
/-- What is known of the arguments of a law. -/
abbrev SftTy : Ty := .pair (.int .i16) (.pair (.int .i16) (.pair (.int .i16) (.pair (.slc (.int .i16)) .unit)))
theorem shaftsDom1 {l : List Sft} (h : Dom (.slc SftTy) l) : (l.length : Int) * 32 ≤ 140737488351232 := Int.ofNat_le.2 h.1
theorem shaftsDom2 {l : List Sft} (h : Dom (.slc SftTy) l) : ∀ s ∈ l, (s.2.2.2.1.length : Int) * 2 ≤ 140737488351232 := fun s hs => Int.ofNat_le.2 (h.2 s hs).2.2.2.1.1
abbrev R2 : Type := Int × Int × Unit
/-- How many clashes two shafts of a set have. -/
def clashR (l : List Sft) (i k a : Int) : R2 :=
  if (codeR l (isAt l i && isAt l k && inR a 0 20000)).2.1 ≠ (0 : Int) then (0, (codeR l (isAt l i && isAt l k && inR a 0 20000)).2.1, ())
  else if i = k then (0, 4, ())
  else match idx l i, idx l k with
    | some s, some u => (cnt s u a (Int.toNat (codeR l (isAt l i && isAt l k && inR a 0 20000)).1), 0, ())
    | _, _ => (0, 0, ())
theorem codeR_room {l : List Sft} {room : Bool} (h : (codeR l room).2.1 = (0 : Int)) : room = true := by
  cases room with
  | true => rfl
  | false =>
    exfalso
    unfold codeR at h
    split at h
    · exact absurd h (by decide)
    · rw [if_pos rfl] at h
      exact absurd h (by decide)
end Go.Cams

/- Marks on memory, and what holds them. -/
namespace Go.Cams
open Go Go.Fw
/-- The numbers from k on, as they are laid. -/
def mkL (f : Int → Int) (n : Nat) (k : Int) : List Int := (List.range n).map fun i => f (k + (i : Nat))
theorem mkL_len (f : Int → Int) (n : Nat) (k : Int) : (mkL f n k).length = n := by simp [mkL]
theorem mkL_at (f : Int → Int) (n : Nat) (k : Int) {i : Int} {v : Int} (h : At (mkL f n k) i v) (h0 : 0 ≤ i) : v = f (k + i) := by
  have := h.get
  unfold mkL at this
  rw [List.getElem?_map] at this
  obtain ⟨j, hj, e⟩ := Option.map_eq_some_iff.1 this
  obtain ⟨hlt, e2⟩ := List.getElem?_eq_some_iff.1 hj
  simp at e2
  rw [← e, ← e2, show ((i.toNat : Nat) : Int) = i by omega]
theorem mkL_succ (f : Int → Int) (n : Nat) (k : Int) : mkL f (n + 1) k = mkL f n k ++ [f (k + n)] := by simp [mkL, List.range_succ]
theorem take_set_succ {α : Type} {b : List α} {i : Int} (h0 : 0 ≤ i) (h1 : i < b.length) (v : α) : (b.set i.toNat v).take (i + 1).toNat = b.take i.toNat ++ [v] := by
  rw [show (i + 1).toNat = i.toNat + 1 by omega, List.take_add_one, List.getElem?_set_self (by omega), List.take_set_of_le (by omega)]
  rfl
theorem drop_set_succ {α : Type} {b : List α} {i : Int} (h0 : 0 ≤ i) (v : α) : (b.set i.toNat v).drop (i + 1).toNat = b.drop (i + 1).toNat := by
  rw [List.drop_set_of_lt (by omega)]
theorem get_of_lt {α : Type} {b : List α} {i : Int} (h0 : 0 ≤ i) (h1 : i < b.length) : ∃ u, b[i.toNat]? = some u := ⟨b[i.toNat]'(by omega), by simp⟩
theorem chk_at {α : Type} {b : List α} {i : Int} (h0 : 0 ≤ i) (h1 : i < b.length) : decide (0 ≤ i ∧ i < (b.length : Int)) = true := decide_eq_true ⟨h0, h1⟩

/-- What marks hold a set of shafts. -/
def heldS : List Sft → Int → Option Int
  | [], k => some k
  | s :: r, k => if s.1 = wr .i16 k ∧ s.2.1 = wr .i16 (k + 1) ∧ s.2.2.1 = wr .i16 (k + 1 + 1) ∧ s.2.2.2.1 = mkL (wr .i16) s.2.2.2.1.length (k + 1 + 1 + 1) then heldS r (k + 1 + 1 + 1 + s.2.2.2.1.length) else none
theorem heldS_append : ∀ (a : List Sft) (s : Sft) (k kk : Int), heldS a k = some kk → heldS (a ++ [s]) k = heldS [s] kk
  | [], s, k, kk, h => by simp [heldS] at h; rw [h]; rfl
  | x :: r, s, k, kk, h => by
    unfold heldS at h
    split at h
    · rename_i hx
      show heldS (x :: (r ++ [s])) k = _
      unfold heldS
      rw [if_pos hx, heldS_append r s _ _ h]
      rfl
    · cases h
def totS (l : List Sft) : Int := (l.map fun s => (3 : Int) + s.2.2.2.1.length).sum
theorem totS_cons (s : Sft) (l : List Sft) : totS (s :: l) = 3 + s.2.2.2.1.length + totS l := by simp [totS]
theorem totS_nonneg : ∀ l : List Sft, 0 ≤ totS l
  | [] => by simp [totS]
  | s :: r => by have := totS_nonneg r; rw [totS_cons]; omega
theorem totS_append (a b : List Sft) : totS (a ++ b) = totS a + totS b := by simp [totS]
theorem totS_take (l : List Sft) (i : Nat) : totS (l.take i) + totS (l.drop i) = totS l := by rw [← totS_append, List.take_append_drop]
theorem heldS_ge : ∀ (l : List Sft) (k kk : Int), heldS l k = some kk → kk = k + totS l
  | [], k, kk, h => by simp [heldS] at h; simp [totS, h]
  | s :: r, k, kk, h => by
    unfold heldS at h
    split at h
    · have := heldS_ge r _ _ h
      rw [totS_cons]; omega
    · cases h

/-! ### Sizes -/
theorem sz1_ok {l : List Int} {a : Int} (hl : (l.length : Int) ≤ 140737488351232) (h0 : a ≤ 1048576) (h1 : 0 ≤ a) (h : ¬ sz1 l a < 0) : sz1 l a = a - l.length ∧ (l.length : Int) ≤ a := by
  unfold sz1 at h ⊢
  rw [wrap_id (by omega) (by omega)] at h ⊢
  split at h
  · omega
  · rename_i h2
    rw [if_neg h2]
    omega
theorem szf_ok (l : List Sft) : ∀ {a : Int}, Small l → a ≤ 1048576 → 0 ≤ a → ¬ szf l a < 0 → totS l ≤ a + 3 * l.length := by
  induction l with
  | nil =>
    intro a _ _ h1 _
    have : totS [] = 0 := by simp [totS]
    rw [this]
    simp only [List.length_nil]
    omega
  | cons s r ih =>
    intro a hS h0 h1 h
    have hs := hS.2 s (by simp)
    have hr : Small r := ⟨by have := hS.1; simp only [List.length_cons] at this; omega, fun x hx => hS.2 x (by simp [hx])⟩
    unfold szf at h
    split at h
    · omega
    · rename_i h2
      unfold sz at h h2
      split at h2
      · omega
      · rename_i h3
        rw [if_neg h3] at h
        obtain ⟨e, hle⟩ := sz1_ok hs h0 h1 h3
        rw [e] at h
        have := ih hr (by omega) (by omega) h
        rw [totS_cons]
        simp only [List.length_cons]
        omega
def szS (l : List Sft) (a : Int) : Int := if wr .i64 (a - (l.length : Int)) < 0 then -1 else szf l (wr .i64 (a - (l.length : Int)))
theorem szS_ok {l : List Sft} (hS : Small l) (h : ¬ szS l 1048576 < 0) : totS l ≤ 4194304 ∧ (l.length : Int) ≤ 1048576 := by
  have h0 := hS.1
  unfold szS at h
  rw [wrap_id (by omega) (by omega)] at h
  split at h
  · omega
  · have := szf_ok l hS (by omega) (by omega) h
    omega
end Go.Cams
namespace Go.Cams
open Go Go.Fw
def markOne (s : Sft) (k : Int) : Sft := (wr .i16 k, wr .i16 (k + 1), wr .i16 (k + 1 + 1), mkL (wr .i16) s.2.2.2.1.length (k + 1 + 1 + 1), ())
def markS : List Sft → Int → List Sft
  | [], _ => []
  | s :: r, k => markOne s k :: markS r (k + 1 + 1 + 1 + s.2.2.2.1.length)
theorem markS_held : ∀ (l : List Sft) (k : Int), heldS (markS l k) k = some (k + totS l)
  | [], k => by simp [markS, heldS, totS]
  | s :: r, k => by
    unfold markS heldS
    have hl : (markOne s k).2.2.2.1.length = s.2.2.2.1.length := mkL_len _ _ _
    rw [if_pos ⟨rfl, rfl, rfl, by rw [hl]; rfl⟩, hl, markS_held r]
    rw [totS_cons]
    congr 1
    omega
theorem markS_append : ∀ (a : List Sft) (s : Sft) (k : Int), markS (a ++ [s]) k = markS a k ++ [markOne s (k + totS a)]
  | [], s, k => by simp [markS, totS]
  | x :: r, s, k => by
    show markS (x :: (r ++ [s])) k = _
    unfold markS
    rw [markS_append r, totS_cons, show k + 1 + 1 + 1 + (x.2.2.2.1.length : Int) + totS r = k + (3 + x.2.2.2.1.length + totS r) by omega]
    rfl
/-! ### Phases -/
def phs : List Sft → List Int → List Sft → List Sft × (Int × Unit)
  | s :: l, q :: p, b => if inR q 0 (wr .i64 ((s.2.2.2.1.length : Int) - 1)) = true then phs l p (b ++ [withP s (wr .i16 q)]) else ([], 2, ())
  | _, _, b => (b, 0, ())
def phR (l : List Sft) (p : List Int) : List Sft × (Int × Unit) := if (!okA l) = true then ([], 1, ()) else if (p.length : Int) ≠ l.length then ([], 2, ()) else phs l p []
end Go.Cams
namespace Go.Cams
open Go Go.Fw
theorem heldS_len : ∀ (l : List Sft) (k kk : Int), heldS l k = some kk → (l.length : Int) ≤ kk - k := by
  intro l k kk h
  have hk := heldS_ge l k kk h
  have : ∀ m : List Sft, (m.length : Int) ≤ totS m := by
    intro m
    induction m with
    | nil => simp [totS]
    | cons s r ih => rw [totS_cons]; simp only [List.length_cons]; omega
  have := this l
  omega
theorem phs_small : ∀ (l : List Sft) (p : List Int) (b : List Sft), (∀ s ∈ l, (s.2.2.2.1.length : Int) ≤ 360) → (∀ s ∈ b, (s.2.2.2.1.length : Int) ≤ 360) →
    ((phs l p b).1.length : Int) ≤ b.length + l.length ∧ ∀ s ∈ (phs l p b).1, (s.2.2.2.1.length : Int) ≤ 360
  | s :: l, q :: p, b, hl, hb => by
    unfold phs
    split
    · have := phs_small l p (b ++ [withP s (wr .i16 q)]) (fun x hx => hl x (by simp [hx])) (by
        intro x hx
        rcases List.mem_append.1 hx with hx | hx
        · exact hb x hx
        · simp only [List.mem_singleton] at hx
          subst hx
          exact hl s (by simp))
      refine ⟨?_, this.2⟩
      have h1 := this.1
      simp only [List.length_append, List.length_cons, List.length_nil] at h1 ⊢
      omega
    · exact ⟨by simp only [List.length_nil, List.length_cons]; omega, fun x hx => by cases hx⟩
  | [], p, b, _, hb => by unfold phs; exact ⟨by simp, hb⟩
  | _ :: _, [], b, _, hb => by unfold phs; exact ⟨by simp only [List.length_cons]; omega, hb⟩
theorem totS_le {l : List Sft} (h : ∀ s ∈ l, (s.2.2.2.1.length : Int) ≤ 360) : totS l ≤ 363 * l.length := by
  induction l with
  | nil => simp [totS]
  | cons s r ih =>
    have h1 := h s (by simp)
    have h2 := ih (fun x hx => h x (by simp [hx]))
    rw [totS_cons]
    simp only [List.length_cons]
    omega
theorem phR_small (l : List Sft) (p : List Int) : 0 ≤ totS (phR l p).1 ∧ totS (phR l p).1 ≤ 2178 ∧ ((phR l p).1.length : Int) ≤ 6 ∧ Small (phR l p).1 := by
  have key : ((phR l p).1.length : Int) ≤ 6 ∧ ∀ s ∈ (phR l p).1, (s.2.2.2.1.length : Int) ≤ 360 := by
    unfold phR
    split
    · exact ⟨by simp, fun x hx => by cases hx⟩
    · rename_i h
      have hG := okA_good (l := l) (by simpa using h)
      split
      · exact ⟨by simp, fun x hx => by cases hx⟩
      · have := phs_small l p [] (fun s hs => (hG.2 s hs).len.2) (fun x hx => by cases hx)
        refine ⟨?_, this.2⟩
        have h1 := this.1
        simp only [List.length_nil] at h1
        omega
  have := totS_le key.2
  exact ⟨totS_nonneg _, by omega, key.1, by omega, fun s hs => by have := key.2 s hs; omega⟩
end Go.Cams

/- Best phases and sums of lifts, in plain terms. -/
namespace Go.Cams
open Go Go.Fw
theorem wrap16 {x : Int} (h1 : -32768 ≤ x) (h2 : x ≤ 32767) : wr .i16 x = x := by
  show IntKind.i16.wrap x = x
  simp [IntKind.wrap, IntKind.bits, IntKind.signed]
  omega
/-- The best phase among the first ones, and how many clashes there are with it. -/
def bst (s u : Sft) (a p : Int) : Nat → Int × Int
  | 0 => (0, p + 1)
  | k + 1 => if cnt s (withP u k) a p.toNat < (bst s u a p k).2 then ((k : Int), cnt s (withP u k) a p.toNat) else bst s u a p k
theorem bst_step (s u : Sft) (a p : Int) {i : Int} (h0 : 0 ≤ i) : bst s u a p (i + 1).toNat = if cnt s (withP u i) a p.toNat < (bst s u a p i.toNat).2 then (i, cnt s (withP u i) a p.toNat) else bst s u a p i.toNat := by
  obtain ⟨k, rfl⟩ : ∃ k : Nat, i = k := ⟨i.toNat, by omega⟩
  show bst s u a p (k + 1) = _
  rfl
abbrev R3 : Type := Int × Int × Int × Unit
def bestR (l : List Sft) (i k a : Int) : R3 :=
  if (codeR l (isAt l i && isAt l k && inR a 0 20000)).2.1 ≠ (0 : Int) then (0, 0, (codeR l (isAt l i && isAt l k && inR a 0 20000)).2.1, ())
  else if i = k then (0, 0, 4, ())
  else match idx l i, idx l k with
    | some s, some u => ((bst s u a (codeR l (isAt l i && isAt l k && inR a 0 20000)).1 u.2.2.2.1.length).1, (bst s u a (codeR l (isAt l i && isAt l k && inR a 0 20000)).1 u.2.2.2.1.length).2, 0, ())
    | _, _ => (0, 0, 0, ())
/-- Sums of lifts. -/
def sumL (l : List Sft) (t : Int) : Int := (l.map (lift · t)).sum
theorem sumL_snoc (l : List Sft) (s : Sft) (t : Int) : sumL (l ++ [s]) t = sumL l t + lift s t := by simp [sumL]
theorem sumL_le {l : List Sft} (hG : ∀ s ∈ l, Good s) {t : Int} (h0 : 0 ≤ t) (h1 : t ≤ 20000) : 0 ≤ sumL l t ∧ sumL l t ≤ 10000 * l.length := by
  induction l with
  | nil => simp [sumL]
  | cons s r ih =>
    have h2 := (lift_eq (hG s (by simp)) h0 h1).2
    have h3 := ih fun x hx => hG x (by simp [hx])
    have : sumL (s :: r) t = lift s t + sumL r t := by simp [sumL]
    rw [this]
    simp only [List.length_cons]
    omega
def sums (l : List Sft) (n : Nat) : List Int := (List.range n).map fun j => sumL l (j : Nat)
theorem sums_len (l : List Sft) (n : Nat) : (sums l n).length = n := by simp [sums]
theorem sums_succ (l : List Sft) {i : Int} (h : 0 ≤ i) : sums l (i + 1).toNat = sums l i.toNat ++ [sumL l i] := by
  rw [show (i + 1).toNat = i.toNat + 1 by omega]
  simp only [sums, List.range_succ, List.map_append, List.map_cons, List.map_nil]
  rw [show ((i.toNat : Nat) : Int) = i by omega]
def sumR (l : List Sft) : List Int × (Int × Unit) := if (codeR l true).2.1 ≠ (0 : Int) then ([], (codeR l true).2.1, ()) else (sums l (Int.toNat (codeR l true).1), 0, ())
theorem sumR_len (l : List Sft) : ((sumR l).1.length : Int) ≤ 20000 := by
  unfold sumR
  split
  · simp
  · rename_i h
    have := code_ok (l := l) (room := true) (by simpa using h)
    have h2 := this.2
    show ((sums l _).length : Int) ≤ 20000
    rw [sums_len]
    generalize (codeR l true).1 = p at h2
    change Int at p
    have a : (0 : Int) ≤ p := h2.1
    have b : p ≤ (20000 : Int) := h2.2
    omega
end Go.Cams

/- Machines, turns, and greatest numbers, in plain terms. -/
namespace Go.Cams
open Go Go.Fw
abbrev Mch : Type := List Int × (List Int × (List Int × Unit))
/-- What is known of a list of int16. -/
structure Rng (l : List Int) : Prop where
  len : (l.length : Int) * 2 ≤ 140737488351232
  el : ∀ v ∈ l, -32768 ≤ v ∧ v ≤ 32767
theorem Rng.len' {l : List Int} (h : Rng l) : (l.length : Int) ≤ 70368744175616 := by have := h.len; omega
theorem Rng.id {l : List Int} (h : Rng l) {v : Int} (hv : v ∈ l) : wr .i64 v = v := by have := h.el v hv; exact wrap_id (by omega) (by omega)
theorem rng_of {l : List Int} (h : Dom (.slc (.int .i16)) l) : Rng l :=
  ⟨Int.ofNat_le.2 h.1, fun v hv => by
    have := h.2 v hv
    have e1 : IntKind.i16.min = -32768 := rfl
    have e2 : IntKind.i16.max = 32767 := rfl
    simp only [Dom] at this
    rw [e1, e2] at this
    exact this⟩
structure RngM (m : Mch) : Prop where
  x : Rng m.1
  y : Rng m.2.1
  p : Rng m.2.2.1
theorem rngM_of {m : Mch} (h : Dom (.pair (.slc (.int .i16)) (.pair (.slc (.int .i16)) (.pair (.slc (.int .i16)) .unit))) m) : RngM m := ⟨rng_of h.1, rng_of h.2.1, rng_of h.2.2.1⟩
def mxF (l : List Int) (a : Int) : Int := l.foldl (fun m v => max m v) a
def mnF (l : List Int) (a : Int) : Int := l.foldl (fun m v => min m v) a
theorem mxF_snoc (l : List Int) (a v : Int) : mxF (l ++ [v]) a = max (mxF l a) v := by simp [mxF]
theorem mnF_snoc (l : List Int) (a v : Int) : mnF (l ++ [v]) a = min (mnF l a) v := by simp [mnF]
def mxL (l : List Int) : Int := mxF l (l.headD 0)
def mnL (l : List Int) : Int := mnF l (l.headD 0)
theorem mxF_le : ∀ (l : List Int) (a b : Int), a ≤ b → (∀ v ∈ l, v ≤ b) → mxF l a ≤ b
  | [], a, b, h, _ => h
  | v :: r, a, b, h, hl => mxF_le r (max a v) b (by have := hl v (by simp); omega) (fun x hx => hl x (by simp [hx]))
theorem mxF_ge : ∀ (l : List Int) (a : Int), a ≤ mxF l a ∧ ∀ v ∈ l, v ≤ mxF l a
  | [], a => ⟨Int.le_refl _, fun _ h => by cases h⟩
  | v :: r, a => by
    have h := mxF_ge r (max a v)
    show a ≤ mxF r (max a v) ∧ ∀ x ∈ v :: r, x ≤ mxF r (max a v)
    refine ⟨by have := h.1; omega, fun x hx => ?_⟩
    rcases List.mem_cons.1 hx with rfl | hx
    · have := h.1; omega
    · exact h.2 x hx
theorem mnF_le : ∀ (l : List Int) (a b : Int), b ≤ a → (∀ v ∈ l, b ≤ v) → b ≤ mnF l a
  | [], a, b, h, _ => h
  | v :: r, a, b, h, hl => mnF_le r (min a v) b (by have := hl v (by simp); omega) (fun x hx => hl x (by simp [hx]))
theorem mnF_ge : ∀ (l : List Int) (a : Int), mnF l a ≤ a ∧ ∀ v ∈ l, mnF l a ≤ v
  | [], a => ⟨Int.le_refl _, fun _ h => by cases h⟩
  | v :: r, a => by
    have h := mnF_ge r (min a v)
    show mnF r (min a v) ≤ a ∧ ∀ x ∈ v :: r, mnF r (min a v) ≤ x
    refine ⟨by have := h.1; omega, fun x hx => ?_⟩
    rcases List.mem_cons.1 hx with rfl | hx
    · have := h.1; omega
    · exact h.2 x hx
theorem head_at {l : List Int} {v : Int} (h : At l 0 v) : l.headD 0 = v ∧ l.take 1 = [v] := by
  have := h.get
  cases l with
  | nil => simp at this
  | cons a r => simp at this; simp [this]
def mv (c : List Int) : Bool := okC c && decide (mxL c < 64)
def okM (m : Mch) : Bool := mv m.1 && mv m.2.1 && okC m.2.2.1 && ((m.1.length : Int) == (m.2.1.length : Int)) && ((m.1.length : Int) == (m.2.2.1.length : Int))
theorem okC_len {l : List Int} (h : okC l = true) : 8 ≤ (l.length : Int) ∧ (l.length : Int) ≤ 360 := by
  simp only [okC, Bool.and_eq_true, inR_iff] at h; exact h.1
theorem okC_el {l : List Int} (h : okC l = true) (hr : Rng l) : ∀ v ∈ l, 0 ≤ v ∧ v ≤ 10000 := by
  simp only [okC, Bool.and_eq_true, inR_iff, List.all_eq_true, okV] at h
  intro v hv
  have := h.2 v hv
  rw [hr.id hv] at this
  exact this
structure GoodM (m : Mch) : Prop where
  x : okC m.1 = true
  y : okC m.2.1 = true
  p : okC m.2.2.1 = true
  mx : mxL m.1 < 64
  my : mxL m.2.1 < 64
  xy : m.1.length = m.2.1.length
  xp : m.1.length = m.2.2.1.length
theorem goodM {m : Mch} (h : okM m = true) : GoodM m := by
  simp only [okM, mv, Bool.and_eq_true, decide_eq_true_eq, beq_iff_eq] at h
  obtain ⟨⟨⟨⟨⟨h1, h2⟩, h3, h4⟩, h5⟩, h6⟩, h7⟩ := h
  exact ⟨h1, h3, h5, h2, h4, by omega, by omega⟩

/-! ### Turns -/
def turnL (l : List Int) (m : Nat) : List Int := l.drop m ++ l.take m
theorem turnL_len (l : List Int) (m : Nat) : (turnL l m).length = l.length := by simp [turnL]; omega
theorem turnL_get {l : List Int} {m i : Nat} (hm : m < l.length) (hi : i < l.length) : (turnL l m)[i]? = l[(i + m) % l.length]? := by
  unfold turnL
  by_cases h : i < l.length - m
  · rw [List.getElem?_append_left (by rw [List.length_drop]; exact h), List.getElem?_drop, Nat.add_comm m i, Nat.mod_eq_of_lt (by omega)]
  · rw [List.getElem?_append_right (by rw [List.length_drop]; omega), List.length_drop, List.getElem?_take_of_lt (by omega)]
    congr 1
    have e : i + m = (i - (l.length - m)) + l.length := by omega
    rw [e, Nat.add_mod_right, Nat.mod_eq_of_lt (by omega)]
/-- The place of a step of a turned cam. -/
theorem turn_at {x n : Int} (hn : 0 < n) (h1 : n ≤ 1000000) (hx : -4000000 ≤ x) (hx' : x ≤ 4000000) : Int.tmod (wr .i64 (Int.tmod x n + n)) n = x % n := by
  have h2 := Int.tmod_lt_of_pos x hn
  have h3 : -n < Int.tmod x n := by
    rcases Int.le_total 0 x with h | h
    · have := Int.tmod_nonneg n h; omega
    · have := Int.tmod_lt_of_pos (-x) hn
      rw [Int.neg_tmod] at this
      omega
  rw [wrap_id (by omega) (by omega), Int.tmod_eq_emod_of_nonneg (by omega), Int.add_emod_right]
  rcases Int.le_total 0 x with h | h
  · rw [Int.tmod_eq_emod_of_nonneg h, Int.emod_emod]
  · rw [Int.tmod_def, Int.sub_mul_emod_self_left]
theorem emod_add_place {i b n : Int} (hn : 0 < n) : ((i + b) % n).toNat = (i.toNat + (b % n).toNat) % n.toNat ∨ i < 0 := by
  by_cases h : i < 0
  · exact .inr h
  left
  have hb := Int.emod_nonneg b (show n ≠ 0 by omega)
  have e : (i + b) % n = (i + b % n) % n := by rw [Int.add_emod, Int.add_emod i (b % n), Int.emod_emod]
  rw [e]
  obtain ⟨a, ha⟩ : ∃ a : Nat, i = a := ⟨i.toNat, by omega⟩
  obtain ⟨c, hc⟩ : ∃ c : Nat, b % n = c := ⟨(b % n).toNat, by omega⟩
  obtain ⟨m, hm⟩ : ∃ m : Nat, n = m := ⟨n.toNat, by omega⟩
  rw [hc, ha, hm]
  have : ((a : Int) + c) % m = (((a + c) % m : Nat) : Int) := by simp
  simp only [Int.toNat_natCast]
  rw [this, Int.toNat_natCast]
theorem floorDiv_eq {a b : Int} (hb : 0 < b) : (if Int.tmod a b < 0 then Int.tdiv a b - 1 else Int.tdiv a b) = a / b := by
  have h1 := Int.tmod_lt_of_pos a hb
  have h2 := Int.tmod_def a b
  have h3 : -b < Int.tmod a b := by
    rcases Int.le_total 0 a with h | h
    · have := Int.tmod_nonneg b h; omega
    · have := Int.tmod_lt_of_pos (-a) hb
      rw [Int.neg_tmod] at this
      omega
  split
  · have := (Int.ediv_emod_unique (a := a) (b := b) (r := Int.tmod a b + b) (q := Int.tdiv a b - 1) hb).2 ⟨by rw [Int.mul_sub, Int.mul_one]; omega, by omega, by omega⟩
    exact this.1.symm
  · have := (Int.ediv_emod_unique (a := a) (b := b) (r := Int.tmod a b) (q := Int.tdiv a b) hb).2 ⟨by omega, by omega, by omega⟩
    exact this.1.symm
theorem ediv_bd {a b M : Int} (hb : 0 < b) (h1 : -M ≤ a) (h2 : a ≤ M) (h0 : 0 ≤ M) : -M ≤ a / b ∧ a / b ≤ M := by
  constructor
  · rw [Int.le_ediv_iff_mul_le hb]
    have : M * 1 ≤ M * b := Int.mul_le_mul_of_nonneg_left (by omega) h0
    rw [Int.neg_mul]
    omega
  · have := Int.ediv_le_ediv hb h2
    have := Int.ediv_le_self (a := M) b h0
    omega
def szM (m : Mch) (a : Int) : Int := if sz1 m.1 a < 0 then -1 else if sz1 m.2.1 (sz1 m.1 a) < 0 then -1 else if sz1 m.2.2.1 (sz1 m.2.1 (sz1 m.1 a)) < 0 then -1 else sz1 m.2.2.1 (sz1 m.2.1 (sz1 m.1 a))
theorem szM_ok {m : Mch} (h : RngM m) {a : Int} (h0 : 0 ≤ a) (h1 : a ≤ 1048576) (hs : ¬ szM m a < 0) : (m.1.length : Int) + m.2.1.length + m.2.2.1.length ≤ 1048576 ∧ 0 ≤ szM m a ∧ szM m a ≤ 1048576 := by
  have hx := h.x.len'
  have hy := h.y.len'
  have hp := h.p.len'
  unfold szM at hs ⊢
  split at hs
  · omega
  rename_i c1
  obtain ⟨e1, l1⟩ := sz1_ok (by omega) h1 h0 c1
  rw [if_neg c1]
  split at hs
  · omega
  rename_i c2
  rw [e1] at c2
  obtain ⟨e2, l2⟩ := sz1_ok (by omega) (by omega) (by omega) c2
  rw [e1, if_neg c2]
  split at hs
  · omega
  rename_i c3
  rw [e1, e2] at c3
  obtain ⟨e3, l3⟩ := sz1_ok (by omega) (by omega) (by omega) c3
  rw [e2, if_neg c3, e3]
  omega
def tnM (m : Mch) (by_ : Int) : Mch := (turnL m.1 (by_ % m.1.length).toNat, turnL m.2.1 (by_ % m.2.1.length).toNat, turnL m.2.2.1 (by_ % m.2.2.1.length).toNat, ())
def tnR (m : Mch) (a : Int) : Mch × (Int × Unit) := if (!okM m) = true then (([], [], [], ()), 1, ()) else if (!inR a (-1000000) 1000000) = true then (([], [], [], ()), 2, ()) else (tnM m a, 0, ())
/-- What marks hold a machine. -/
def mkM (m : Mch) (k : Int) : Mch := (mkL (wr .i16) m.1.length k, mkL (wr .i16) m.2.1.length (k + m.1.length), mkL (wr .i16) m.2.2.1.length (k + m.1.length + m.2.1.length), ())
def totM (m : Mch) : Int := (m.1.length : Int) + m.2.1.length + m.2.2.1.length
theorem mkM_len (m : Mch) (k : Int) : (mkM m k).1.length = m.1.length ∧ (mkM m k).2.1.length = m.2.1.length ∧ (mkM m k).2.2.1.length = m.2.2.1.length := ⟨mkL_len _ _ _, mkL_len _ _ _, mkL_len _ _ _⟩
end Go.Cams
namespace Go.Cams
open Go Go.Fw
theorem tnR_small (m : Mch) (a : Int) : ((tnR m a).1.1.length : Int) ≤ 360 ∧ ((tnR m a).1.2.1.length : Int) ≤ 360 ∧ ((tnR m a).1.2.2.1.length : Int) ≤ 360 := by
  unfold tnR
  split
  · simp
  · rename_i h
    have hg := goodM (m := m) (by simpa using h)
    have lx := okC_len hg.x
    have ly := okC_len hg.y
    have lp := okC_len hg.p
    split
    · simp
    · simp only [tnM, turnL_len]
      omega
end Go.Cams

/- Two machines in one, in plain terms. -/
namespace Go.Cams
open Go Go.Fw
def lst (l : List Int) : Int := (idx l ((l.length : Int) - 1)).getD 0
theorem lst_at {l : List Int} (h : 0 < (l.length : Int)) : At l ((l.length : Int) - 1) (lst l) := by
  obtain ⟨v, hv⟩ := at_of (l := l) (i := (l.length : Int) - 1) (by omega) (by omega)
  have : lst l = v := by unfold lst; rw [hv.idx]; rfl
  rw [this]; exact hv
def thenL (a b : List Int) (x y : Int) : List Int := ((a ++ [x]) ++ b) ++ [y]
theorem thenL_len (a b : List Int) (x y : Int) : (thenL a b x y).length = a.length + b.length + 2 := by simp [thenL]; omega
theorem thenL_flat (a b : List Int) (x y : Int) : [a ++ [x], b ++ [y]].flatten = thenL a b x y := by simp [thenL]
def btM (m k : Mch) : Mch := (thenL m.1 k.1 (lst m.1) (lst k.1), thenL m.2.1 k.2.1 (lst m.2.1) (lst k.2.1), thenL m.2.2.1 k.2.2.1 1 1, ())
def btR (m k : Mch) : Mch × (Int × Unit) := if (!okM m) = true then (([], [], [], ()), 1, ()) else if (!okM k) = true then (([], [], [], ()), 1, ()) else if (m.1.length : Int) + k.1.length + 2 > 360 then (([], [], [], ()), 3, ()) else (btM m k, 0, ())
theorem btR_small (m k : Mch) : ((btR m k).1.1.length : Int) ≤ 1000 ∧ ((btR m k).1.2.1.length : Int) ≤ 1000 ∧ ((btR m k).1.2.2.1.length : Int) ≤ 1000 := by
  unfold btR
  split
  · simp
  split
  · simp
  rename_i h1 h2
  have g1 := goodM (m := m) (by simpa using h1)
  have g2 := goodM (m := k) (by simpa using h2)
  have a1 := okC_len g1.x
  have a2 := okC_len g1.y
  have a3 := okC_len g1.p
  have b1 := okC_len g2.x
  have b2 := okC_len g2.y
  have b3 := okC_len g2.p
  split
  · simp
  simp only [btM, thenL_len]
  omega
end Go.Cams

/- Events, in plain terms. -/
namespace Go.Cams
open Go Go.Fw
abbrev Evn : Type := Int × (Int × Unit)
def evOn (s : Sft) (lv t q : Int) : Bool := decide (lift s t ≥ lv) && decide (lift s q < lv)
def evR (lv t q : Int) : List Sft → Int → List Evn
  | [], _ => []
  | s :: r, i => (if evOn s lv t q = true then [(t, i, ())] else []) ++ evR lv t q r (i + 1)
theorem evR_snoc (lv t q : Int) : ∀ (a : List Sft) (s : Sft) (i : Int), evR lv t q (a ++ [s]) i = evR lv t q a i ++ (if evOn s lv t q = true then [(t, i + a.length, ())] else [])
  | [], s, i => by simp [evR]
  | x :: r, s, i => by
    show evR lv t q (x :: (r ++ [s])) i = _
    unfold evR
    rw [evR_snoc lv t q r, List.append_assoc]
    simp only [List.length_cons]
    rw [show i + 1 + (r.length : Int) = i + ((r.length + 1 : Nat) : Int) by omega]
theorem evR_len (lv t q : Int) : ∀ (a : List Sft) (i : Int), (evR lv t q a i).length ≤ a.length
  | [], _ => by simp [evR]
  | x :: r, i => by
    unfold evR
    have := evR_len lv t q r (i + 1)
    split <;> simp <;> omega
def evA (l : List Sft) (lv p : Int) (n : Nat) : List Evn := (List.range n).flatMap fun k => evR lv (k : Nat) (Int.tmod ((k : Nat) + p - 1) p) l 0
theorem evA_succ (l : List Sft) (lv p : Int) {i : Int} (h : 0 ≤ i) : evA l lv p (i + 1).toNat = evA l lv p i.toNat ++ evR lv i (Int.tmod (i + p - 1) p) l 0 := by
  rw [show (i + 1).toNat = i.toNat + 1 by omega]
  simp only [evA, List.range_succ, List.flatMap_append, List.flatMap_cons, List.flatMap_nil, List.append_nil]
  rw [show ((i.toNat : Nat) : Int) = i by omega]
theorem evA_len (l : List Sft) (lv p : Int) : ∀ n, (evA l lv p n).length ≤ n * l.length
  | 0 => by simp [evA]
  | n + 1 => by
    have h := evA_len l lv p n
    have e : evA l lv p (n + 1) = evA l lv p n ++ evR lv (n : Nat) (Int.tmod ((n : Nat) + p - 1) p) l 0 := by simp [evA, List.range_succ]
    have := evR_len lv (n : Nat) (Int.tmod ((n : Nat) + p - 1) p) l 0
    rw [e, List.length_append, Nat.add_mul]
    omega
def evRes (l : List Sft) (lv : Int) : List Evn × (Int × Unit) := if (codeR l (inR lv 0 20000)).2.1 ≠ (0 : Int) then ([], (codeR l (inR lv 0 20000)).2.1, ()) else (evA l lv (codeR l (inR lv 0 20000)).1 (Int.toNat (codeR l (inR lv 0 20000)).1), 0, ())
theorem evRes_len (l : List Sft) (lv : Int) : ((evRes l lv).1.length : Int) ≤ 120000 := by
  unfold evRes
  split
  · simp
  · rename_i h
    have := code_ok (l := l) (room := inR lv 0 20000) (by simpa using h)
    have hl := (okA_good this.1).1
    have h2 := this.2
    show ((evA l lv _ _).length : Int) ≤ 120000
    generalize (codeR l (inR lv 0 20000)).1 = p at h2
    change Int at p
    have a : (0 : Int) ≤ p := h2.1
    have b : p ≤ (20000 : Int) := h2.2
    have h3 := evA_len l lv p p.toNat
    have h4 : p.toNat * l.length ≤ 20000 * 6 := Nat.mul_le_mul (by omega) (by omega)
    omega
/-- The tick ahead of one, round the period. -/
theorem prev_zero {p : Int} (h : 0 < p) : Int.tmod (0 + p - 1) p = p - 1 := by
  rw [Int.tmod_eq_emod_of_nonneg (by omega)]
  exact Int.emod_eq_of_lt (by omega) (by omega) |>.trans (by omega)
theorem prev_pos {t p : Int} (h0 : 0 < t) (h1 : t < p) : Int.tmod (t + p - 1) p = t - 1 := by
  rw [Int.tmod_eq_emod_of_nonneg (by omega), show t + p - 1 = (t - 1) + p by omega, Int.add_emod_right]
  exact Int.emod_eq_of_lt (by omega) (by omega)
theorem prev_bd {t p : Int} (h0 : 0 ≤ t) (h1 : t < p) : 0 ≤ Int.tmod (t + p - 1) p ∧ Int.tmod (t + p - 1) p < p := by
  by_cases h : t = 0
  · subst h; rw [prev_zero h1]; omega
  · rw [prev_pos (by omega) h1]; omega
/-! ### Marks on events -/
def mkE (n : Nat) (k : Int) : List Evn := (List.range n).map fun i => (k + 2 * (i : Nat), k + 2 * (i : Nat) + 1, ())
theorem mkE_len (n : Nat) (k : Int) : (mkE n k).length = n := by simp [mkE]
theorem mkE_succ (n : Nat) (k : Int) : mkE (n + 1) k = mkE n k ++ [(k + 2 * (n : Nat), k + 2 * (n : Nat) + 1, ())] := by simp [mkE, List.range_succ]
theorem mkE_at (n : Nat) (k : Int) {i : Int} {v : Evn} (h : At (mkE n k) i v) (h0 : 0 ≤ i) : v.1 = k + 2 * i ∧ v.2.1 = k + 2 * i + 1 := by
  have := h.get
  unfold mkE at this
  rw [List.getElem?_map] at this
  obtain ⟨j, hj, e⟩ := Option.map_eq_some_iff.1 this
  obtain ⟨hlt, e2⟩ := List.getElem?_eq_some_iff.1 hj
  simp at e2
  rw [← e, ← e2]
  simp only
  omega
end Go.Cams
namespace Go.Cams
open Go Go.Fw
theorem prev_next {t p : Int} (h0 : 0 ≤ t) (h1 : t < p) : Int.tmod (t + 1 + p - 1) p = t := by
  rw [Int.tmod_eq_emod_of_nonneg (by omega), show t + 1 + p - 1 = t + p by omega, Int.add_emod_right]
  exact Int.emod_eq_of_lt (by omega) (by omega)
theorem code_pos {l : List Sft} {room : Bool} (h : (codeR l room).2.1 = (0 : Int)) : (1 : Int) ≤ (codeR l room).1 := by
  have hok := (code_ok h).1
  have hr := codeR_room h
  subst hr
  unfold codeR at h ⊢
  rw [if_neg (by simp [hok]), if_neg (by simp)] at h ⊢
  unfold allR at h ⊢
  cases hp : per l 1 with
  | none => rw [hp] at h; exact absurd h (by decide)
  | some p => exact (per_le (okA_good hok).2 (by omega) (by omega) hp).1
theorem evA_bd {l : List Sft} (hl : l.length ≤ 6) (lv p : Int) {t : Int} (h0 : 0 ≤ t) (h1 : t ≤ 20000) : (evA l lv p t.toNat).length ≤ 120000 := by
  have h3 := evA_len l lv p t.toNat
  have h4 : t.toNat * l.length ≤ 20000 * 6 := Nat.mul_le_mul (by omega) hl
  omega
theorem evR_bd {l : List Sft} (hl : l.length ≤ 6) (lv t q : Int) (i : Nat) : (evR lv t q (l.take i) 0).length ≤ 6 := by
  have := evR_len lv t q (l.take i) 0
  rw [List.length_take] at this
  omega
end Go.Cams

/- Cutters, tips, and what a cutter leaves, in plain terms. -/
namespace Go.Cams
open Go Go.Fw
/-- An element, 0 where there is none. -/
def g (l : List Int) (i : Nat) : Int := l.getD i 0
theorem g_at {l : List Int} {i v : Int} (h : At l i v) : g l i.toNat = v := by
  have := h.get
  unfold g
  rw [List.getD_eq_getElem?_getD, this]; rfl
theorem g_idx {l : List Int} {i : Int} (h0 : 0 ≤ i) (h1 : i < l.length) : At l i (g l i.toNat) := by
  obtain ⟨v, hv⟩ := at_of (l := l) h0 h1
  rw [g_at hv]; exact hv
theorem g_mem {l : List Int} {i : Nat} (h : i < l.length) : g l i ∈ l := by
  have := g_idx (l := l) (i := i) (by omega) (by omega)
  simpa using this.mem
theorem g_set (l : List Int) (i j : Nat) (v : Int) : g (l.set i v) j = if i = j ∧ i < l.length then v else g l j := by
  unfold g
  rw [List.getD_eq_getElem?_getD, List.getD_eq_getElem?_getD, List.getElem?_set]
  by_cases h : i = j
  · subst h
    by_cases h2 : i < l.length
    · simp [h2]
    · simp [h2]
  · simp [h]
def cAt (l : List Int) (x : Int) : Int := g l (x % l.length).toNat

/-! ### Validity -/
def kOne (k : List Int) (i : Nat) : Bool := inR (wr .i64 (g k i)) 0 10000 && (g k (k.length - 1 - i) == g k i) && (decide (i = 0) || !decide (g k (i - 1) < g k i))
def kTwo (k : List Int) (i : Nat) : Bool := inR (wr .i64 (g k i)) 0 10000 && (g k i == g k (k.length - 1 - i)) && !(decide (i > k.length / 2) && decide (g k i < g k (i - 1)))
def allTo (p : Nat → Bool) (n : Nat) : Bool := (List.range n).all p
theorem allTo_succ (p : Nat → Bool) (n : Nat) : allTo p (n + 1) = (allTo p n && p n) := by simp [allTo, List.range_succ]
theorem allTo_iff (p : Nat → Bool) (n : Nat) : allTo p n = true ↔ ∀ i, i < n → p i = true := by simp [allTo]
theorem allTo_false {p : Nat → Bool} {n i : Nat} (h : i < n) (hp : p i = false) : allTo p n = false := by
  rw [Bool.eq_false_iff]
  intro ha
  have := (allTo_iff p n).1 ha i h
  rw [hp] at this
  cases this
def okK (k : List Int) : Bool := inR (k.length : Int) 1 31 && decide (k.length % 2 = 1) && (g k (k.length / 2) == 0) && allTo (kOne k) (k.length / 2 + 1)
theorem kTwo_of {k : List Int} (ho : k.length % 2 = 1) (h : allTo (kOne k) (k.length / 2 + 1) = true) : allTo (kTwo k) k.length = true := by
  rw [allTo_iff] at h ⊢
  have h' : ∀ i, i < k.length / 2 + 1 → (0 ≤ wr .i64 (g k i) ∧ wr .i64 (g k i) ≤ 10000) ∧ g k (k.length - 1 - i) = g k i ∧ (i = 0 ∨ ¬ g k (i - 1) < g k i) := by
    intro i hi
    have := h i hi
    simp only [kOne, Bool.and_eq_true, Bool.or_eq_true, beq_iff_eq, decide_eq_true_eq, inR_iff, Bool.not_eq_true', decide_eq_false_iff_not] at this
    exact ⟨this.1.1, this.1.2, this.2⟩
  intro i hi
  simp only [kTwo, Bool.and_eq_true, beq_iff_eq, inR_iff, Bool.not_eq_true', Bool.and_eq_false_iff, decide_eq_false_iff_not]
  by_cases hc : i < k.length / 2 + 1
  · obtain ⟨a, b, _⟩ := h' i hc
    exact ⟨⟨a, b.symm⟩, .inl (by omega)⟩
  · obtain ⟨a, b, _⟩ := h' (k.length - 1 - i) (by omega)
    rw [show k.length - 1 - (k.length - 1 - i) = i by omega] at b
    obtain ⟨_, b2, d⟩ := h' (k.length - 1 - (i - 1)) (by omega)
    rw [show k.length - 1 - (k.length - 1 - (i - 1)) = i - 1 by omega] at b2
    refine ⟨⟨by rw [b]; exact a, b⟩, .inr ?_⟩
    rcases d with d | d
    · omega
    · rw [show k.length - 1 - (i - 1) - 1 = k.length - 1 - i by omega] at d
      rw [b, b2]; exact d
theorem kOne_of {k : List Int} (ho : k.length % 2 = 1) (h : allTo (kTwo k) k.length = true) : allTo (kOne k) (k.length / 2 + 1) = true := by
  rw [allTo_iff] at h ⊢
  have h' : ∀ i, i < k.length → (0 ≤ wr .i64 (g k i) ∧ wr .i64 (g k i) ≤ 10000) ∧ g k i = g k (k.length - 1 - i) ∧ (¬ i > k.length / 2 ∨ ¬ g k i < g k (i - 1)) := by
    intro i hi
    have := h i hi
    simp only [kTwo, Bool.and_eq_true, beq_iff_eq, inR_iff, Bool.not_eq_true', Bool.and_eq_false_iff, decide_eq_false_iff_not] at this
    exact ⟨this.1.1, this.1.2, this.2⟩
  intro i hi
  obtain ⟨a, b, _⟩ := h' i (by omega)
  simp only [kOne, Bool.and_eq_true, Bool.or_eq_true, beq_iff_eq, decide_eq_true_eq, inR_iff, Bool.not_eq_true', decide_eq_false_iff_not]
  refine ⟨⟨a, b.symm⟩, ?_⟩
  by_cases h0 : i = 0
  · exact .inl h0
  right
  obtain ⟨_, b2, d⟩ := h' (k.length - 1 - (i - 1)) (by omega)
  rw [show k.length - 1 - (k.length - 1 - (i - 1)) = i - 1 by omega] at b2
  rcases d with d | d
  · omega
  · rw [show k.length - 1 - (i - 1) - 1 = k.length - 1 - i by omega, ← b, b2] at d
    exact d
structure GoodK (k : List Int) : Prop where
  lo : 1 ≤ k.length
  hi : k.length ≤ 31
  odd : k.length % 2 = 1
  mid : g k (k.length / 2) = 0
  el : ∀ i, i < k.length → 0 ≤ g k i ∧ g k i ≤ 10000
  sym : ∀ i, i < k.length → g k i = g k (k.length - 1 - i)
theorem goodK {k : List Int} (hr : Rng k) (h : okK k = true) : GoodK k := by
  simp only [okK, Bool.and_eq_true, inR_iff, decide_eq_true_eq, beq_iff_eq] at h
  obtain ⟨⟨⟨h1, h2⟩, h3⟩, h4⟩ := h
  have h5 := (allTo_iff _ _).1 (kTwo_of h2 h4)
  have h6 : ∀ i, i < k.length → (0 ≤ g k i ∧ g k i ≤ 10000) ∧ g k i = g k (k.length - 1 - i) := by
    intro i hi
    have := h5 i hi
    simp only [kTwo, Bool.and_eq_true, beq_iff_eq, inR_iff] at this
    rw [hr.id (g_mem hi)] at this
    exact this.1
  exact ⟨by omega, by omega, h2, h3, fun i hi => (h6 i hi).1, fun i hi => (h6 i hi).2⟩
def cutCode (c k : List Int) : Int := if okC c = true then (if okK k = true then 0 else 1) else 1

/-! ### Tips -/
def half (k : List Int) : Int := (k.length / 2 : Nat)
def tipTo (c k : List Int) (s : Int) : Nat → Int
  | 0 => 0
  | i + 1 => max (tipTo c k s i) (cAt c (s + i - half k) - g k i)
def tip (c k : List Int) (s : Int) : Int := tipTo c k s k.length
def tipsL (c k : List Int) (n : Nat) : List Int := (List.range n).map fun s => tip c k (s : Nat)
theorem tipsL_len (c k : List Int) (n : Nat) : (tipsL c k n).length = n := by simp [tipsL]
theorem tipsL_succ (c k : List Int) {i : Int} (h : 0 ≤ i) : tipsL c k (i + 1).toNat = tipsL c k i.toNat ++ [tip c k i] := by
  rw [show (i + 1).toNat = i.toNat + 1 by omega]
  simp only [tipsL, List.range_succ, List.map_append, List.map_cons, List.map_nil]
  rw [show ((i.toNat : Nat) : Int) = i by omega]
theorem g_tips (c k : List Int) {n i : Nat} (h : i < n) : g (tipsL c k n) i = tip c k i := by
  unfold g tipsL
  rw [List.getD_eq_getElem?_getD, List.getElem?_map, List.getElem?_range h]
  rfl
theorem cAt_mem {c : List Int} (h : 0 < c.length) (x : Int) : cAt c x ∈ c := by
  have h1 := Int.emod_nonneg x (show (c.length : Int) ≠ 0 by omega)
  have h2 := Int.emod_lt_of_pos x (show 0 < (c.length : Int) by omega)
  exact g_mem (by omega)
theorem tipTo_bd {c k : List Int} (hc : 0 < c.length) (hC : ∀ v ∈ c, 0 ≤ v ∧ v ≤ 10000) (hK : ∀ i, i < k.length → 0 ≤ g k i ∧ g k i ≤ 10000) (s : Int) : ∀ i, i ≤ k.length → 0 ≤ tipTo c k s i ∧ tipTo c k s i ≤ 10000
  | 0, _ => by simp [tipTo]
  | i + 1, h => by
    have h1 := tipTo_bd hc hC hK s i (by omega)
    have h2 := hC _ (cAt_mem hc (s + i - half k))
    have h3 := hK i (by omega)
    unfold tipTo
    omega

/-! ### Cuts -/
def place (k : List Int) (s : Int) (n : Nat) (i : Nat) : Nat := ((s + i - half k) % n).toNat
def cutTo (k : List Int) (s tp : Int) (o : List Int) : Nat → List Int × Int
  | 0 => (o, 0)
  | i + 1 => if g (cutTo k s tp o i).1 (place k s o.length i) > tp + g k i then ((cutTo k s tp o i).1.set (place k s o.length i) (tp + g k i), (cutTo k s tp o i).2 + (g (cutTo k s tp o i).1 (place k s o.length i) - (tp + g k i))) else cutTo k s tp o i
theorem cutTo_len (k : List Int) (s tp : Int) (o : List Int) : ∀ i, (cutTo k s tp o i).1.length = o.length
  | 0 => rfl
  | i + 1 => by
    unfold cutTo
    split
    · rw [List.length_set]; exact cutTo_len k s tp o i
    · exact cutTo_len k s tp o i
theorem place_lt (k : List Int) (s : Int) {n : Nat} (h : 0 < n) (i : Nat) : place k s n i < n := by
  have h1 := Int.emod_nonneg (s + i - half k) (show (n : Int) ≠ 0 by omega)
  have h2 := Int.emod_lt_of_pos (s + i - half k) (show 0 < (n : Int) by omega)
  unfold place; omega
/-- Elements of a surface behind a cut: none is higher, and each is as before or as the cutter left it. -/
theorem cutTo_el (k : List Int) (s tp : Int) {o : List Int} (h : 0 < o.length) (p : Nat) (hp : p < o.length) : ∀ i, g (cutTo k s tp o i).1 p ≤ g o p ∧ (∀ j, j < i → place k s o.length j = p → g (cutTo k s tp o i).1 p ≤ tp + g k j) ∧ (g (cutTo k s tp o i).1 p = g o p ∨ ∃ j, j < i ∧ place k s o.length j = p ∧ g (cutTo k s tp o i).1 p = tp + g k j)
  | 0 => ⟨Int.le_refl _, fun j hj => by omega, .inl rfl⟩
  | i + 1 => by
    obtain ⟨h1, h2, h3⟩ := cutTo_el k s tp h p hp i
    have hl := cutTo_len k s tp o i
    have hlt := place_lt k s h i
    unfold cutTo
    split
    · rename_i hgt
      by_cases e : place k s o.length i = p
      · have hg : g ((cutTo k s tp o i).1.set (place k s o.length i) (tp + g k i)) p = tp + g k i := by rw [g_set, if_pos ⟨e, by omega⟩]
        rw [e] at hgt
        simp only [hg]
        refine ⟨by omega, fun j hj hpj => ?_, .inr ⟨i, by omega, e, rfl⟩⟩
        by_cases hji : j = i
        · subst hji; omega
        · have := h2 j (by omega) hpj; omega
      · have hg : g ((cutTo k s tp o i).1.set (place k s o.length i) (tp + g k i)) p = g (cutTo k s tp o i).1 p := by rw [g_set, if_neg (fun h => e h.1)]
        simp only [hg]
        refine ⟨h1, fun j hj hpj => ?_, ?_⟩
        · by_cases hji : j = i
          · subst hji; exact absurd hpj e
          · exact h2 j (by omega) hpj
        · exact h3.imp id fun ⟨j, a, b, c⟩ => ⟨j, by omega, b, c⟩
    · rename_i hgt
      refine ⟨h1, fun j hj hpj => ?_, h3.imp id fun ⟨j, a, b, c⟩ => ⟨j, by omega, b, c⟩⟩
      by_cases hji : j = i
      · subst hji; rw [hpj] at hgt; omega
      · exact h2 j (by omega) hpj
/-- The surface behind cuts at all steps ahead of one. -/
def leftTo (c k : List Int) : Nat → List Int
  | 0 => List.replicate c.length 10000
  | s + 1 => (cutTo k (s : Nat) (tip c k (s : Nat)) (leftTo c k s) k.length).1
theorem leftTo_len (c k : List Int) : ∀ s, (leftTo c k s).length = c.length
  | 0 => by simp [leftTo]
  | s + 1 => by unfold leftTo; rw [cutTo_len, leftTo_len c k s]
theorem leftTo_el {c : List Int} (k : List Int) (h : 0 < c.length) (p : Nat) (hp : p < c.length) : ∀ s, g (leftTo c k s) p ≤ 10000 ∧ (∀ u, u < s → ∀ j, j < k.length → place k u c.length j = p → g (leftTo c k s) p ≤ tip c k u + g k j) ∧ (g (leftTo c k s) p = 10000 ∨ ∃ u j, u < s ∧ j < k.length ∧ place k (u : Nat) c.length j = p ∧ g (leftTo c k s) p = tip c k (u : Nat) + g k j)
  | 0 => by
    have : g (leftTo c k 0) p = 10000 := by unfold g leftTo; rw [List.getD_eq_getElem?_getD, List.getElem?_replicate_of_lt hp]; rfl
    exact ⟨by omega, fun u hu => by omega, .inl this⟩
  | s + 1 => by
    obtain ⟨h1, h2, h3⟩ := leftTo_el k h p hp s
    have hl := leftTo_len c k s
    obtain ⟨c1, c2, c3⟩ := cutTo_el k (s : Nat) (tip c k (s : Nat)) (o := leftTo c k s) (by omega) p (by omega) k.length
    rw [hl] at c2 c3
    unfold leftTo
    refine ⟨by omega, fun u hu j hj hpj => ?_, ?_⟩
    · by_cases e : u = s
      · subst e; exact c2 j hj hpj
      · have := h2 u (by omega) j hj hpj; omega
    · rcases c3 with c3 | ⟨j, a, b, d⟩
      · rw [c3]
        exact h3.imp id fun ⟨u, j, x, y⟩ => ⟨u, j, by omega, y⟩
      · exact .inr ⟨s, j, by omega, a, b, d⟩
def lfTo (c k : List Int) (p : Int) : Nat → Int
  | 0 => tip c k p
  | i + 1 => min (lfTo c k p i) (tip c k ((p + i - half k) % c.length) + g k i)
def lf (c k : List Int) (p : Int) : Int := lfTo c k p k.length
theorem lfTo_el (c k : List Int) (p : Int) : ∀ i, lfTo c k p i ≤ tip c k p ∧ (∀ j, j < i → lfTo c k p i ≤ tip c k ((p + (j : Nat) - half k) % c.length) + g k j) ∧ (lfTo c k p i = tip c k p ∨ ∃ j, j < i ∧ lfTo c k p i = tip c k ((p + (j : Nat) - half k) % c.length) + g k j)
  | 0 => ⟨Int.le_refl _, fun j hj => by omega, .inl rfl⟩
  | i + 1 => by
    obtain ⟨h1, h2, h3⟩ := lfTo_el c k p i
    unfold lfTo
    refine ⟨by omega, fun j hj => ?_, ?_⟩
    · by_cases e : j = i
      · subst e; omega
      · have := h2 j (by omega); omega
    · rcases Int.le_total (lfTo c k p i) (tip c k ((p + (i : Nat) - half k) % c.length) + g k i) with hle | hle
      · rw [Int.min_eq_left hle]
        exact h3.imp id fun ⟨j, a, b⟩ => ⟨j, by omega, b⟩
      · rw [Int.min_eq_right hle]
        exact .inr ⟨i, by omega, rfl⟩
/-- Both ways to tell what is left are one. -/
theorem left_eq {c k : List Int} (hc : 0 < c.length) (hC : ∀ v ∈ c, 0 ≤ v ∧ v ≤ 10000) (G : GoodK k) (p : Nat) (hp : p < c.length) : g (leftTo c k c.length) p = lf c k p := by
  obtain ⟨a1, a2, a3⟩ := leftTo_el k hc p hp c.length
  obtain ⟨b1, b2, b3⟩ := lfTo_el c k (p : Nat) k.length
  have hodd := G.odd
  have hhalf : half k = ((k.length / 2 : Nat) : Int) := rfl
  have hmid : (k.length / 2) < k.length := by have := G.lo; omega
  -- a pair of a step and a place that meets p is a place seen from p
  have to : ∀ u j : Nat, u < c.length → j < k.length → place k (u : Nat) c.length j = p → ((p : Nat) + ((k.length - 1 - j : Nat) : Int) - half k) % c.length = (u : Nat) := by
    intro u j hu hj hpj
    unfold place at hpj
    have h1 := Int.emod_nonneg ((u : Int) + j - half k) (show (c.length : Int) ≠ 0 by omega)
    have e : ((u : Int) + j - half k) % c.length = (p : Nat) := by omega
    have hd := Int.emod_def ((u : Int) + j - half k) c.length
    rw [e] at hd
    have e2 : (p : Int) + ((k.length - 1 - j : Nat) : Int) - half k = (u : Int) - c.length * (((u : Int) + j - half k) / c.length) := by
      rw [hhalf] at hd ⊢
      omega
    rw [e2, Int.sub_mul_emod_self_left]
    exact Int.emod_eq_of_lt (by omega) (by omega)
  have frm : ∀ j : Nat, j < k.length → ∃ u : Nat, u < c.length ∧ ((p : Nat) + ((j : Nat) : Int) - half k) % c.length = (u : Nat) ∧ place k (u : Nat) c.length (k.length - 1 - j) = p := by
    intro j hj
    have h1 := Int.emod_nonneg ((p : Int) + j - half k) (show (c.length : Int) ≠ 0 by omega)
    have h2 := Int.emod_lt_of_pos ((p : Int) + j - half k) (show 0 < (c.length : Int) by omega)
    refine ⟨(((p : Int) + j - half k) % c.length).toNat, by omega, by omega, ?_⟩
    have hu : (((((p : Int) + j - half k) % c.length).toNat : Nat) : Int) = ((p : Int) + j - half k) % c.length := by omega
    unfold place
    rw [hu]
    have hd := Int.emod_def ((p : Int) + j - half k) c.length
    have e2 : ((p : Int) + j - half k) % c.length + ((k.length - 1 - j : Nat) : Int) - half k = (p : Int) - c.length * (((p : Int) + j - half k) / c.length) := by
      rw [hd, hhalf]
      omega
    rw [e2, Int.sub_mul_emod_self_left, Int.emod_eq_of_lt (by omega) (by omega)]
    simp
  have tipbd := (tipTo_bd hc hC G.el (p : Nat) k.length (Nat.le_refl _)).2
  have htip : tip c k (p : Nat) ≤ 10000 := tipbd
  apply Int.le_antisymm
  · show _ ≤ lfTo c k (p : Nat) k.length
    rcases b3 with b3 | ⟨j, hj, b3⟩
    · rw [b3]
      obtain ⟨u, hu, e, hpl⟩ := frm (k.length / 2) hmid
      have e0 : ((p : Nat) + ((k.length / 2 : Nat) : Int) - half k) % c.length = (p : Nat) := by
        rw [hhalf, show (p : Int) + ((k.length / 2 : Nat) : Int) - ((k.length / 2 : Nat) : Int) = p by omega]
        exact Int.emod_eq_of_lt (by omega) (by omega)
      have hup : u = p := by omega
      subst hup
      have := a2 u hu (k.length - 1 - k.length / 2) (by omega) hpl
      rw [show k.length - 1 - k.length / 2 = k.length / 2 by omega, G.mid] at this
      omega
    · rw [b3]
      obtain ⟨u, hu, e, hpl⟩ := frm j hj
      have := a2 u hu (k.length - 1 - j) (by omega) hpl
      rw [← G.sym j hj] at this
      rw [e]
      exact this
  · show lfTo c k (p : Nat) k.length ≤ _
    rcases a3 with a3 | ⟨u, j, hu, hj, hpl, a3⟩
    · rw [a3]; omega
    · rw [a3]
      have := b2 (k.length - 1 - j) (by omega)
      rw [to u j hu hj hpl, ← G.sym j hj] at this
      exact this
end Go.Cams
namespace Go.Cams
open Go Go.Fw
theorem tipTo_succ (c k : List Int) (s : Int) (i : Nat) : tipTo c k s (i + 1) = max (tipTo c k s i) (cAt c (s + i - half k) - g k i) := rfl
theorem lfTo_succ (c k : List Int) (p : Int) (i : Nat) : lfTo c k p (i + 1) = min (lfTo c k p i) (tip c k ((p + i - half k) % c.length) + g k i) := rfl
theorem cutTo_succ (k : List Int) (s tp : Int) (o : List Int) (i : Nat) : cutTo k s tp o (i + 1) = if g (cutTo k s tp o i).1 (place k s o.length i) > tp + g k i then ((cutTo k s tp o i).1.set (place k s o.length i) (tp + g k i), (cutTo k s tp o i).2 + (g (cutTo k s tp o i).1 (place k s o.length i) - (tp + g k i))) else cutTo k s tp o i := rfl
theorem leftTo_succ (c k : List Int) (s : Nat) : leftTo c k (s + 1) = (cutTo k (s : Nat) (tip c k (s : Nat)) (leftTo c k s) k.length).1 := rfl
/-- A surface stays within its bounds. -/
theorem cutTo_bd (k : List Int) (s : Int) {tp : Int} {o : List Int} (h : 0 < o.length) (hp : 0 ≤ tp) (hK : ∀ i, i < k.length → 0 ≤ g k i) (ho : ∀ v ∈ o, 0 ≤ v ∧ v ≤ 10000) : ∀ i, i ≤ k.length → (∀ v ∈ (cutTo k s tp o i).1, 0 ≤ v ∧ v ≤ 10000) ∧ 0 ≤ (cutTo k s tp o i).2 ∧ (cutTo k s tp o i).2 ≤ 10000 * i
  | 0, _ => ⟨ho, by simp [cutTo], by simp [cutTo]⟩
  | i + 1, hi => by
    obtain ⟨h1, h2, h3⟩ := cutTo_bd k s h hp hK ho i (by omega)
    have hk := hK i (by omega)
    have hlt := place_lt k s h i
    have hl := cutTo_len k s tp o i
    have hm := h1 _ (g_mem (l := (cutTo k s tp o i).1) (i := place k s o.length i) (by omega))
    rw [cutTo_succ]
    split
    · rename_i hgt
      refine ⟨fun v hv => ?_, ?_, ?_⟩
      · rcases List.mem_or_eq_of_mem_set hv with hv | hv
        · exact h1 v hv
        · rw [hv]; omega
      · simp only; omega
      · simp only; omega
    · exact ⟨h1, h2, by omega⟩
theorem rng_bd {l : List Int} (hl : (l.length : Int) ≤ 1000000) (h : ∀ v ∈ l, 0 ≤ v ∧ v ≤ 10000) : Rng l := ⟨by omega, fun v hv => by have := h v hv; omega⟩
theorem leftTo_bd {c k : List Int} (hc : 0 < c.length) (hC : ∀ v ∈ c, 0 ≤ v ∧ v ≤ 10000) (G : GoodK k) : ∀ s, ∀ v ∈ leftTo c k s, 0 ≤ v ∧ v ≤ 10000
  | 0 => fun v hv => by
    unfold leftTo at hv
    rw [List.mem_replicate] at hv
    omega
  | s + 1 => by
    have h := leftTo_bd hc hC G s
    have hl := leftTo_len c k s
    have ht := (tipTo_bd hc hC G.el (s : Nat) k.length (Nat.le_refl _)).1
    rw [leftTo_succ]
    exact (cutTo_bd k (s : Nat) (by omega) ht (fun i hi => (G.el i hi).1) h k.length (Nat.le_refl _)).1
def leftL (c k : List Int) : List Int := leftTo c k c.length
theorem leftL_len (c k : List Int) : (leftL c k).length = c.length := leftTo_len c k _
/-- The steps that are not reached. -/
def nrTo (c l : List Int) : Nat → List Int
  | 0 => []
  | i + 1 => if g l i > g c i then nrTo c l i ++ [(i : Int)] else nrTo c l i
theorem nrTo_succ (c l : List Int) (i : Nat) : nrTo c l (i + 1) = if g l i > g c i then nrTo c l i ++ [(i : Int)] else nrTo c l i := rfl
theorem nrTo_len (c l : List Int) : ∀ i, (nrTo c l i).length ≤ i
  | 0 => Nat.le_refl _
  | i + 1 => by
    have := nrTo_len c l i
    rw [nrTo_succ]
    split
    · simp; omega
    · omega
def nrR (c k : List Int) : List Int × (Int × Unit) := if cutCode c k ≠ 0 then ([], cutCode c k, ()) else (nrTo c (leftL c k) c.length, 0, ())
theorem cutCode_ok {c k : List Int} (h : cutCode c k = 0) : okC c = true ∧ okK k = true := by
  unfold cutCode at h
  split at h
  · rename_i h1
    split at h
    · rename_i h2; exact ⟨h1, h2⟩
    · exact absurd h (by decide)
  · exact absurd h (by decide)
theorem nrR_len (c k : List Int) : ((nrR c k).1.length : Int) ≤ 360 := by
  unfold nrR
  split
  · simp
  · rename_i h
    have h1 := okC_len (cutCode_ok (c := c) (k := k) (by simpa using h)).1
    have := nrTo_len c (leftL c k) c.length
    simp only
    omega
/-- What is left, a step at a time. -/
theorem leftL_take {c k : List Int} (hc : 0 < c.length) (hC : ∀ v ∈ c, 0 ≤ v ∧ v ≤ 10000) (G : GoodK k) {i : Nat} (h : i < c.length) : (leftL c k).take (i + 1) = (leftL c k).take i ++ [lf c k i] := by
  have hl := leftL_len c k
  have e : (leftL c k)[i]? = some (lf c k i) := by
    rw [← left_eq hc hC G i h]
    have := (g_idx (l := leftL c k) (i := (i : Int)) (by omega) (by omega)).get
    simpa [leftL] using this
  rw [List.take_add_one, e]; rfl
theorem lf_bd {c k : List Int} (hc : 0 < c.length) (hC : ∀ v ∈ c, 0 ≤ v ∧ v ≤ 10000) (G : GoodK k) {i : Nat} (h : i < c.length) : 0 ≤ lf c k i ∧ lf c k i ≤ 10000 := by
  rw [← left_eq hc hC G i h]
  exact leftTo_bd hc hC G c.length _ (g_mem (by rw [leftTo_len]; exact h))
end Go.Cams

/- Waste, and the best cutter, in plain terms. -/
namespace Go.Cams
open Go Go.Fw
structure RngS (K : List (List Int)) : Prop where
  len : (K.length : Int) * 24 ≤ 140737488351232
  el : ∀ k ∈ K, Rng k
theorem rngS_of {K : List (List Int)} (h : Dom (.slc (.slc (.int .i16))) K) : RngS K := ⟨Int.ofNat_le.2 h.1, fun k hk => rng_of (h.2 k hk)⟩
theorem RngS.len' {K : List (List Int)} (h : RngS K) : (K.length : Int) ≤ 5864062014635 := by have := h.len; omega
def szLf : List (List Int) → Int → Int
  | [], a => a
  | s :: r, a => if sz1 s a < 0 then -1 else szLf r (sz1 s a)
def szL (K : List (List Int)) (a : Int) : Int := if wr .i64 (a - (K.length : Int)) < 0 then -1 else szLf K (wr .i64 (a - (K.length : Int)))
def totL (K : List (List Int)) : Int := (K.map fun k => (k.length : Int)).sum
theorem totL_cons (k : List Int) (K : List (List Int)) : totL (k :: K) = k.length + totL K := by simp [totL]
theorem totL_nonneg : ∀ K : List (List Int), 0 ≤ totL K
  | [] => by simp [totL]
  | s :: r => by have := totL_nonneg r; rw [totL_cons]; omega
theorem totL_append (a b : List (List Int)) : totL (a ++ b) = totL a + totL b := by simp [totL]
theorem totL_take (l : List (List Int)) (i : Nat) : totL (l.take i) + totL (l.drop i) = totL l := by rw [← totL_append, List.take_append_drop]
theorem szLf_ok (l : List (List Int)) : ∀ {a : Int}, (∀ k ∈ l, Rng k) → a ≤ 1048576 → 0 ≤ a → ¬ szLf l a < 0 → totL l ≤ a ∧ szLf l a = a - totL l := by
  induction l with
  | nil =>
    intro a _ _ h1 _
    have : totL [] = 0 := by simp [totL]
    rw [this]
    exact ⟨h1, by simp [szLf]⟩
  | cons s r ih =>
    intro a hS h0 h1 h
    have hs := (hS s (by simp)).len'
    unfold szLf at h ⊢
    split at h
    · omega
    · rename_i h3
      obtain ⟨e, hle⟩ := sz1_ok (by omega) h0 h1 h3
      rw [if_neg h3]
      rw [e] at h ⊢
      have := ih (fun k hk => hS k (by simp [hk])) (by omega) (by omega) h
      rw [totL_cons]
      omega
theorem szL_ok {K : List (List Int)} (hS : RngS K) {a : Int} (h0 : 0 ≤ a) (h1 : a ≤ 1048576) (h : ¬ szL K a < 0) : (K.length : Int) + totL K ≤ a ∧ szL K a = a - K.length - totL K := by
  have h2 := hS.len'
  unfold szL at h ⊢
  rw [wrap_id (by omega) (by omega)] at h ⊢
  split at h
  · omega
  · rename_i h3
    rw [if_neg h3]
    obtain ⟨h4, h5⟩ := szLf_ok K hS.el (by omega) (by omega) h
    rw [h5]
    omega
def okKs (K : List (List Int)) : Bool := K.all okK
/-! ### What is left is not less -/
theorem tipTo_mono (c k : List Int) (s : Int) : ∀ n i : Nat, i < n → cAt c (s + i - half k) - g k i ≤ tipTo c k s n
  | 0, i, h => by omega
  | n + 1, i, h => by
    rw [tipTo_succ]
    by_cases e : i = n
    · subst e; omega
    · have := tipTo_mono c k s n i (by omega); omega
theorem cAt_self {c : List Int} {p : Nat} (h : p < c.length) : cAt c (p : Nat) = g c p := by
  unfold cAt
  rw [Int.emod_eq_of_lt (by omega) (by omega)]
  simp
theorem lf_ge {c k : List Int} (hc : 0 < c.length) (G : GoodK k) {p : Nat} (hp : p < c.length) : g c p ≤ lf c k p := by
  have hodd := G.odd
  have hlo := G.lo
  have hhalf : half k = ((k.length / 2 : Nat) : Int) := rfl
  have base : g c p ≤ tip c k (p : Nat) := by
    have := tipTo_mono c k (p : Nat) k.length (k.length / 2) (by omega)
    rw [G.mid, hhalf, show (p : Int) + ((k.length / 2 : Nat) : Int) - ((k.length / 2 : Nat) : Int) = (p : Nat) by omega, cAt_self hp] at this
    unfold tip
    omega
  have key : ∀ j, j < k.length → g c p ≤ tip c k ((p + (j : Nat) - half k) % c.length) + g k j := by
    intro j hj
    have := tipTo_mono c k (((p : Nat) + (j : Nat) - half k) % c.length) k.length (k.length - 1 - j) (by omega)
    rw [← G.sym j hj] at this
    have e : cAt c (((p : Nat) + (j : Nat) - half k) % c.length + ((k.length - 1 - j : Nat) : Int) - half k) = g c p := by
      have h1 : (((p : Int) + (j : Nat) - half k) % c.length + ((k.length - 1 - j : Nat) : Int) - half k) % c.length = (p : Int) % c.length := by
        rw [show ((p : Int) + (j : Nat) - half k) % c.length + ((k.length - 1 - j : Nat) : Int) - half k = ((p : Int) + (j : Nat) - half k) % c.length + (((k.length - 1 - j : Nat) : Int) - half k) by omega, Int.emod_add_emod]
        congr 1
        rw [hhalf]
        omega
      unfold cAt
      rw [h1, ← cAt, cAt_self hp]
    rw [e] at this
    unfold tip
    omega
  obtain ⟨_, _, h3⟩ := lfTo_el c k (p : Nat) k.length
  unfold lf
  rcases h3 with h3 | ⟨j, hj, h3⟩
  · rw [h3]; exact base
  · rw [h3]; exact key j hj
def wsTo (c l : List Int) : Nat → Int
  | 0 => 0
  | i + 1 => wsTo c l i + (g l i - g c i)
theorem wsTo_succ (c l : List Int) (i : Nat) : wsTo c l (i + 1) = wsTo c l i + (g l i - g c i) := rfl
def waste (c k : List Int) : Int := wsTo c (leftL c k) c.length
theorem leftL_g {c k : List Int} (hc : 0 < c.length) (hC : ∀ v ∈ c, 0 ≤ v ∧ v ≤ 10000) (G : GoodK k) {i : Nat} (h : i < c.length) : g (leftL c k) i = lf c k i := left_eq hc hC G i h
theorem wsTo_bd {c k : List Int} (hc : 0 < c.length) (hC : ∀ v ∈ c, 0 ≤ v ∧ v ≤ 10000) (G : GoodK k) : ∀ i, i ≤ c.length → 0 ≤ wsTo c (leftL c k) i ∧ wsTo c (leftL c k) i ≤ 10000 * i
  | 0, _ => by simp [wsTo]
  | i + 1, h => by
    have h1 := wsTo_bd hc hC G i (by omega)
    have h2 := lf_ge hc G (p := i) (by omega)
    have h3 := lf_bd hc hC G (i := i) (by omega)
    have h4 := hC _ (g_mem (l := c) (i := i) (by omega))
    rw [wsTo_succ, leftL_g hc hC G (by omega)]
    omega
/-- The best cutter of the first ones, and its waste. -/
def bkTo (c : List Int) (K : List (List Int)) : Nat → Int × Int
  | 0 => (0, -1)
  | i + 1 => if (bkTo c K i).2 < 0 ∨ waste c (K.getD i []) < (bkTo c K i).2 then ((i : Int), waste c (K.getD i [])) else bkTo c K i
theorem bkTo_succ (c : List Int) (K : List (List Int)) (i : Nat) : bkTo c K (i + 1) = if (bkTo c K i).2 < 0 ∨ waste c (K.getD i []) < (bkTo c K i).2 then ((i : Int), waste c (K.getD i [])) else bkTo c K i := rfl
theorem getD_at {α : Type} {l : List α} {i : Int} {v d : α} (h : At l i v) : l.getD i.toNat d = v := by rw [List.getD_eq_getElem?_getD, h.get]; rfl
structure GoodKs (K : List (List Int)) : Prop where
  el : ∀ k ∈ K, GoodK k
theorem goodKs {K : List (List Int)} (hr : RngS K) (h : okKs K = true) : GoodKs K := ⟨fun k hk => goodK (hr.el k hk) (List.all_eq_true.1 h k hk)⟩
theorem bkTo_pos {c : List Int} {K : List (List Int)} (hc : 0 < c.length) (hC : ∀ v ∈ c, 0 ≤ v ∧ v ≤ 10000) (G : GoodKs K) : ∀ i, 0 < i → i ≤ K.length → 0 ≤ (bkTo c K i).2
  | 0, h, _ => by omega
  | i + 1, _, h => by
    have hm : K.getD i [] ∈ K := by
      obtain ⟨v, hv⟩ := at_of (l := K) (i := (i : Int)) (by omega) (by omega)
      have := getD_at (d := []) hv
      rw [Int.toNat_natCast] at this
      rw [this]; exact hv.mem
    have hw := (wsTo_bd hc hC (G.el _ hm) c.length (Nat.le_refl _)).1
    rw [bkTo_succ]
    split
    · exact hw
    · omega
def bcR (c : List Int) (K : List (List Int)) : R3 := if okC c = true then (if okKs K = true then (if inR (K.length : Int) 1 8 = true then ((bkTo c K K.length).1, (bkTo c K K.length).2, 0, ()) else (0, 0, 2, ())) else (0, 0, 1, ())) else (0, 0, 1, ())
end Go.Cams

/- Cuts, in plain terms. -/
namespace Go.Cams
open Go Go.Fw
abbrev Ct : Type := Int × (Int × (Int × Unit))
abbrev CtTy : Ty := .pair (.int .i16) (.pair (.int .i16) (.pair (.int .i8) .unit))
structure RngC (L : List Ct) : Prop where
  len : (L.length : Int) * 6 ≤ 140737488351232
  el : ∀ v ∈ L, (-32768 ≤ v.1 ∧ v.1 ≤ 32767) ∧ (-32768 ≤ v.2.1 ∧ v.2.1 ≤ 32767) ∧ (-128 ≤ v.2.2.1 ∧ v.2.2.1 ≤ 127)
theorem rngC_of {L : List Ct} (h : Dom (.slc CtTy) L) : RngC L := ⟨Int.ofNat_le.2 h.1, fun v hv => (h.2 v hv).elim fun a b => ⟨a, b.1, b.2.1⟩⟩
theorem RngC.len' {L : List Ct} (h : RngC L) : (L.length : Int) ≤ 23456248058538 := by have := h.len; omega
theorem RngC.i1 {L : List Ct} (h : RngC L) {v : Ct} (hv : v ∈ L) : wr .i64 v.1 = v.1 := by have := (h.el v hv).1; exact wrap_id (by omega) (by omega)
theorem RngC.i2 {L : List Ct} (h : RngC L) {v : Ct} (hv : v ∈ L) : wr .i64 v.2.1 = v.2.1 := by have := (h.el v hv).2.1; exact wrap_id (by omega) (by omega)
theorem RngC.i3 {L : List Ct} (h : RngC L) {v : Ct} (hv : v ∈ L) : wr .i64 v.2.2.1 = v.2.2.1 := by have := (h.el v hv).2.2; exact wrap_id (by omega) (by omega)
def ctOk (m : Int) (v : Ct) : Bool := inR (wr .i64 v.1) 0 359 && inR (wr .i64 v.2.1) 0 10000 && inR (wr .i64 v.2.2.1) 0 (wr .i64 (m - 1))
def okCt (L : List Ct) (m : Int) : Bool := decide ((L.length : Int) ≤ 400) && L.all (ctOk m)
def onCt (L : List Ct) (n : Int) : Bool := L.all fun v => !decide (wr .i64 v.1 ≥ n)
def okCuts (L : List Ct) (K : List (List Int)) : Bool := inR (K.length : Int) 1 8 && okKs K && okCt L K.length
def gvCode (c : List Int) (K : List (List Int)) (L : List Ct) : Int := if okC c = true then (if okCuts L K = true then (if onCt L c.length = true then 0 else 2) else 1) else 1
structure GoodG (c : List Int) (K : List (List Int)) (L : List Ct) : Prop where
  hc : okC c = true
  hk : okKs K = true
  n : 1 ≤ (K.length : Int) ∧ (K.length : Int) ≤ 8
  l : (L.length : Int) ≤ 400
  el : ∀ v ∈ L, (0 ≤ v.1 ∧ v.1 < (c.length : Int)) ∧ (0 ≤ v.2.1 ∧ v.2.1 ≤ 10000) ∧ (0 ≤ v.2.2.1 ∧ v.2.2.1 < (K.length : Int))
theorem goodG {c : List Int} {K : List (List Int)} {L : List Ct} (hr : RngC L) (h : gvCode c K L = 0) : GoodG c K L := by
  unfold gvCode at h
  split at h
  · rename_i h1
    split at h
    · rename_i h2
      split at h
      · rename_i h3
        simp only [okCuts, okCt, Bool.and_eq_true, inR_iff, decide_eq_true_eq, List.all_eq_true] at h2
        obtain ⟨⟨a, b⟩, d, e⟩ := h2
        refine ⟨h1, b, a, d, fun v hv => ?_⟩
        have e1 := e v hv
        simp only [ctOk, Bool.and_eq_true, inR_iff] at e1
        rw [hr.i1 hv, hr.i2 hv, hr.i3 hv, wrap_id (by omega) (by omega)] at e1
        have e2 := List.all_eq_true.1 h3 v hv
        rw [hr.i1 hv] at e2
        have e2 : ¬ v.1 ≥ (c.length : Int) := by simpa using e2
        omega
      · exact absurd h (by decide)
    · exact absurd h (by decide)
  · exact absurd h (by decide)
def deepF (c : List Int) (K : List (List Int)) (v : Ct) : Bool := decide (v.2.1 < tip c (K.getD v.2.2.1.toNat []) v.1)
abbrev R2' : Type := Int × (Int × Unit)
def ftR (c : List Int) (K : List (List Int)) (L : List Ct) : R2' := if gvCode c K L ≠ 0 then (0, gvCode c K L, ()) else if fi (deepF c K) L 0 < 0 then (0, 6, ()) else (fi (deepF c K) L 0, 0, ())
theorem all_false {α : Type} {p : α → Bool} {l : List α} {v : α} (h : v ∈ l) (hp : p v = false) : l.all p = false := by
  rw [Bool.eq_false_iff]
  intro ha
  have := List.all_eq_true.1 ha v h
  rw [hp] at this
  cases this
end Go.Cams

/- Machines that draw, in plain terms. -/
namespace Go.Cams
open Go Go.Fw
abbrev Mk : Type := List Int
abbrev Stp : Type := List Int × (Bool × Unit)
theorem wrapU64 {x : Int} (h1 : 0 ≤ x) (h2 : x ≤ 18446744073709551615) : wr .u64 x = x := by
  show IntKind.u64.wrap x = x
  simp [IntKind.wrap, IntKind.bits, IntKind.signed]
  omega
/-- A mark on the plate. -/
structure OnP (a : Mk) : Prop where
  len : a.length = 2
  x : 0 ≤ g a 0 ∧ g a 0 ≤ 63
  y : 0 ≤ g a 1 ∧ g a 1 ≤ 63
theorem OnP.get0 {a : Mk} (h : OnP a) : a[0]? = some (g a 0) := by
  have := (g_idx (l := a) (i := 0) (by omega) (by have := h.len; omega)).get
  simpa using this
theorem OnP.get1 {a : Mk} (h : OnP a) : a[1]? = some (g a 1) := by
  have := (g_idx (l := a) (i := 1) (by omega) (by have := h.len; omega)).get
  simpa using this
theorem OnP.idx0 {a : Mk} (h : OnP a) : idx a 0 = some (g a 0) := (g_idx (l := a) (i := 0) (by omega) (by have := h.len; omega)).idx
theorem OnP.idx1 {a : Mk} (h : OnP a) : idx a 1 = some (g a 1) := (g_idx (l := a) (i := 1) (by omega) (by have := h.len; omega)).idx
theorem OnP.eq {a : Mk} (h : OnP a) : a = [g a 0, g a 1] := by
  have hl := h.len
  match a, hl with
  | [x, y], _ => rfl
theorem onP_pair {x y : Int} (hx : 0 ≤ x ∧ x ≤ 63) (hy : 0 ≤ y ∧ y ≤ 63) : OnP [x, y] := ⟨rfl, hx, hy⟩
def siz (x : Int) : Int := if x < 0 then -x else x
def far (a b : Mk) : Int := max (siz (g a 0 - g b 0)) (siz (g a 1 - g b 1))
/-- The nearest whole number of a fraction. -/
def nr (x n : Int) : Int := (2 * x + n) / (2 * n)
def pt (a b : Mk) (k : Int) (i : Nat) : Int := g a i + nr (k * (g b i - g a i)) (far a b)
def ptM (a b : Mk) (k : Int) : Mk := [pt a b k 0, pt a b k 1]
def lineM (a b : Mk) : List Mk := if far a b = 0 then [a] else (List.range (far a b + 1).toNat).map fun k => ptM a b (k : Nat)
theorem far_bd {a b : Mk} (ha : OnP a) (hb : OnP b) : 0 ≤ far a b ∧ far a b ≤ 63 ∧ (∀ i : Nat, i = 0 ∨ i = 1 → -far a b ≤ g b i - g a i ∧ g b i - g a i ≤ far a b) := by
  have h1 := ha.x; have h2 := ha.y; have h3 := hb.x; have h4 := hb.y
  have e : far a b = max (siz (g a 0 - g b 0)) (siz (g a 1 - g b 1)) := rfl
  have e1 : siz (g a 0 - g b 0) = if g a 0 - g b 0 < 0 then -(g a 0 - g b 0) else g a 0 - g b 0 := rfl
  have e2 : siz (g a 1 - g b 1) = if g a 1 - g b 1 < 0 then -(g a 1 - g b 1) else g a 1 - g b 1 := rfl
  refine ⟨?_, ?_, fun i hi => ?_⟩
  · split at e1 <;> omega
  · split at e1 <;> split at e2 <;> omega
  · rcases hi with rfl | rfl
    · split at e1 <;> omega
    · split at e2 <;> omega
theorem nr_bd {k d n : Int} (hn : 0 < n) (k0 : 0 ≤ k) (k1 : k ≤ n) (h1 : -n ≤ d) (h2 : d ≤ n) : (0 ≤ d → 0 ≤ nr (k * d) n ∧ nr (k * d) n ≤ d) ∧ (d ≤ 0 → d ≤ nr (k * d) n ∧ nr (k * d) n ≤ 0) := by
  have hnn : (2 * (n * d) + n) / (2 * n) = d := by
    rw [show 2 * (n * d) + n = n + (2 * n) * d by rw [Int.mul_assoc]; omega, Int.add_mul_ediv_left _ _ (by omega)]
    rw [Int.ediv_eq_zero_of_lt (by omega) (by omega)]; omega
  have h00 : (2 * 0 + n) / (2 * n) = 0 := Int.ediv_eq_zero_of_lt (by omega) (by omega)
  unfold nr
  constructor
  · intro hd
    have a : 0 ≤ k * d := Int.mul_nonneg k0 hd
    have b : k * d ≤ n * d := Int.mul_le_mul_of_nonneg_right k1 hd
    have c := Int.ediv_le_ediv (c := 2 * n) (by omega) (show 2 * 0 + n ≤ 2 * (k * d) + n by omega)
    have e := Int.ediv_le_ediv (c := 2 * n) (by omega) (show 2 * (k * d) + n ≤ 2 * (n * d) + n by omega)
    omega
  · intro hd
    have a : k * d ≤ 0 := Int.mul_nonpos_of_nonneg_of_nonpos k0 hd
    have b : n * d ≤ k * d := Int.mul_le_mul_of_nonpos_right k1 hd
    have c := Int.ediv_le_ediv (c := 2 * n) (by omega) (show 2 * (k * d) + n ≤ 2 * 0 + n by omega)
    have e := Int.ediv_le_ediv (c := 2 * n) (by omega) (show 2 * (n * d) + n ≤ 2 * (k * d) + n by omega)
    omega
theorem pt_bd {a b : Mk} (ha : OnP a) (hb : OnP b) (hn : far a b ≠ 0) {k : Int} (k0 : 0 ≤ k) (k1 : k ≤ far a b) {i : Nat} (hi : i = 0 ∨ i = 1) : 0 ≤ pt a b k i ∧ pt a b k i ≤ 63 := by
  obtain ⟨f0, f1, f2⟩ := far_bd ha hb
  have hx := ha.x; have hy := ha.y; have kx := hb.x; have ky := hb.y
  obtain ⟨b1, b2⟩ := nr_bd (show 0 < far a b by omega) k0 k1 (f2 i hi).1 (f2 i hi).2
  have hga : 0 ≤ g a i ∧ g a i ≤ 63 := by rcases hi with rfl | rfl <;> assumption
  have hgb : 0 ≤ g b i ∧ g b i ≤ 63 := by rcases hi with rfl | rfl <;> assumption
  unfold pt
  rcases Int.le_total 0 (g b i - g a i) with h | h
  · have := b1 h; omega
  · have := b2 h; omega
theorem kd_bd {a b : Mk} (ha : OnP a) (hb : OnP b) {k : Int} (k0 : 0 ≤ k) (k1 : k ≤ 63) {i : Nat} (hi : i = 0 ∨ i = 1) : -4000 ≤ k * (g b i - g a i) ∧ k * (g b i - g a i) ≤ 4000 := by
  obtain ⟨f0, f1, f2⟩ := far_bd ha hb
  have h := f2 i hi
  have a1 : k * (-63) ≤ k * (g b i - g a i) := Int.mul_le_mul_of_nonneg_left (by omega) k0
  have a2 : k * (g b i - g a i) ≤ k * 63 := Int.mul_le_mul_of_nonneg_left (by omega) k0
  omega
theorem nr_from {a x n : Int} (hn : 0 < n) : nr (a * n + x) n = a + nr x n := by
  unfold nr
  rw [show 2 * (a * n + x) + n = (2 * x + n) + (2 * n) * a by rw [Int.mul_add, Int.mul_comm a n, ← Int.mul_assoc]; omega, Int.add_mul_ediv_left _ _ (by omega)]
  omega
theorem nr_zero {n : Int} (hn : 0 < n) : nr 0 n = 0 := by
  unfold nr
  exact Int.ediv_eq_zero_of_lt (by omega) (by omega)
theorem ptM_zero {a b : Mk} (ha : OnP a) (hb : OnP b) (hn : far a b ≠ 0) : ptM a b 0 = a := by
  obtain ⟨f0, _, _⟩ := far_bd ha hb
  have h : ∀ i, pt a b 0 i = g a i := fun i => by
    unfold pt
    rw [Int.zero_mul, nr_zero (by omega)]; omega
  unfold ptM
  rw [h, h]
  exact ha.eq.symm
theorem lineM_on {a b : Mk} (ha : OnP a) (hb : OnP b) : ∀ m ∈ lineM a b, OnP m := by
  intro m hm
  unfold lineM at hm
  split at hm
  · simp at hm; subst hm; exact ha
  · rename_i hn
    simp only [List.mem_map, List.mem_range] at hm
    obtain ⟨k, hk, rfl⟩ := hm
    exact onP_pair (pt_bd ha hb hn (by omega) (by omega) (.inl rfl)) (pt_bd ha hb hn (by omega) (by omega) (.inr rfl))
theorem lineM_len {a b : Mk} (ha : OnP a) (hb : OnP b) : ((lineM a b).length : Int) ≤ 64 := by
  obtain ⟨f0, f1, f2⟩ := far_bd ha hb
  unfold lineM
  split
  · simp
  · simp; omega
theorem lineM_same {a : Mk} : lineM a a = [a] := by
  unfold lineM
  rw [if_pos]
  unfold far siz
  simp
/-- Ink on a plate. -/
def inkP (p : List Int) (m : Mk) : List Int := p.set (g m 1).toNat (bitsI .or .u64 (g p (g m 1).toNat) (shl_ .u64 1 (g m 0)))
def inkL (p : List Int) (l : List Mk) : List Int := l.foldl inkP p
theorem inkP_len (p : List Int) (m : Mk) : (inkP p m).length = p.length := by simp [inkP]
theorem inkL_len : ∀ (l : List Mk) (p : List Int), (inkL p l).length = p.length
  | [], _ => rfl
  | m :: r, p => by
    show (inkL (inkP p m) r).length = _
    rw [inkL_len r, inkP_len]
theorem inkL_snoc (p : List Int) (l : List Mk) (m : Mk) : inkL p (l ++ [m]) = inkP (inkL p l) m := by simp [inkL]
/-- The stops of a machine. -/
def stopM (m : Mch) (i : Nat) : Stp := ([g m.1 i, g m.2.1 i], (g m.2.2.1 i == 0), ())
def stopsM (m : Mch) : List Stp := (List.range m.1.length).map (stopM m)
theorem stopsM_at (m : Mch) {i : Nat} (h : i < m.1.length) : At (stopsM m) (i : Int) (stopM m i) := by
  have hl : (stopsM m).length = m.1.length := by simp [stopsM]
  obtain ⟨v, hv⟩ := at_of (l := stopsM m) (i := (i : Int)) (by omega) (by omega)
  have := hv.get
  rw [stopsM, Int.toNat_natCast, List.getElem?_map, List.getElem?_range h] at this
  simp only [Option.map_some, Option.some.injEq] at this
  rw [this]; exact hv
theorem mx_el {l : List Int} (h : mxL l < 64) : ∀ v ∈ l, v ≤ 63 := fun v hv => by
  have := (mxF_ge l (l.headD 0)).2 v hv
  unfold mxL at h; omega
theorem stop_on {m : Mch} (hr : RngM m) (G : GoodM m) {i : Nat} (h : i < m.1.length) : OnP (stopM m i).1 := by
  have h1 := okC_el G.x hr.x _ (g_mem h)
  have h2 := mx_el G.mx _ (g_mem h)
  have h3 := okC_el G.y hr.y _ (g_mem (i := i) (by have := G.xy; omega))
  have h4 := mx_el G.my _ (g_mem (i := i) (by have := G.xy; omega))
  exact onP_pair ⟨h1.1, h2⟩ ⟨h3.1, h4⟩
/-- What the first stops draw. -/
def drawTo (m : Mch) : Nat → List Int
  | 0 => List.replicate 64 0
  | i + 1 => if (stopM m i).2.1 = true then (if (stopM m ((i + 1) % m.1.length)).2.1 = true then inkL (inkP (drawTo m i) (stopM m i).1) (lineM (stopM m i).1 (stopM m ((i + 1) % m.1.length)).1) else inkP (drawTo m i) (stopM m i).1) else drawTo m i
theorem drawTo_len (m : Mch) : ∀ i, (drawTo m i).length = 64
  | 0 => by simp [drawTo]
  | i + 1 => by
    unfold drawTo
    split
    · split
      · rw [inkL_len, inkP_len, drawTo_len m i]
      · rw [inkP_len, drawTo_len m i]
    · exact drawTo_len m i
def dmR (m : Mch) : List Int × (Int × Unit) := if okM m = true then (drawTo m m.1.length, 0, ()) else (List.replicate 64 0, 1, ())
theorem dmR_len (m : Mch) : (dmR m).1.length = 64 := by
  unfold dmR
  split
  · exact drawTo_len m _
  · simp
end Go.Cams

/- Motions by laws, runs of a cam, and programs that are found, in plain terms. -/
namespace Go.Cams
open Go Go.Fw
theorem mulB {a b A B : Int} (a0 : 0 ≤ a) (a1 : a ≤ A) (b0 : 0 ≤ b) (b1 : b ≤ B) : 0 ≤ a * b ∧ a * b ≤ A * B := ⟨Int.mul_nonneg a0 b0, Int.mul_le_mul a1 b1 b0 (by omega)⟩
/-- How much of a change is done, as a fraction. -/
def shN (w k n : Int) : Int := if w = 1 then (if 2 * k ≤ n then 2 * k * k else n * n - 2 * (n - k) * (n - k)) else if w = 2 then 3 * k * k * n - 2 * k * k * k else if w = 3 then k * k * k * (10 * n * n - 15 * k * n + 6 * k * k) else k
def shD (w n : Int) : Int := if w = 1 then n * n else if w = 2 then n * n * n else if w = 3 then n * n * n * n * n else n
def liftP (f t w k n : Int) : Int := nr (f * shD w n + (t - f) * shN w k n) (shD w n)
theorem shD_bd {w n : Int} (n0 : 1 ≤ n) (n1 : n ≤ 360) : 1 ≤ shD w n ∧ shD w n ≤ 6046617600000 := by
  have p2 : 1 ≤ n * n := Int.mul_le_mul n0 n0 (by omega) (by omega)
  have q2 := (mulB (show 0 ≤ n by omega) n1 (show 0 ≤ n by omega) n1).2
  have p3 : 1 ≤ n * n * n := Int.mul_le_mul p2 n0 (by omega) (by omega)
  have q3 := (mulB (show 0 ≤ n * n by omega) q2 (show 0 ≤ n by omega) n1).2
  have p4 : 1 ≤ n * n * n * n := Int.mul_le_mul p3 n0 (by omega) (by omega)
  have q4 := (mulB (show 0 ≤ n * n * n by omega) q3 (show 0 ≤ n by omega) n1).2
  have p5 : 1 ≤ n * n * n * n * n := Int.mul_le_mul p4 n0 (by omega) (by omega)
  have q5 := (mulB (show 0 ≤ n * n * n * n by omega) q4 (show 0 ≤ n by omega) n1).2
  unfold shD
  split
  · omega
  split
  · omega
  split <;> omega
theorem shN_bd {w k n : Int} (k0 : 0 ≤ k) (k1 : k ≤ n) (n1 : n ≤ 360) : -170000000000000 ≤ shN w k n ∧ shN w k n ≤ 170000000000000 := by
  have q2 := mulB (show 0 ≤ n by omega) n1 (show 0 ≤ n by omega) n1
  have kk := mulB (show 0 ≤ 2 * k by omega) (show 2 * k ≤ 720 by omega) k0 (show k ≤ 360 by omega)
  have dd := mulB (show 0 ≤ 2 * (n - k) by omega) (show 2 * (n - k) ≤ 720 by omega) (show 0 ≤ n - k by omega) (show n - k ≤ 360 by omega)
  have k3 := mulB (show 0 ≤ 3 * k by omega) (show 3 * k ≤ 1080 by omega) k0 (show k ≤ 360 by omega)
  have k3n := mulB k3.1 k3.2 (show 0 ≤ n by omega) n1
  have kkk := mulB kk.1 kk.2 k0 (show k ≤ 360 by omega)
  have c2 := mulB k0 (show k ≤ 360 by omega) k0 (show k ≤ 360 by omega)
  have c3 := mulB c2.1 c2.2 k0 (show k ≤ 360 by omega)
  have e1 := mulB (show 0 ≤ 10 * n by omega) (show 10 * n ≤ 3600 by omega) (show 0 ≤ n by omega) n1
  have e2 := mulB (show 0 ≤ 15 * k by omega) (show 15 * k ≤ 5400 by omega) (show 0 ≤ n by omega) n1
  have e3 := mulB (show 0 ≤ 6 * k by omega) (show 6 * k ≤ 2160 by omega) k0 (show k ≤ 360 by omega)
  unfold shN
  split
  · split <;> omega
  split
  · omega
  split
  · have a1 : k * k * k * (-1944000) ≤ k * k * k * (10 * n * n - 15 * k * n + 6 * k * k) := Int.mul_le_mul_of_nonneg_left (by omega) c3.1
    have a2 : k * k * k * (10 * n * n - 15 * k * n + 6 * k * k) ≤ k * k * k * 2073600 := Int.mul_le_mul_of_nonneg_left (by omega) c3.1
    omega
  · omega
theorem lift_bd {f t w k n : Int} (f0 : 0 ≤ f) (f1 : f ≤ 10000) (t0 : 0 ≤ t) (t1 : t ≤ 10000) (k0 : 0 ≤ k) (k1 : k ≤ n) (n0 : 1 ≤ n) (n1 : n ≤ 360) : (0 ≤ f * shD w n ∧ f * shD w n ≤ 60466176000000000) ∧ (-1700000000000000000 ≤ (t - f) * shN w k n ∧ (t - f) * shN w k n ≤ 1700000000000000000) := by
  have hd := shD_bd (w := w) n0 n1
  have hn := shN_bd (w := w) k0 k1 n1
  have a := mulB f0 f1 (show 0 ≤ shD w n by omega) hd.2
  refine ⟨by omega, ?_⟩
  rcases Int.le_total 0 (t - f) with h | h
  · have b1 : (t - f) * (-170000000000000) ≤ (t - f) * shN w k n := Int.mul_le_mul_of_nonneg_left hn.1 h
    have b2 : (t - f) * shN w k n ≤ (t - f) * 170000000000000 := Int.mul_le_mul_of_nonneg_left hn.2 h
    omega
  · have b1 : (t - f) * 170000000000000 ≤ (t - f) * shN w k n := Int.mul_le_mul_of_nonpos_left h hn.2
    have b2 : (t - f) * shN w k n ≤ (t - f) * (-170000000000000) := Int.mul_le_mul_of_nonpos_left h hn.1
    omega
/-! ### Runs -/
def kdOf (x : Int) : Int := if x > 0 then 1 else if x < 0 then -1 else 0
def kd (c : List Int) (x : Int) : Int := kdOf (cAt c (x + 1) - cAt c x)
theorem cAt_mod (c : List Int) (x : Int) : cAt c (x % c.length) = cAt c x := by
  unfold cAt; rw [Int.emod_emod]
theorem cAt_add (c : List Int) (x : Int) : cAt c (x + c.length) = cAt c x := by
  unfold cAt; rw [Int.add_emod_right]
theorem kd_add (c : List Int) (x : Int) : kd c (x + c.length) = kd c x := by
  unfold kd
  rw [show x + (c.length : Int) + 1 = x + 1 + c.length by omega, cAt_add, cAt_add]
theorem cAt_mod' (c : List Int) (x d : Int) : cAt c (x % c.length + d) = cAt c (x + d) := by
  unfold cAt; rw [Int.emod_add_emod]
theorem kd_mod (c : List Int) (x : Int) : kd c (x % c.length) = kd c x := by
  unfold kd
  rw [cAt_mod', cAt_mod]
def chgL (c : List Int) : List Int := (List.range c.length).map fun i => cAt c ((i : Nat) + 1) - cAt c (i : Nat)
theorem chgL_len (c : List Int) : (chgL c).length = c.length := by simp [chgL]
theorem chgL_at {c : List Int} (h : 0 < c.length) (x : Int) : At (chgL c) (x % c.length) (cAt c (x + 1) - cAt c x) := by
  have h1 := Int.emod_nonneg x (show (c.length : Int) ≠ 0 by omega)
  have h2 := Int.emod_lt_of_pos x (show 0 < (c.length : Int) by omega)
  obtain ⟨v, hv⟩ := at_of (l := chgL c) h1 (by rw [chgL_len]; omega)
  have e := hv.get
  rw [chgL, List.getElem?_map, List.getElem?_range (by omega)] at e
  simp only [Option.map_some, Option.some.injEq] at e
  rw [show (((x % (c.length : Int)).toNat : Nat) : Int) = x % c.length by omega, cAt_mod', cAt_mod] at e
  rw [e]; exact hv
/-- How many steps ahead of a place are of the kind of step 0, no more than so many. -/
def bkF (K : Int → Int) : Nat → Nat → Nat
  | 0, b => b
  | f + 1, b => if K (-(b : Int) - 1) = K 0 then bkF K f (b + 1) else b
theorem bkF_spec (K : Int → Int) : ∀ f b, (∀ i : Nat, i < b → K (-(i : Int) - 1) = K 0) → b ≤ bkF K f b ∧ bkF K f b ≤ b + f ∧ (∀ i : Nat, i < bkF K f b → K (-(i : Int) - 1) = K 0) ∧ (bkF K f b < b + f → K (-(bkF K f b : Int) - 1) ≠ K 0)
  | 0, b, h => ⟨Nat.le_refl _, Nat.le_refl _, h, fun h => absurd h (by simp [bkF])⟩
  | f + 1, b, h => by
    unfold bkF
    split
    · rename_i hc
      obtain ⟨a1, a2, a3, a4⟩ := bkF_spec K f (b + 1) (fun i hi => by
        by_cases e : i = b
        · subst e; exact hc
        · exact h i (by omega))
      exact ⟨by omega, by omega, a3, fun hh => a4 (by omega)⟩
    · rename_i hc
      exact ⟨Nat.le_refl _, by omega, h, fun _ => hc⟩
/-- How long a run is. -/
def rlF (K : Int → Int) (s : Int) : Nat → Nat → Nat
  | 0, l => l
  | f + 1, l => if K (s + l) = K s then rlF K s f (l + 1) else l
theorem rlF_spec (K : Int → Int) (s : Int) : ∀ f l, (∀ i : Nat, i < l → K (s + i) = K s) → l ≤ rlF K s f l ∧ rlF K s f l ≤ l + f ∧ (∀ i : Nat, i < rlF K s f l → K (s + i) = K s) ∧ (rlF K s f l < l + f → K (s + (rlF K s f l : Nat)) ≠ K s)
  | 0, l, h => ⟨Nat.le_refl _, Nat.le_refl _, h, fun h => absurd h (by simp [rlF])⟩
  | f + 1, l, h => by
    unfold rlF
    split
    · rename_i hc
      obtain ⟨a1, a2, a3, a4⟩ := rlF_spec K s f (l + 1) (fun i hi => by
        by_cases e : i = l
        · subst e; exact hc
        · exact h i (by omega))
      exact ⟨by omega, by omega, a3, fun hh => a4 (by omega)⟩
    · rename_i hc
      exact ⟨Nat.le_refl _, by omega, h, fun _ => hc⟩
theorem rlF_uniq (K : Int → Int) (s : Int) {f l m : Nat} (hl : ∀ i : Nat, i < l → K (s + i) = K s) (h1 : l ≤ m) (h2 : m ≤ l + f) (h3 : ∀ i : Nat, i < m → K (s + i) = K s) (h4 : m < l + f → K (s + (m : Nat)) ≠ K s) : rlF K s f l = m := by
  obtain ⟨a1, a2, a3, a4⟩ := rlF_spec K s f l hl
  rcases Nat.lt_trichotomy (rlF K s f l) m with h | h | h
  · exact absurd (h3 _ h) (a4 (by omega))
  · exact h
  · exact absurd (a3 _ h) (h4 (by omega))
def rl (K : Int → Int) (s : Int) (left : Nat) : Nat := rlF K s (left - 1) 1
theorem rl_one (K : Int → Int) (s : Int) : ∀ i : Nat, i < 1 → K (s + i) = K s := fun i hi => by
  have : i = 0 := by omega
  subst this
  simp
theorem rl_spec (K : Int → Int) (s : Int) {left : Nat} (h : 0 < left) : 1 ≤ rl K s left ∧ rl K s left ≤ left ∧ (∀ i : Nat, i < rl K s left → K (s + i) = K s) ∧ (rl K s left < left → K (s + (rl K s left : Nat)) ≠ K s) := by
  obtain ⟨a1, a2, a3, a4⟩ := rlF_spec K s (left - 1) 1 (rl_one K s)
  unfold rl
  exact ⟨a1, by omega, a3, fun hh => a4 (by omega)⟩
theorem rl_is (K : Int → Int) (s : Int) {left m : Nat} (h : 1 ≤ m) (h2 : m ≤ left) (h3 : ∀ i : Nat, i < m → K (s + i) = K s) (h4 : m < left → K (s + (m : Nat)) ≠ K s) : rl K s left = m :=
  rlF_uniq K s (rl_one K s) h (by omega) h3 (fun hh => h4 (by omega))
/-- Runs, from a step on, so many steps. -/
def rsF (c : List Int) : Nat → Int → Nat → List Ct
  | 0, _, _ => []
  | f + 1, s, left => if left = 0 then [] else (kd c s, s % c.length, ((rl (kd c) s left : Nat) : Int), ()) :: rsF c f (s + (rl (kd c) s left : Nat)) (left - rl (kd c) s left)
theorem rl_add (c : List Int) (s : Int) {left : Nat} (h : 0 < left) : rl (kd c) (s + c.length) left = rl (kd c) s left := by
  obtain ⟨a1, a2, a3, a4⟩ := rl_spec (kd c) s h
  have e : ∀ i : Int, kd c (s + c.length + i) = kd c (s + i) := fun i => by rw [show s + (c.length : Int) + i = s + i + c.length by omega, kd_add]
  refine rl_is (kd c) _ a1 a2 (fun i hi => ?_) (fun hh => ?_)
  · rw [e, kd_add]; exact a3 i hi
  · rw [e, kd_add]; exact a4 hh
theorem rsF_add (c : List Int) : ∀ f s left, rsF c f (s + c.length) left = rsF c f s left
  | 0, _, _ => rfl
  | f + 1, s, left => by
    unfold rsF
    by_cases h : left = 0
    · rw [if_pos h, if_pos h]
    · rw [if_neg h, if_neg h, rl_add c s (by omega), kd_add, Int.add_emod_right, show s + (c.length : Int) + ((rl (kd c) s left : Nat) : Int) = s + ((rl (kd c) s left : Nat) : Int) + c.length by omega, rsF_add c f]
theorem rsF_more (c : List Int) : ∀ f s left, left ≤ f → rsF c f s left = rsF c left s left
  | 0, s, left, h => by
    have : left = 0 := by omega
    subst this; rfl
  | f + 1, s, left, h => by
    by_cases h0 : left = 0
    · subst h0
      unfold rsF; rfl
    obtain ⟨l, rfl⟩ : ∃ l, left = l + 1 := ⟨left - 1, by omega⟩
    obtain ⟨a1, a2, _, _⟩ := rl_spec (kd c) s (left := l + 1) (by omega)
    unfold rsF
    rw [if_neg h0, if_neg h0, rsF_more c f _ _ (by omega), rsF_more c l _ _ (by omega)]
def rs (c : List Int) (s : Int) (left : Nat) : List Ct := rsF c left s left
theorem rs_zero (c : List Int) (s : Int) : rs c s 0 = [] := rfl
theorem rs_pos (c : List Int) (s : Int) {left : Nat} (h : 0 < left) : rs c s left = (kd c s, s % c.length, ((rl (kd c) s left : Nat) : Int), ()) :: rs c (s + (rl (kd c) s left : Nat)) (left - rl (kd c) s left) := by
  obtain ⟨l, rfl⟩ : ∃ l, left = l + 1 := ⟨left - 1, by omega⟩
  obtain ⟨a1, a2, _, _⟩ := rl_spec (kd c) s (left := l + 1) (by omega)
  unfold rs
  rw [rsF, if_neg (by omega), rsF_more c l _ _ (by omega)]
theorem rs_add (c : List Int) (s : Int) (left : Nat) : rs c (s + c.length) left = rs c s left := rsF_add c left s left
theorem rs_el (c : List Int) (h0 : 0 < c.length) : ∀ (left : Nat) (s : Int), ∀ v ∈ rs c s left, (v.1 = 1 ∨ v.1 = -1 ∨ v.1 = 0) ∧ (0 ≤ v.2.1 ∧ v.2.1 < (c.length : Int)) ∧ (1 ≤ v.2.2.1 ∧ v.2.2.1 ≤ (left : Int)) := by
  intro left
  induction left using Nat.strongRecOn with
  | _ left ih =>
    intro s v hv
    by_cases h : left = 0
    · subst h; rw [rs_zero] at hv; cases hv
    rw [rs_pos c s (by omega)] at hv
    obtain ⟨a1, a2, _, _⟩ := rl_spec (kd c) s (left := left) (by omega)
    rcases List.mem_cons.1 hv with rfl | hv
    · have h1 := Int.emod_nonneg s (show (c.length : Int) ≠ 0 by omega)
      have h2 := Int.emod_lt_of_pos s (show 0 < (c.length : Int) by omega)
      refine ⟨?_, ⟨h1, h2⟩, by show (1 : Int) ≤ ((rl (kd c) s left : Nat) : Int); omega, by show ((rl (kd c) s left : Nat) : Int) ≤ left; omega⟩
      show kdOf _ = 1 ∨ kdOf _ = -1 ∨ kdOf _ = 0
      unfold kdOf
      split
      · exact .inl rfl
      split
      · exact .inr (.inl rfl)
      · exact .inr (.inr rfl)
    · have := ih (left - rl (kd c) s left) (by omega) _ v hv
      omega
theorem rs_len (c : List Int) : ∀ (left : Nat) (s : Int), (rs c s left).length ≤ left := by
  intro left
  induction left using Nat.strongRecOn with
  | _ left ih =>
    intro s
    by_cases h : left = 0
    · subst h; simp [rs_zero]
    rw [rs_pos c s (by omega)]
    obtain ⟨a1, a2, _, _⟩ := rl_spec (kd c) s (left := left) (by omega)
    have := ih (left - rl (kd c) s left) (by omega) (s + (rl (kd c) s left : Nat))
    rw [List.length_cons]; omega
/-- Steps ahead of step 0 that are of its kind: all of them, or none but so many. -/
def bk (c : List Int) : Nat := bkF (kd c) c.length 0
def runsP (c : List Int) : List Ct := if bk c = c.length then [(kd c 0, 0, (c.length : Int), ())] else rs c (-(bk c : Int)) c.length
theorem bk_spec (c : List Int) : bk c ≤ c.length ∧ (∀ i : Nat, i < bk c → kd c (-(i : Int) - 1) = kd c 0) ∧ (bk c < c.length → kd c (-(bk c : Int) - 1) ≠ kd c 0) := by
  obtain ⟨_, a2, a3, a4⟩ := bkF_spec (kd c) c.length 0 (fun i hi => by omega)
  unfold bk
  exact ⟨by omega, a3, fun h => a4 (by omega)⟩
theorem bk_lt (c : List Int) (h0 : 0 < c.length) (h : bk c ≠ c.length) : bk c + 2 ≤ c.length := by
  obtain ⟨a1, a2, a3⟩ := bk_spec c
  by_cases e : bk c + 1 = c.length
  · exact absurd (by
      have := a3 (by omega)
      have e2 : -(bk c : Int) - 1 = 0 + -(c.length : Int) := by omega
      have : kd c (-(bk c : Int) - 1) = kd c 0 := by
        have := kd_add c (-(bk c : Int) - 1)
        rw [show -(bk c : Int) - 1 + c.length = 0 by omega] at this
        exact this.symm
      exact this) (a3 (by omega))
  · omega
/-- The same from one step less. -/
theorem bkF_less (c : List Int) (h0 : 0 < c.length) : bkF (kd c) (c.length - 1) 0 = if bk c = c.length then c.length - 1 else bk c := by
  obtain ⟨_, b2, b3, b4⟩ := bkF_spec (kd c) (c.length - 1) 0 (fun i hi => by omega)
  obtain ⟨a1, a2, a3⟩ := bk_spec c
  split
  · rename_i h
    by_cases e : bkF (kd c) (c.length - 1) 0 = c.length - 1
    · exact e
    · exact absurd (a2 _ (by omega)) (b4 (by omega))
  · rename_i h
    have := bk_lt c h0 h
    rcases Nat.lt_trichotomy (bkF (kd c) (c.length - 1) 0) (bk c) with e | e | e
    · exact absurd (a2 _ e) (b4 (by omega))
    · exact e
    · exact absurd (b3 _ e) (a3 (by omega))
/-- Where all steps are of a kind. -/
theorem all_kind {c : List Int} (h : bk c = c.length) (h0 : 0 < c.length) (x : Int) : kd c x = kd c 0 := by
  obtain ⟨_, a2, _⟩ := bk_spec c
  have h1 := Int.emod_nonneg x (show (c.length : Int) ≠ 0 by omega)
  have h2 := Int.emod_lt_of_pos x (show 0 < (c.length : Int) by omega)
  have := a2 (c.length - 1 - (x % c.length).toNat) (by omega)
  rw [show -((c.length - 1 - (x % (c.length : Int)).toNat : Nat) : Int) - 1 = x % c.length + -(c.length : Int) by omega] at this
  have e := kd_add c (x % c.length + -(c.length : Int))
  rw [show x % (c.length : Int) + -(c.length : Int) + c.length = x % c.length by omega, kd_mod] at e
  rw [e]; exact this
/-- What the specification finds first. -/
def specRuns (c : List Int) : List Ct := rs c (if bkF (kd c) (c.length - 1) 0 = 0 then 0 else (c.length : Int) - (bkF (kd c) (c.length - 1) 0 : Nat)) c.length
def fixOne (l : List Ct) : List Ct := match l with
  | [v] => [(v.1, 0, v.2.2)]
  | l => l
theorem rs_all {c : List Int} (h : bk c = c.length) (h0 : 0 < c.length) (s : Int) : rs c s c.length = [(kd c 0, s % c.length, (c.length : Int), ())] := by
  have hl : rl (kd c) s c.length = c.length := rl_is (kd c) s (by omega) (Nat.le_refl _) (fun i _ => by rw [all_kind h h0, all_kind h h0 s]) (fun hh => by omega)
  rw [rs_pos c s h0, hl, Nat.sub_self, rs_zero, all_kind h h0]
theorem first_long {c : List Int} (h : bk c ≠ c.length) (h0 : 0 < c.length) : bk c + 1 ≤ rl (kd c) (-(bk c : Int)) c.length ∧ rl (kd c) (-(bk c : Int)) c.length < c.length := by
  have hb := bk_lt c h0 h
  obtain ⟨a1, a2, a3⟩ := bk_spec c
  obtain ⟨r1, r2, r3, r4⟩ := rl_spec (kd c) (-(bk c : Int)) h0
  have hs : kd c (-(bk c : Int)) = kd c 0 := by
    by_cases e : bk c = 0
    · rw [e]; rfl
    · have := a2 (bk c - 1) (by omega)
      rw [show -((bk c - 1 : Nat) : Int) - 1 = -(bk c : Int) by omega] at this
      exact this
  constructor
  · by_cases hh : bk c + 1 ≤ rl (kd c) (-(bk c : Int)) c.length
    · exact hh
    · have := r4 (by omega)
      rw [hs] at this
      exact absurd (by
        by_cases e : rl (kd c) (-(bk c : Int)) c.length = bk c
        · rw [e, show -(bk c : Int) + (bk c : Nat) = 0 by omega]
        · have := a2 (bk c - 1 - rl (kd c) (-(bk c : Int)) c.length) (by omega)
          rw [show -((bk c - 1 - rl (kd c) (-(bk c : Int)) c.length : Nat) : Int) - 1 = -(bk c : Int) + (rl (kd c) (-(bk c : Int)) c.length : Nat) by omega] at this
          exact this) this
  · by_cases hh : rl (kd c) (-(bk c : Int)) c.length < c.length
    · exact hh
    · have e : rl (kd c) (-(bk c : Int)) c.length = c.length := by omega
      rw [e] at r3
      have := r3 (c.length - 1) (by omega)
      rw [hs] at this
      have e2 := kd_add c (-(bk c : Int) - 1)
      rw [show -(bk c : Int) - 1 + c.length = -(bk c : Int) + ((c.length - 1 : Nat) : Int) by omega, this] at e2
      exact absurd e2.symm (a3 (by omega))
theorem spec_runs {c : List Int} (h0 : 0 < c.length) : fixOne (specRuns c) = runsP c := by
  unfold specRuns runsP
  rw [bkF_less c h0]
  by_cases h : bk c = c.length
  · rw [if_pos h, if_pos h, rs_all h h0]; rfl
  · rw [if_neg h, if_neg h]
    have e : rs c (if bk c = 0 then 0 else (c.length : Int) - (bk c : Nat)) c.length = rs c (-(bk c : Int)) c.length := by
      by_cases hb : bk c = 0
      · rw [if_pos hb, hb]; rfl
      · rw [if_neg hb, show (c.length : Int) - (bk c : Nat) = -(bk c : Int) + c.length by omega, rs_add]
    rw [e]
    obtain ⟨f1, f2⟩ := first_long h h0
    obtain ⟨r1, r2, _, _⟩ := rl_spec (kd c) (-(bk c : Int)) h0
    rw [rs_pos c _ h0, rs_pos c _ (left := c.length - rl (kd c) (-(bk c : Int)) c.length) (by omega)]
    rfl
/-- Runs from step 0 on. -/
def strP (c : List Int) : List Ct := match runsP c with
  | [] => []
  | v :: r => if v.2.1 > 0 then (v.1, 0, v.2.1 + v.2.2.1 - c.length, ()) :: r ++ [(v.1, v.2.1, (c.length : Int) - v.2.1, ())] else v :: r
theorem runsP_cons {c : List Int} (h0 : 0 < c.length) : ∃ v r, runsP c = v :: r ∧ (0 ≤ v.2.1 ∧ v.2.1 < (c.length : Int)) ∧ (1 ≤ v.2.2.1 ∧ v.2.2.1 ≤ (c.length : Int)) ∧ (0 < v.2.1 → (c.length : Int) < v.2.1 + v.2.2.1) ∧ (r.length < c.length) ∧ (∀ u ∈ v :: r, (u.1 = 1 ∨ u.1 = -1 ∨ u.1 = 0) ∧ (0 ≤ u.2.1 ∧ u.2.1 < (c.length : Int)) ∧ (1 ≤ u.2.2.1 ∧ u.2.2.1 ≤ (c.length : Int))) := by
  unfold runsP
  by_cases h : bk c = c.length
  · rw [if_pos h]
    refine ⟨_, _, rfl, ⟨Int.le_refl _, by show (0 : Int) < _; omega⟩, ⟨by show (1 : Int) ≤ c.length; omega, Int.le_refl _⟩, fun hh => absurd hh (Int.lt_irrefl _), by simp; omega, fun u hu => ?_⟩
    have hu : u = (kd c 0, 0, (c.length : Int), ()) := by simpa using hu
    subst hu
    refine ⟨?_, ⟨Int.le_refl _, by show (0 : Int) < _; omega⟩, by show (1 : Int) ≤ c.length; omega, Int.le_refl _⟩
    show kdOf _ = 1 ∨ kdOf _ = -1 ∨ kdOf _ = 0
    unfold kdOf
    split
    · exact .inl rfl
    split
    · exact .inr (.inl rfl)
    · exact .inr (.inr rfl)
  · rw [if_neg h]
    have hel := rs_el c h0 c.length (-(bk c : Int))
    have hlen := rs_len c c.length (-(bk c : Int))
    obtain ⟨f1, f2⟩ := first_long h h0
    have hb := bk_lt c h0 h
    rw [rs_pos c _ h0] at hel hlen ⊢
    have := hel _ List.mem_cons_self
    refine ⟨_, _, rfl, this.2.1, this.2.2, fun hh => ?_, by rw [List.length_cons] at hlen; omega, hel⟩
    show (c.length : Int) < (-(bk c : Int)) % c.length + (rl (kd c) (-(bk c : Int)) c.length : Nat)
    have hh : 0 < (-(bk c : Int)) % (c.length : Int) := hh
    have e : (-(bk c : Int)) % (c.length : Int) = if bk c = 0 then 0 else (c.length : Int) - bk c := by
      by_cases hb0 : bk c = 0
      · rw [if_pos hb0, hb0]; simp
      · rw [if_neg hb0]
        have := Int.add_emod_right (-(bk c : Int)) c.length
        rw [← this]
        exact (Int.emod_eq_of_lt (by omega) (by omega)).trans (by omega)
    rw [e] at hh ⊢
    split at hh
    · omega
    · rename_i hb0
      rw [if_neg hb0]; omega
theorem strP_el {c : List Int} (h0 : 0 < c.length) : (strP c).length ≤ c.length + 1 ∧ ∀ u ∈ strP c, (u.1 = 1 ∨ u.1 = -1 ∨ u.1 = 0) ∧ (0 ≤ u.2.1 ∧ u.2.1 < (c.length : Int)) ∧ (1 ≤ u.2.2.1 ∧ u.2.2.1 ≤ (c.length : Int)) := by
  obtain ⟨v, r, e, h1, h2, h3, h4, h5⟩ := runsP_cons h0
  have es : strP c = if v.2.1 > 0 then (v.1, 0, v.2.1 + v.2.2.1 - c.length, ()) :: r ++ [(v.1, v.2.1, (c.length : Int) - v.2.1, ())] else v :: r := by unfold strP; rw [e]
  rw [es]
  split
  · rename_i hp
    have h3 := h3 hp
    refine ⟨by simp; omega, fun u hu => ?_⟩
    simp only [List.cons_append, List.mem_cons, List.mem_append, List.mem_nil_iff, or_false] at hu
    have hv := (h5 v List.mem_cons_self).1
    rcases hu with rfl | hu | rfl
    · exact ⟨hv, ⟨Int.le_refl _, by show (0 : Int) < _; omega⟩, by show (1 : Int) ≤ v.2.1 + v.2.2.1 - c.length; omega, by show v.2.1 + v.2.2.1 - c.length ≤ (c.length : Int); omega⟩
    · exact h5 u (List.mem_cons_of_mem _ hu)
    · exact ⟨hv, h1, by show (1 : Int) ≤ (c.length : Int) - v.2.1; omega, by show (c.length : Int) - v.2.1 ≤ (c.length : Int); omega⟩
  · exact ⟨by simp; omega, h5⟩
/-! ### Motions that are found -/
def fitTo (c : List Int) (s l w : Int) (k : Nat) : Bool := allTo (fun i => cAt c (s + ((i : Nat) + 1)) == liftP (cAt c s) (cAt c (s + l)) w ((i : Nat) + 1) l) k
def fitW (c : List Int) (s l w : Int) : Bool := fitTo c s l w (l - 1).toNat
def fitL (c : List Int) (s l : Int) : Int := if fitW c s l 0 = true then 0 else if fitW c s l 1 = true then 1 else if fitW c s l 2 = true then 2 else if fitW c s l 3 = true then 3 else -1
theorem fitL_bd (c : List Int) (s l : Int) : -1 ≤ fitL c s l ∧ fitL c s l ≤ 3 := by
  unfold fitL
  split
  · omega
  split
  · omega
  split
  · omega
  split <;> omega
def motP (c : List Int) (v : Ct) : Ct := (fitL c v.2.1 v.2.2.1, v.2.2.1, cAt c (v.2.1 + v.2.2.1), ())
abbrev Prg : Type := Int × ((List Ct) × Unit)
def fpR (c : List Int) : Prg × (Int × Unit) := if okC c = false then ((0, [], ()), 1, ()) else if ((strP c).length : Int) > 24 then ((0, [], ()), 3, ()) else if (strP c).all (fun v => !decide (fitL c v.2.1 v.2.2.1 < 0)) = true then ((g c 0, (strP c).map (motP c), ()), 0, ()) else ((0, [], ()), 6, ())
/-! ### Marks of three numbers -/
def mkC (f1 f2 f3 : Int → Int) (n : Nat) (k : Int) : List Ct := (List.range n).map fun i => (f1 (k + 3 * (i : Nat)), f2 (k + 3 * (i : Nat) + 1), f3 (k + 3 * (i : Nat) + 1 + 1), ())
theorem mkC_len (f1 f2 f3 : Int → Int) (n : Nat) (k : Int) : (mkC f1 f2 f3 n k).length = n := by simp [mkC]
theorem mkC_succ (f1 f2 f3 : Int → Int) (n : Nat) (k : Int) : mkC f1 f2 f3 (n + 1) k = mkC f1 f2 f3 n k ++ [(f1 (k + 3 * (n : Nat)), f2 (k + 3 * (n : Nat) + 1), f3 (k + 3 * (n : Nat) + 1 + 1), ())] := by simp [mkC, List.range_succ]
theorem mkC_at (f1 f2 f3 : Int → Int) (n : Nat) (k : Int) {i : Int} {v : Ct} (h : At (mkC f1 f2 f3 n k) i v) (h0 : 0 ≤ i) : v.1 = f1 (k + 3 * i) ∧ v.2.1 = f2 (k + 3 * i + 1) ∧ v.2.2.1 = f3 (k + 3 * i + 1 + 1) := by
  have := h.get
  unfold mkC at this
  rw [List.getElem?_map] at this
  cases hr : (List.range n)[i.toNat]? with
  | none => rw [hr] at this; cases this
  | some j =>
    rw [hr] at this
    simp only [Option.map_some, Option.some.injEq] at this
    have hj : j = i.toNat := by
      rw [List.getElem?_eq_some_iff] at hr
      obtain ⟨hl, e⟩ := hr
      rw [List.getElem_range] at e
      exact e.symm
    rw [← this, hj, show ((i.toNat : Nat) : Int) = i by omega]
    exact ⟨rfl, rfl, rfl⟩
theorem fpR_len (c : List Int) : ((fpR c).1.2.1.length : Int) ≤ 24 := by
  unfold fpR
  split
  · simp
  split
  · simp
  split
  · rename_i h _
    show (((strP c).map (motP c)).length : Int) ≤ 24
    rw [List.length_map]; omega
  · simp
theorem wrap8 {x : Int} (h1 : -128 ≤ x) (h2 : x ≤ 127) : wr .i8 x = x := by
  show IntKind.i8.wrap x = x
  simp [IntKind.wrap, IntKind.bits, IntKind.signed]
  omega
end Go.Cams

/- Plans of cuts, in plain terms. -/
namespace Go.Cams
open Go Go.Fw
/-- A layer of cuts ahead of a step. -/
def la (t : List Int) (above layer w : Int) : Nat → List Ct → Option (List Ct)
  | 0, o => some o
  | s + 1, o => (la t above layer w s o).bind fun o => if g t s ≥ above then some o else if o.length = 400 then none else some (o ++ [((s : Int), max layer (g t s), w, ())])
theorem la_len (t : List Int) (above layer w : Int) : ∀ s o o', o.length ≤ 400 → la t above layer w s o = some o' → o'.length ≤ 400
  | 0, o, o', h, e => by
    simp only [la, Option.some.injEq] at e
    subst e; exact h
  | s + 1, o, o', h, e => by
    simp only [la] at e
    cases hl : la t above layer w s o with
    | none => rw [hl] at e; cases e
    | some p =>
      have hp := la_len t above layer w s o p h hl
      rw [hl] at e
      simp only [Option.bind_some] at e
      split at e
      · cases e; exact hp
      · split at e
        · cases e
        · cases e
          simp only [List.length_append, List.length_cons, List.length_nil]
          omega
theorem la_none (t : List Int) (above layer w : Int) {s : Nat} {o : List Ct} (h : la t above layer w s o = none) : ∀ u, s ≤ u → la t above layer w u o = none
  | 0, hu => by have : s = 0 := by omega
                subst this; exact h
  | u + 1, hu => by
    by_cases e : s = u + 1
    · subst e; exact h
    · simp only [la]
      rw [la_none t above layer w h u (by omega)]; rfl
abbrev R3' : Type := List Ct × (Int × Unit)
/-- Layers, from a height down. -/
def pl (t : List Int) (deep w : Int) : Nat → Int → List Ct → R3'
  | 0, _, _ => ([], 3, ())
  | f + 1, above, o => match la t above (max (above - deep) 0) w t.length o with
    | none => ([], 3, ())
    | some p => if max (above - deep) 0 ≤ mnL t then (p, 0, ()) else pl t deep w f (max (above - deep) 0) p
theorem pl_len (t : List Int) (deep w : Int) : ∀ f above o, o.length ≤ 400 → (pl t deep w f above o).1.length ≤ 400
  | 0, _, _, _ => by simp [pl]
  | f + 1, above, o, h => by
    unfold pl
    split
    · simp
    · rename_i p hp
      have := la_len _ _ _ _ _ _ _ h hp
      split
      · exact this
      · exact pl_len t deep w f _ _ this
def pcCode (c : List Int) (high : Int) (K : List (List Int)) (w deep : Int) : Int :=
  if (okC c && inR (K.length : Int) 1 8 && okKs K) = false then 1 else if (inR high 0 10000 && inR w 0 ((K.length : Int) - 1) && inR deep 1 10000) = false then 2 else if mxL c > high then 4 else 0
def pcR (c : List Int) (high : Int) (K : List (List Int)) (w deep : Int) : R3' := if pcCode c high K w deep ≠ 0 then ([], pcCode c high K w deep, ()) else pl (tipsL c (K.getD w.toNat []) c.length) deep w (high.toNat + 1) high []
theorem pcR_len (c : List Int) (high : Int) (K : List (List Int)) (w deep : Int) : (pcR c high K w deep).1.length ≤ 400 := by
  unfold pcR
  split
  · simp
  · exact pl_len _ _ _ _ _ _ (by simp)
structure GoodP (c : List Int) (high : Int) (K : List (List Int)) (w deep : Int) : Prop where
  hc : okC c = true
  hk : okKs K = true
  n : 1 ≤ (K.length : Int) ∧ (K.length : Int) ≤ 8
  hi : 0 ≤ high ∧ high ≤ 10000
  w : 0 ≤ w ∧ w < (K.length : Int)
  d : 1 ≤ deep ∧ deep ≤ 10000
theorem goodP {c : List Int} {high : Int} {K : List (List Int)} {w deep : Int} (h1 : (okC c && inR (K.length : Int) 1 8 && okKs K) = true) (h2 : (inR high 0 10000 && inR w 0 ((K.length : Int) - 1) && inR deep 1 10000) = true) : GoodP c high K w deep := by
  simp only [Bool.and_eq_true, inR_iff] at h1 h2
  exact ⟨h1.1.1, h1.2, h1.1.2, h2.1.1, ⟨h2.1.2.1, by omega⟩, h2.2⟩
theorem tipsL_el {c k : List Int} (hl0 : 0 < c.length) (hC : ∀ v ∈ c, 0 ≤ v ∧ v ≤ 10000) (G : GoodK k) : ∀ v ∈ tipsL c k c.length, 0 ≤ v ∧ v ≤ 10000 := by
  intro v hv
  simp only [tipsL, List.mem_map, List.mem_range] at hv
  obtain ⟨s, hs, rfl⟩ := hv
  exact tipTo_bd hl0 hC G.el _ _ (Nat.le_refl _)
/-- Cutters with marks. -/
def mkKs : List (List Int) → Int → List (List Int)
  | [], _ => []
  | r :: l, k => mkL (wr .i16) r.length k :: mkKs l (k + r.length)
theorem mkKs_snoc : ∀ (l : List (List Int)) (v : List Int) (k : Int), mkKs (l ++ [v]) k = mkKs l k ++ [mkL (wr .i16) v.length (k + totL l)]
  | [], v, k => by simp [mkKs, totL]
  | r :: l, v, k => by
    have := mkKs_snoc l v (k + r.length)
    simp only [List.cons_append, mkKs, this, totL_cons, Int.add_assoc]
end Go.Cams

/- Stops that are planned, in plain terms. -/
namespace Go.Cams
open Go Go.Fw
abbrev Stk : Type := List Mk
def gM (L : List Mk) (i : Nat) : Mk := L.getD i []
theorem gM_idx {L : List Mk} {i : Int} (h0 : 0 ≤ i) (h1 : i < L.length) : At L i (gM L i.toNat) := by
  obtain ⟨v, hv⟩ := at_of (l := L) h0 h1
  have : gM L i.toNat = v := getD_at hv
  rw [this]; exact hv
theorem lineM_get {a b : Mk} (hn : far a b ≠ 0) {i : Nat} (h : i < (far a b + 1).toNat) : gM (lineM a b) i = ptM a b (i : Nat) := by
  unfold gM lineM
  rw [if_neg hn, List.getD_eq_getElem?_getD, List.getElem?_map, List.getElem?_range h]
  rfl
theorem lineM_length {a b : Mk} (ha : OnP a) (hb : OnP b) : ((lineM a b).length : Int) = far a b + 1 := by
  obtain ⟨f0, _, _⟩ := far_bd ha hb
  unfold lineM
  split
  · rename_i h; rw [h]; rfl
  · simp; omega
theorem far_zero {a b : Mk} (ha : OnP a) (hb : OnP b) (h : far a b = 0) : a = b := by
  obtain ⟨_, _, f2⟩ := far_bd ha hb
  have h0 := f2 0 (.inl rfl)
  have h1 := f2 1 (.inr rfl)
  rw [ha.eq, hb.eq]
  rw [show g a 0 = g b 0 by omega, show g a 1 = g b 1 by omega]
theorem nr_full {d n : Int} (hn : 0 < n) (k : Int) (hd : d = n ∨ d = -n) : nr (k * d) n = if d = n then k else -k := by
  unfold nr
  rcases hd with rfl | rfl
  · rw [if_pos rfl, show 2 * (k * d) + d = d + (2 * d) * k by rw [Int.mul_assoc, Int.mul_comm d k]; omega, Int.add_mul_ediv_left _ _ (by omega), Int.ediv_eq_zero_of_lt (by omega) (by omega)]; omega
  · rw [if_neg (by omega), show 2 * (k * -n) + n = n + (2 * n) * (-k) by rw [Int.mul_neg k n, Int.mul_neg 2 (k * n), Int.mul_neg (2 * n) k, Int.mul_assoc, Int.mul_comm n k]; omega, Int.add_mul_ediv_left _ _ (by omega), Int.ediv_eq_zero_of_lt (by omega) (by omega)]; omega
theorem nr_end {d n : Int} (hn : 0 < n) : nr (n * d) n = d := by
  unfold nr
  rw [show 2 * (n * d) + n = n + (2 * n) * d by rw [Int.mul_assoc]; omega, Int.add_mul_ediv_left _ _ (by omega), Int.ediv_eq_zero_of_lt (by omega) (by omega)]; omega
theorem nr_step {d n k : Int} (hn : 0 < n) (h1 : -n ≤ d) (h2 : d ≤ n) : -1 ≤ nr ((k + 1) * d) n - nr (k * d) n ∧ nr ((k + 1) * d) n - nr (k * d) n ≤ 1 := by
  unfold nr
  rw [Int.add_mul, Int.one_mul]
  obtain ⟨e, he⟩ : ∃ e, e = k * d := ⟨_, rfl⟩
  rw [← he]
  have a := Int.ediv_le_ediv (c := 2 * n) (by omega) (show 2 * (e + d) + n ≤ (2 * e + n) + 2 * n * 1 by omega)
  rw [Int.add_mul_ediv_left _ _ (by omega)] at a
  have b := Int.ediv_le_ediv (c := 2 * n) (by omega) (show (2 * e + n) + 2 * n * (-1) ≤ 2 * (e + d) + n by omega)
  rw [Int.add_mul_ediv_left _ _ (by omega)] at b
  omega
theorem ptM_end {a b : Mk} (ha : OnP a) (hb : OnP b) (hn : far a b ≠ 0) : ptM a b (far a b) = b := by
  obtain ⟨f0, _, _⟩ := far_bd ha hb
  have h : ∀ i, pt a b (far a b) i = g b i := fun i => by
    unfold pt
    rw [nr_end (by omega)]; omega
  unfold ptM
  rw [h, h]
  exact hb.eq.symm
theorem lineM_one {a b : Mk} (ha : OnP a) (hb : OnP b) (h : far a b = 1) : lineM a b = [a, b] := by
  have h0 := ptM_zero ha hb (by omega)
  have h1 := ptM_end ha hb (by omega)
  rw [h] at h1
  unfold lineM
  rw [if_neg (by omega), h]
  show [ptM a b ((0 : Nat) : Int), ptM a b ((1 : Nat) : Int)] = _
  rw [show ((0 : Nat) : Int) = 0 from rfl, show ((1 : Nat) : Int) = 1 from rfl, h0, h1]
theorem line_step {a b : Mk} (ha : OnP a) (hb : OnP b) {i : Nat} (h : (i : Int) < far a b) : lineM (gM (lineM a b) i) (gM (lineM a b) (i + 1)) = [gM (lineM a b) i, gM (lineM a b) (i + 1)] := by
  obtain ⟨f0, f1, f2⟩ := far_bd ha hb
  have hn : far a b ≠ 0 := by omega
  rw [lineM_get hn (by omega), lineM_get hn (by omega)]
  have p0 := onP_pair (pt_bd ha hb hn (k := (i : Nat)) (by omega) (by omega) (.inl rfl)) (pt_bd ha hb hn (k := (i : Nat)) (by omega) (by omega) (.inr rfl))
  have p1 := onP_pair (pt_bd ha hb hn (k := ((i + 1 : Nat) : Int)) (by omega) (by omega) (.inl rfl)) (pt_bd ha hb hn (k := ((i + 1 : Nat) : Int)) (by omega) (by omega) (.inr rfl))
  refine lineM_one p0 p1 ?_
  have s0 := nr_step (k := (i : Int)) (show 0 < far a b by omega) (f2 0 (.inl rfl)).1 (f2 0 (.inl rfl)).2
  have s1 := nr_step (k := (i : Int)) (show 0 < far a b by omega) (f2 1 (.inr rfl)).1 (f2 1 (.inr rfl)).2
  have e0 : pt a b ((i + 1 : Nat) : Int) 0 - pt a b (i : Int) 0 = nr (((i : Int) + 1) * (g b 0 - g a 0)) (far a b) - nr ((i : Int) * (g b 0 - g a 0)) (far a b) := by
    unfold pt
    rw [show ((i + 1 : Nat) : Int) = (i : Int) + 1 by omega]; omega
  have e1 : pt a b ((i + 1 : Nat) : Int) 1 - pt a b (i : Int) 1 = nr (((i : Int) + 1) * (g b 1 - g a 1)) (far a b) - nr ((i : Int) * (g b 1 - g a 1)) (far a b) := by
    unfold pt
    rw [show ((i + 1 : Nat) : Int) = (i : Int) + 1 by omega]; omega
  have full : ∀ d, d = far a b ∨ d = -far a b → nr (((i : Int) + 1) * d) (far a b) - nr ((i : Int) * d) (far a b) = 1 ∨ nr (((i : Int) + 1) * d) (far a b) - nr ((i : Int) * d) (far a b) = -1 := fun d hd => by
    rw [nr_full (by omega) _ hd, nr_full (by omega) _ hd]
    split <;> omega
  have ef : far a b = max (siz (g a 0 - g b 0)) (siz (g a 1 - g b 1)) := rfl
  have d0 : siz (g a 0 - g b 0) = if g a 0 - g b 0 < 0 then -(g a 0 - g b 0) else g a 0 - g b 0 := rfl
  have d1 : siz (g a 1 - g b 1) = if g a 1 - g b 1 < 0 then -(g a 1 - g b 1) else g a 1 - g b 1 := rfl
  show max (siz (pt a b (i : Int) 0 - pt a b ((i + 1 : Nat) : Int) 0)) (siz (pt a b (i : Int) 1 - pt a b ((i + 1 : Nat) : Int) 1)) = 1
  have h3 : ∀ x, siz x = if x < 0 then -x else x := fun _ => rfl
  rw [h3, h3]
  have hor : g b 0 - g a 0 = far a b ∨ g b 0 - g a 0 = -far a b ∨ g b 1 - g a 1 = far a b ∨ g b 1 - g a 1 = -far a b := by
    split at d0 <;> split at d1 <;> omega
  rcases hor with hh | hh | hh | hh
  · have := full _ (.inl hh)
    split <;> split <;> omega
  · have := full _ (.inr hh)
    split <;> split <;> omega
  · have := full _ (.inl hh)
    split <;> split <;> omega
  · have := full _ (.inr hh)
    split <;> split <;> omega
theorem seg_two {L : List Mk} {i : Nat} (h : i + 1 < L.length) : (L.take (i + 2)).drop i = [gM L i, gM L (i + 1)] := by
  have e0 : L[i]? = some (gM L i) := by unfold gM; rw [List.getD_eq_getElem?_getD, List.getElem?_eq_getElem (by omega)]; rfl
  have e1 : L[i + 1]? = some (gM L (i + 1)) := by unfold gM; rw [List.getD_eq_getElem?_getD, List.getElem?_eq_getElem (by omega)]; rfl
  rw [List.take_add_one, List.take_add_one, e0, e1]
  simp only [Option.toList_some, List.append_assoc]
  rw [List.drop_append_of_le_length (by simp; omega), List.drop_of_length_le (by simp; omega)]
  rfl
/-- The place to go to: as far as the line is the same. -/
def bkJ (L : List Mk) (i : Nat) : Nat → Nat
  | 0 => 0
  | j + 1 => if lineM (gM L i) (gM L (j + 1)) = (L.take (j + 2)).drop i then j + 1 else bkJ L i j
theorem bkJ_le (L : List Mk) (i : Nat) : ∀ j, bkJ L i j ≤ j
  | 0 => Nat.le_refl _
  | j + 1 => by
    unfold bkJ
    split
    · exact Nat.le_refl _
    · have := bkJ_le L i j; omega
theorem bkJ_gt {a b : Mk} (ha : OnP a) (hb : OnP b) {i : Nat} (h : (i : Int) < far a b) : ∀ j, i < j → j < (lineM a b).length → i < bkJ (lineM a b) i j
  | 0, hj, _ => by omega
  | j + 1, hj, hl => by
    unfold bkJ
    split
    · exact hj
    · rename_i hc
      by_cases e : i = j
      · subst e
        exact absurd (by rw [line_step ha hb h, seg_two hl]) hc
      · exact bkJ_gt ha hb h j (by omega) (by omega)
def toJ (most : Nat) (down : Bool) (L : List Mk) (i : Nat) : Nat := if down = true then bkJ L i (min (i + most) (L.length - 1)) else min (i + most) (L.length - 1)
def goF (most : Nat) (down : Bool) (L : List Mk) : Nat → Nat → List Stp
  | 0, _ => []
  | f + 1, i => if i < L.length - 1 then (gM L (toJ most down L i), down, ()) :: goF most down L f (toJ most down L i) else []
theorem goF_len (most : Nat) (down : Bool) (L : List Mk) : ∀ f i, (goF most down L f i).length ≤ f
  | 0, _ => Nat.le_refl _
  | f + 1, i => by
    unfold goF
    split
    · have := goF_len most down L f (toJ most down L i)
      rw [List.length_cons]; omega
    · simp
theorem toJ_bd {most : Nat} (hm : 1 ≤ most) (down : Bool) {a b : Mk} (ha : OnP a) (hb : OnP b) {i : Nat} (h : i < (lineM a b).length - 1) : i < toJ most down (lineM a b) i ∧ toJ most down (lineM a b) i ≤ (lineM a b).length - 1 := by
  have hl := lineM_length ha hb
  unfold toJ
  split
  · have h1 := bkJ_gt ha hb (i := i) (by omega) (min (i + most) ((lineM a b).length - 1)) (by omega) (by omega)
    have h2 := bkJ_le (lineM a b) i (min (i + most) ((lineM a b).length - 1))
    omega
  · omega
def goL (most : Nat) (down : Bool) (a b : Mk) : List Stp := goF most down (lineM a b) 64 0
theorem goL_len (most : Nat) (down : Bool) (a b : Mk) : (goL most down a b).length ≤ 64 := goF_len _ _ _ _ _
theorem goF_last (most : Nat) (down : Bool) (L : List Mk) (f : Nat) {i : Nat} (h : ¬ i < L.length - 1) : goF most down L f i = [] := by
  cases f with
  | zero => rfl
  | succ f => unfold goF; rw [if_neg h]
theorem line_last {a b : Mk} (ha : OnP a) (hb : OnP b) : gM (lineM a b) ((lineM a b).length - 1) = b := by
  have hl := lineM_length ha hb
  obtain ⟨f0, _, _⟩ := far_bd ha hb
  by_cases hn : far a b = 0
  · have := far_zero ha hb hn
    subst this
    rw [lineM_same]; rfl
  · rw [lineM_get hn (by omega), show (((lineM a b).length - 1 : Nat) : Int) = far a b by omega, ptM_end ha hb hn]
/-! ### Strokes -/
structure RngT (K : List Stk) : Prop where
  len : (K.length : Int) * 24 ≤ 140737488351232
  el : ∀ s ∈ K, (s.length : Int) * 4 ≤ 140737488351232 ∧ ∀ m ∈ s, m.length = 2 ∧ ∀ v ∈ m, -32768 ≤ v ∧ v ≤ 32767
def okMk (m : Mk) : Bool := inR (wr .i64 (g m 0)) 0 63 && inR (wr .i64 (g m 1)) 0 63
def okSk (s : Stk) : Bool := inR (s.length : Int) 1 60 && s.all okMk
def skCode (K : List Stk) : Int := if K.all okSk = false then 1 else if (K.length : Int) > 20 then 3 else 0
theorem okMk_on {m : Mk} (h2 : m.length = 2) (hr : ∀ v ∈ m, -32768 ≤ v ∧ v ≤ 32767) (h : okMk m = true) : OnP m := by
  simp only [okMk, Bool.and_eq_true, inR_iff] at h
  have a := hr _ (g_mem (l := m) (i := 0) (by omega))
  have b := hr _ (g_mem (l := m) (i := 1) (by omega))
  rw [wrap_id (by omega) (by omega), wrap_id (by omega) (by omega)] at h
  exact ⟨h2, h.1, h.2⟩
structure GoodT (K : List Stk) : Prop where
  len : (K.length : Int) ≤ 20
  el : ∀ s ∈ K, (1 ≤ (s.length : Int) ∧ (s.length : Int) ≤ 60) ∧ ∀ m ∈ s, OnP m
theorem goodT {K : List Stk} (hr : RngT K) (h : skCode K = 0) : GoodT K := by
  unfold skCode at h
  split at h
  · exact absurd h (by decide)
  · rename_i h1
    split at h
    · exact absurd h (by decide)
    · rename_i h2
      have h1 : K.all okSk = true := by simpa using h1
      refine ⟨by omega, fun s hs => ?_⟩
      have := List.all_eq_true.1 h1 s hs
      simp only [okSk, Bool.and_eq_true, inR_iff, List.all_eq_true] at this
      exact ⟨this.1, fun m hm => okMk_on ((hr.el s hs).2 m hm).1 ((hr.el s hs).2 m hm).2 (this.2 m hm)⟩
def drF (most : Nat) (st : Mk × List Stp) (m : Mk) : Mk × List Stp := (m, st.2 ++ goL most true st.1 m)
def stF (most : Nat) (st : Mk × List Stp) (s : Stk) : Mk × List Stp := (s.drop 1).foldl (drF most) (gM s 0, st.2 ++ goL most false st.1 (gM s 0) ++ [(gM s 0, true, ())])
def o0 : Mk := List.replicate 2 0
theorem o0_on : OnP o0 := ⟨rfl, ⟨by decide, by decide⟩, ⟨by decide, by decide⟩⟩
def plF (most : Nat) (K : List Stk) : Mk × List Stp := K.foldl (stF most) (o0, [])
def plP (most : Nat) (K : List Stk) : List Stp := (plF most K).2 ++ goL most false (plF most K).1 o0
theorem drF_on {most : Nat} {l : List Mk} (h : ∀ m ∈ l, OnP m) : ∀ {st : Mk × List Stp}, OnP st.1 → OnP (l.foldl (drF most) st).1 ∧ (l.foldl (drF most) st).2.length ≤ st.2.length + 64 * l.length := by
  induction l with
  | nil => intro st hs; exact ⟨hs, by simp⟩
  | cons m l ih =>
    intro st hs
    have hm := h m List.mem_cons_self
    obtain ⟨a, b⟩ := ih (fun x hx => h x (List.mem_cons_of_mem _ hx)) (st := drF most st m) hm
    refine ⟨a, ?_⟩
    have := goL_len most true st.1 m
    simp only [List.foldl_cons, drF, List.length_append, List.length_cons] at b ⊢
    omega
theorem stF_on {most : Nat} {s : Stk} (h1 : 1 ≤ (s.length : Int)) (h60 : (s.length : Int) ≤ 60) (h : ∀ m ∈ s, OnP m) {st : Mk × List Stp} (hs : OnP st.1) : OnP (stF most st s).1 ∧ (stF most st s).2.length ≤ st.2.length + 4000 := by
  have h0 : OnP (gM s 0) := h _ (gM_idx (L := s) (i := 0) (Int.le_refl _) (by omega)).mem
  obtain ⟨a, b⟩ := drF_on (most := most) (l := s.drop 1) (fun m hm => h m (List.mem_of_mem_drop hm)) (st := (gM s 0, st.2 ++ goL most false st.1 (gM s 0) ++ [(gM s 0, true, ())])) h0
  refine ⟨a, ?_⟩
  have := goL_len most false st.1 (gM s 0)
  have e : (stF most st s) = (s.drop 1).foldl (drF most) (gM s 0, st.2 ++ goL most false st.1 (gM s 0) ++ [(gM s 0, true, ())]) := rfl
  rw [e]
  simp only [List.length_append, List.length_cons, List.length_nil, List.length_drop] at b
  omega
theorem plF_on {most : Nat} {K : List Stk} (G : ∀ s ∈ K, (1 ≤ (s.length : Int) ∧ (s.length : Int) ≤ 60) ∧ ∀ m ∈ s, OnP m) : OnP (plF most K).1 ∧ (plF most K).2.length ≤ 4000 * K.length := by
  have : ∀ (l : List Stk) (st : Mk × List Stp), (∀ s ∈ l, (1 ≤ (s.length : Int) ∧ (s.length : Int) ≤ 60) ∧ ∀ m ∈ s, OnP m) → OnP st.1 → OnP (l.foldl (stF most) st).1 ∧ (l.foldl (stF most) st).2.length ≤ st.2.length + 4000 * l.length := by
    intro l
    induction l with
    | nil => intro st _ h; exact ⟨h, by simp⟩
    | cons s l ih =>
      intro st hl h
      obtain ⟨a, b⟩ := hl s List.mem_cons_self
      obtain ⟨c, d⟩ := stF_on (most := most) a.1 a.2 b h
      obtain ⟨e, f⟩ := ih (stF most st s) (fun x hx => hl x (List.mem_cons_of_mem _ hx)) c
      refine ⟨e, ?_⟩
      simp only [List.foldl_cons, List.length_cons]
      omega
  obtain ⟨a, b⟩ := this K (o0, []) G o0_on
  exact ⟨a, by show (K.foldl (stF most) (o0, [])).2.length ≤ _; simpa using b⟩
abbrev R4' : Type := List Stp × (Int × Unit)
def psR (K : List Stk) (most : Int) : R4' := if skCode K ≠ 0 then ([], skCode K, ()) else if inR most 1 63 = false then ([], 2, ()) else if ((plP most.toNat K).length : Int) > 360 then ([], 4, ()) else (plP most.toNat K, 0, ())
theorem psR_len (K : List Stk) (most : Int) : ((psR K most).1.length : Int) ≤ 360 := by
  unfold psR
  split
  · simp
  split
  · simp
  split
  · simp
  · rename_i h
    show ((plP most.toNat K).length : Int) ≤ 360
    omega
theorem goF_el {most : Nat} (hm : 1 ≤ most) (down : Bool) {a b : Mk} (ha : OnP a) (hb : OnP b) : ∀ f i, ∀ v ∈ goF most down (lineM a b) f i, v.1.length = 2
  | 0, _, v, hv => by cases hv
  | f + 1, i, v, hv => by
    unfold goF at hv
    split at hv
    · rename_i h
      have hj := toJ_bd hm down ha hb h
      rcases List.mem_cons.1 hv with rfl | hv
      · exact (lineM_on ha hb _ (gM_idx (L := lineM a b) (i := ((toJ most down (lineM a b) i : Nat) : Int)) (by omega) (by omega)).mem).len
      · exact goF_el hm down ha hb f _ v hv
    · cases hv
theorem plP_el {most : Nat} (hm : 1 ≤ most) {K : List Stk} (G : ∀ s ∈ K, (1 ≤ (s.length : Int) ∧ (s.length : Int) ≤ 60) ∧ ∀ m ∈ s, OnP m) : ∀ v ∈ plP most K, v.1.length = 2 := by
  have h1 : ∀ (l : List Mk) (st : Mk × List Stp), (∀ m ∈ l, OnP m) → OnP st.1 → (∀ v ∈ st.2, v.1.length = 2) → ∀ v ∈ (l.foldl (drF most) st).2, v.1.length = 2 := by
    intro l
    induction l with
    | nil => intro st _ _ h; exact h
    | cons m l ih =>
      intro st hl hs h
      have hmm := hl m List.mem_cons_self
      refine ih (drF most st m) (fun x hx => hl x (List.mem_cons_of_mem _ hx)) hmm (fun v hv => ?_)
      rcases List.mem_append.1 hv with hv | hv
      · exact h v hv
      · exact goF_el hm true hs hmm 64 0 v hv
  have h2 : ∀ (l : List Stk) (st : Mk × List Stp), (∀ s ∈ l, (1 ≤ (s.length : Int) ∧ (s.length : Int) ≤ 60) ∧ ∀ m ∈ s, OnP m) → OnP st.1 → (∀ v ∈ st.2, v.1.length = 2) → ∀ v ∈ (l.foldl (stF most) st).2, v.1.length = 2 := by
    intro l
    induction l with
    | nil => intro st _ _ h; exact h
    | cons s l ih =>
      intro st hl hs h
      obtain ⟨a, b⟩ := hl s List.mem_cons_self
      have h0 : OnP (gM s 0) := b _ (gM_idx (L := s) (i := 0) (Int.le_refl _) (by omega)).mem
      refine ih (stF most st s) (fun x hx => hl x (List.mem_cons_of_mem _ hx)) (stF_on a.1 a.2 b hs).1 (h1 _ _ (fun m hm => b m (List.mem_of_mem_drop hm)) h0 (fun v hv => ?_))
      rcases List.mem_append.1 hv with hv | hv
      · rcases List.mem_append.1 hv with hv | hv
        · exact h v hv
        · exact goF_el hm false hs h0 64 0 v hv
      · have : v = (gM s 0, true, ()) := by simpa using hv
        rw [this]; exact h0.len
  intro v hv
  rcases List.mem_append.1 hv with hv | hv
  · exact h2 K (o0, []) G o0_on (fun v hv => by cases hv) v hv
  · exact goF_el hm false (plF_on G).1 o0_on 64 0 v hv
theorem psR_el {K : List Stk} (hr : RngT K) (most : Int) : ∀ v ∈ (psR K most).1, v.1.length = 2 := by
  unfold psR
  split
  · intro v hv; cases hv
  rename_i hc
  split
  · intro v hv; cases hv
  rename_i hm
  split
  · intro v hv; cases hv
  · have hm : inR most 1 63 = true := by simpa using hm
    have hm := inR_iff.1 hm
    have hc : skCode K = 0 := by simpa using hc
    exact plP_el (by omega) (goodT hr hc).el
/-! ### Sizes and marks -/
def shad (s : Stk) : List Int := s.map fun _ => 0
theorem shad_len (s : Stk) : (shad s).length = s.length := by simp [shad]
theorem rngT_of {K : List Stk} (h : Dom (.slc (.slc (.arr 2 (.int .i16)))) K) : RngT K := by
  refine ⟨Int.ofNat_le.2 h.1, fun s hs => ?_⟩
  have h2 := h.2 s hs
  refine ⟨Int.ofNat_le.2 h2.1, fun m hm => ?_⟩
  have h3 := h2.2 m hm
  exact ⟨h3.1, fun v hv => h3.2 v hv⟩
theorem RngT.len' {K : List Stk} (h : RngT K) : (K.length : Int) ≤ 5864062014635 := by have := h.len; omega
theorem RngT.shad {K : List Stk} (h : RngT K) : RngS (K.map shad) := by
  refine ⟨by rw [List.length_map]; exact h.len, fun k hk => ?_⟩
  obtain ⟨s, hs, rfl⟩ := List.mem_map.1 hk
  have := (h.el s hs).1
  refine ⟨by rw [shad_len]; omega, fun v hv => ?_⟩
  simp only [Cams.shad, List.mem_map] at hv
  obtain ⟨_, _, rfl⟩ := hv
  omega
def totT (K : List Stk) : Int := totL (K.map shad)
theorem totT_snoc (K : List Stk) (s : Stk) : totT (K ++ [s]) = totT K + s.length := by
  unfold totT
  rw [List.map_append, totL_append]
  simp [totL, shad_len]
theorem totT_take (K : List Stk) (i : Nat) : totT (K.take i) ≤ totT K := by
  unfold totT
  have := totL_take (K.map shad) i
  have h2 := totL_nonneg ((K.map shad).drop i)
  rw [List.map_take]
  omega
theorem totT_nonneg (K : List Stk) : 0 ≤ totT K := totL_nonneg _
def mkSk (n : Nat) (k : Int) : Stk := (List.range n).map fun i => [wr .i16 (k + 2 * (i : Nat)), wr .i16 (k + 2 * (i : Nat) + 1)]
theorem mkSk_succ (n : Nat) (k : Int) : mkSk (n + 1) k = mkSk n k ++ [[wr .i16 (k + 2 * (n : Nat)), wr .i16 (k + 2 * (n : Nat) + 1)]] := by simp [mkSk, List.range_succ]
def mkTs : List Stk → Int → List Stk
  | [], _ => []
  | s :: l, k => mkSk s.length k :: mkTs l (k + 2 * s.length)
theorem mkTs_snoc : ∀ (l : List Stk) (v : Stk) (k : Int), mkTs (l ++ [v]) k = mkTs l k ++ [mkSk v.length (k + 2 * totT l)]
  | [], v, k => by simp [mkTs, totT, totL]
  | r :: l, v, k => by
    have := mkTs_snoc l v (k + 2 * r.length)
    have e : totT (r :: l) = r.length + totT l := by unfold totT; rw [List.map_cons, totL_cons, shad_len]
    simp only [List.cons_append, mkTs, this, e, Int.mul_add, Int.add_assoc]
def mkSp (n : Nat) (k : Int) : List Stp := (List.range n).map fun i => ([wr .i16 (k + 3 * (i : Nat)), wr .i16 (k + 3 * (i : Nat) + 1)], (Int.tmod (k + 3 * (i : Nat) + 1 + 1) 3 == 0), ())
theorem mkSp_len (n : Nat) (k : Int) : (mkSp n k).length = n := by simp [mkSp]
theorem mkSp_succ (n : Nat) (k : Int) : mkSp (n + 1) k = mkSp n k ++ [([wr .i16 (k + 3 * (n : Nat)), wr .i16 (k + 3 * (n : Nat) + 1)], (Int.tmod (k + 3 * (n : Nat) + 1 + 1) 3 == 0), ())] := by simp [mkSp, List.range_succ]
theorem mkSp_at (n : Nat) (k : Int) {i : Int} {v : Stp} (h : At (mkSp n k) i v) (h0 : 0 ≤ i) : v = ([wr .i16 (k + 3 * i), wr .i16 (k + 3 * i + 1)], (Int.tmod (k + 3 * i + 1 + 1) 3 == 0), ()) := by
  have := h.get
  unfold mkSp at this
  rw [List.getElem?_map] at this
  cases hr : (List.range n)[i.toNat]? with
  | none => rw [hr] at this; cases this
  | some j =>
    rw [hr] at this
    simp only [Option.map_some, Option.some.injEq] at this
    have hj : j = i.toNat := by
      rw [List.getElem?_eq_some_iff] at hr
      obtain ⟨hl, e⟩ := hr
      rw [List.getElem_range] at e
      exact e.symm
    rw [← this, hj, show ((i.toNat : Nat) : Int) = i by omega]
theorem len2 {m : Mk} (h : m.length = 2) : m = [g m 0, g m 1] := by
  match m, h with
  | [x, y], _ => rfl
end Go.Cams

/- Machines that are made of stops, in plain terms. -/
namespace Go.Cams
open Go Go.Fw
def gS (l : List Stp) (i : Nat) : Stp := l.getD i (o0, false, ())
theorem gS_idx {l : List Stp} {i : Int} (h0 : 0 ≤ i) (h1 : i < l.length) : At l i (gS l i.toNat) := by
  obtain ⟨v, hv⟩ := at_of (l := l) h0 h1
  have : gS l i.toNat = v := getD_at hv
  rw [this]; exact hv
theorem gS_out {l : List Stp} {i : Nat} (h : l.length ≤ i) : gS l i = (o0, false, ()) := by
  unfold gS
  rw [List.getD_eq_getElem?_getD, List.getElem?_eq_none h]; rfl
def pen (v : Stp) : Int := if v.2.1 = true then 0 else 1
def mfR (l : List Stp) (n : Nat) : Mch := ((List.range n).map fun i => g (gS l i).1 0, (List.range n).map fun i => g (gS l i).1 1, (List.range n).map fun i => pen (gS l i), ())
theorem mfR_succ (l : List Stp) (n : Nat) : mfR l (n + 1) = ((mfR l n).1 ++ [g (gS l n).1 0], (mfR l n).2.1 ++ [g (gS l n).1 1], (mfR l n).2.2.1 ++ [pen (gS l n)], ()) := by simp [mfR, List.range_succ]
def csR (K : List Stk) (most : Int) : Mch × (Int × Unit) := if (psR K most).2.1 ≠ 0 then (([], [], [], ()), (psR K most).2.1, ()) else (mfR (psR K most).1 (max 8 (psR K most).1.length), 0, ())
theorem csR_small (K : List Stk) (most : Int) : ((csR K most).1.1.length : Int) ≤ 360 ∧ ((csR K most).1.2.1.length : Int) ≤ 360 ∧ ((csR K most).1.2.2.1.length : Int) ≤ 360 := by
  have := psR_len K most
  unfold csR
  split
  · exact ⟨by simp, by simp, by simp⟩
  · refine ⟨?_, ?_, ?_⟩ <;> simp [mfR] <;> omega
end Go.Cams

/- Stretches of cams, their grids of bits and their fillings, in plain terms. -/
namespace Go.Cams
open Go Go.Fw

/-! ### Lists told by a function -/
def tb {α : Type} (n : Nat) (G : Nat → α) : List α := (List.range n).map G
theorem tb_len {α : Type} (n : Nat) (G : Nat → α) : (tb n G).length = n := by simp [tb]
theorem tb_get {α : Type} {n : Nat} {G : Nat → α} {i : Nat} (h : i < n) : (tb n G)[i]? = some (G i) := by simp [tb, h]
theorem tb_ext {α : Type} {n : Nat} {G G' : Nat → α} (h : ∀ j, j < n → G j = G' j) : tb n G = tb n G' := List.map_congr_left fun j hj => h j (by simpa using hj)
theorem tb_rep {α : Type} (n : Nat) (a : α) : List.replicate n a = tb n fun _ => a := by
  apply List.ext_getElem?
  intro i
  by_cases h : i < n
  · rw [tb_get h, List.getElem?_replicate, if_pos h]
  · rw [List.getElem?_eq_none (by simpa using h), List.getElem?_eq_none (by rw [tb_len]; omega)]
theorem tb_set {α : Type} (n : Nat) (G : Nat → α) (i : Nat) (v : α) : (tb n G).set i v = tb n fun j => if j = i then v else G j := by
  apply List.ext_getElem?
  intro j
  by_cases h : j < n
  · rw [tb_get h, List.getElem?_set]
    by_cases e : i = j
    · subst e; simp [tb_len, h]
    · rw [if_neg e, tb_get h, if_neg (fun h => e h.symm)]
  · rw [List.getElem?_eq_none (by rw [List.length_set, tb_len]; omega), List.getElem?_eq_none (by rw [tb_len]; omega)]
theorem tb_snoc {α : Type} (n : Nat) (G : Nat → α) : tb n G ++ [G n] = tb (n + 1) G := by simp [tb, List.range_succ]

/-! ### Rows of bits -/
def mkN (p : Nat → Bool) : Nat → Nat
  | 0 => 0
  | n + 1 => 2 ^ n * (if p n = true then 1 else 0) + mkN p n
theorem mkN_lt (p : Nat → Bool) : ∀ n, mkN p n < 2 ^ n
  | 0 => by simp [mkN]
  | n + 1 => by
    have := mkN_lt p n
    have e : 2 ^ (n + 1) = 2 ^ n + 2 ^ n := by rw [Nat.pow_succ]; omega
    unfold mkN
    split <;> omega
theorem mkN_bit (p : Nat → Bool) : ∀ (n y : Nat), (mkN p n).testBit y = (decide (y < n) && p y)
  | 0, y => by simp [mkN]
  | n + 1, y => by
    unfold mkN
    rw [Nat.testBit_two_pow_mul_add _ (mkN_lt p n), mkN_bit p n y]
    by_cases h : y < n
    · rw [if_pos h]; simp [h, show y < n + 1 by omega]
    · rw [if_neg h]
      by_cases h2 : y = n
      · subst h2
        simp only [Nat.sub_self]
        split <;> rename_i h3 <;> simp [h3]
      · have e : decide (y < n + 1) = false := decide_eq_false (by omega)
        rw [e, Bool.false_and]
        split
        · have : (1 : Nat) = 2 ^ 1 - 1 := rfl
          rw [this, Nat.testBit_two_pow_sub_one]
          exact decide_eq_false (by omega)
        · simp
theorem mkN_congr {p q : Nat → Bool} : ∀ {n : Nat}, (∀ y, y < n → p y = q y) → mkN p n = mkN q n
  | 0, _ => rfl
  | n + 1, h => by
    unfold mkN
    rw [h n (by omega), mkN_congr fun y hy => h y (by omega)]
theorem mkN_eq {p : Nat → Bool} {n x : Nat} (hx : x < 2 ^ n) (h : ∀ y, y < n → x.testBit y = p y) : x = mkN p n := by
  apply Nat.eq_of_testBit_eq
  intro y
  rw [mkN_bit]
  by_cases hy : y < n
  · rw [h y hy]; simp [hy]
  · rw [Nat.testBit_lt_two_pow (Nat.lt_of_lt_of_le hx (Nat.pow_le_pow_right (by omega) (by omega)))]
    simp [hy]
theorem mkN_zero {p : Nat → Bool} {n : Nat} (h : ∀ y, y < n → p y = false) : mkN p n = 0 := (mkN_eq (p := p) (x := 0) (Nat.pow_pos (by omega)) (by simpa using fun y hy => (h y hy))).symm
/-- A row of 64 bits, as the program has it. -/
def row (p : Nat → Bool) : Int := ((mkN p 64 : Nat) : Int)
theorem row_lt (p : Nat → Bool) : mkN p 64 < 18446744073709551616 := mkN_lt p 64
theorem row_congr {p q : Nat → Bool} (h : ∀ y, y < 64 → p y = q y) : row p = row q := by unfold row; rw [mkN_congr h]
theorem wrU {x : Int} (h0 : 0 ≤ x) (h1 : x < 18446744073709551616) : wr .u64 x = x := by
  show IntKind.u64.wrap x = x
  simp [IntKind.wrap, IntKind.signed, IntKind.bits]; omega
theorem ofInt_nat {a : Nat} (h : a < 18446744073709551616) : (BitVec.ofInt 64 (a : Int)).toNat = a := by
  rw [BitVec.ofInt_natCast, BitVec.toNat_ofNat]; exact Nat.mod_eq_of_lt (by omega)
theorem and_nat {a b : Nat} (ha : a < 18446744073709551616) (hb : b < 18446744073709551616) : bitsI .and .u64 (a : Int) (b : Int) = ((a &&& b : Nat) : Int) := by
  show IntKind.u64.wrap ((BitVec.ofInt 64 (a : Int) &&& BitVec.ofInt 64 (b : Int)).toNat : Int) = _
  rw [BitVec.toNat_and, ofInt_nat ha, ofInt_nat hb]
  have : a &&& b < 2 ^ 64 := Nat.and_lt_two_pow _ (by omega)
  exact wrU (by omega) (by omega)
theorem or_nat {a b : Nat} (ha : a < 18446744073709551616) (hb : b < 18446744073709551616) : bitsI .or .u64 (a : Int) (b : Int) = ((a ||| b : Nat) : Int) := by
  show IntKind.u64.wrap ((BitVec.ofInt 64 (a : Int) ||| BitVec.ofInt 64 (b : Int)).toNat : Int) = _
  rw [BitVec.toNat_or, ofInt_nat ha, ofInt_nat hb]
  have : a ||| b < 2 ^ 64 := Nat.or_lt_two_pow (by omega) (by omega)
  exact wrU (by omega) (by omega)
theorem xor_nat {a b : Nat} (ha : a < 18446744073709551616) (hb : b < 18446744073709551616) : bitsI .xor .u64 (a : Int) (b : Int) = ((a ^^^ b : Nat) : Int) := by
  show IntKind.u64.wrap ((BitVec.ofInt 64 (a : Int) ^^^ BitVec.ofInt 64 (b : Int)).toNat : Int) = _
  rw [BitVec.toNat_xor, ofInt_nat ha, ofInt_nat hb]
  have : a ^^^ b < 2 ^ 64 := Nat.xor_lt_two_pow (by omega) (by omega)
  exact wrU (by omega) (by omega)
theorem row_and (p q : Nat → Bool) : bitsI .and .u64 (row p) (row q) = row fun y => p y && q y := by
  unfold row
  rw [and_nat (row_lt p) (row_lt q)]
  refine Int.ofNat_inj.2 (mkN_eq (Nat.and_lt_two_pow _ (row_lt q)) fun y hy => ?_)
  rw [Nat.testBit_and, mkN_bit, mkN_bit]; simp [hy]
theorem row_or (p q : Nat → Bool) : bitsI .or .u64 (row p) (row q) = row fun y => p y || q y := by
  unfold row
  rw [or_nat (row_lt p) (row_lt q)]
  refine Int.ofNat_inj.2 (mkN_eq (Nat.or_lt_two_pow (row_lt p) (row_lt q)) fun y hy => ?_)
  rw [Nat.testBit_or, mkN_bit, mkN_bit]; simp [hy]
theorem row_xor (p q : Nat → Bool) : bitsI .xor .u64 (row p) (row q) = row fun y => p y ^^ q y := by
  unfold row
  rw [xor_nat (row_lt p) (row_lt q)]
  refine Int.ofNat_inj.2 (mkN_eq (Nat.xor_lt_two_pow (row_lt p) (row_lt q)) fun y hy => ?_)
  rw [Nat.testBit_xor, mkN_bit, mkN_bit]; simp [hy]
theorem row_one {y : Nat} (hy : y < 64) : shl_ .u64 (1 : Int) (y : Int) = row fun z => z == y := by
  show IntKind.u64.wrap (1 * 2 ^ (min (y : Int).toNat 64)) = _
  have h2 : 2 ^ y < 2 ^ 64 := Nat.pow_lt_pow_right (by omega) hy
  have e : (1 : Int) * 2 ^ (min (y : Int).toNat 64) = ((2 ^ y : Nat) : Int) := by
    rw [Int.toNat_natCast, Nat.min_eq_left (by omega), Int.one_mul]; simp
  rw [e]
  have : IntKind.u64.wrap ((2 ^ y : Nat) : Int) = ((2 ^ y : Nat) : Int) := wrU (Int.natCast_nonneg _) (Int.ofNat_lt.2 h2)
  rw [this]
  unfold row
  refine Int.ofNat_inj.2 (mkN_eq h2 fun z hz => ?_)
  rw [Nat.testBit_two_pow]
  by_cases h : y = z
  · subst h; simp
  · have h' : ¬ z = y := fun e => h e.symm
    simp [h, h']
theorem row_zero : (0 : Int) = row fun _ => false := by unfold row; rw [mkN_zero fun _ _ => rfl]; rfl
theorem row_ones : (18446744073709551615 : Int) = row fun _ => true := by
  unfold row
  rw [← mkN_eq (x := 18446744073709551615) (p := fun _ => true) (n := 64) (by omega) fun y hy => ?_]
  · rfl
  · rw [show (18446744073709551615 : Nat) = 2 ^ 64 - 1 from rfl, Nat.testBit_two_pow_sub_one]; simp [hy]
theorem shr_nat {v y : Nat} (hy : y ≤ 64) : shr_ .u64 (v : Int) (y : Int) = ((v / 2 ^ y : Nat) : Int) := by
  show Int.fdiv (v : Int) (2 ^ (min (y : Int).toNat 64)) = _
  rw [Int.toNat_natCast, Nat.min_eq_left hy]
  rw [show (2 : Int) ^ y = ((2 ^ y : Nat) : Int) by simp]
  rw [Int.fdiv_eq_ediv_of_nonneg _ (Int.natCast_nonneg _)]
  exact (Int.natCast_ediv _ _).symm
theorem row_bit (p : Nat → Bool) {y : Nat} (hy : y < 64) : (bitsI .and .u64 (shr_ .u64 (row p) (y : Int)) (1 : Int) == (1 : Int)) = p y := by
  unfold row
  rw [shr_nat (by omega), show (1 : Int) = ((1 : Nat) : Int) from rfl, and_nat (Nat.lt_of_le_of_lt (Nat.div_le_self _ _) (row_lt p)) (by omega)]
  have e : (mkN p 64 / 2 ^ y) &&& 1 = ((mkN p 64).testBit y).toNat := by
    rw [Nat.and_one_is_mod, Nat.toNat_testBit]
  rw [e, mkN_bit]
  simp only [hy, decide_true, Bool.true_and]
  cases p y <;> rfl
theorem row_ne (p : Nat → Bool) : (row p != (0 : Int)) = (List.range 64).any p := by
  rw [Bool.eq_iff_iff]
  simp only [bne_iff_ne, ne_eq, List.any_eq_true, List.mem_range]
  constructor
  · intro h
    apply Classical.byContradiction
    intro hn
    apply h
    unfold row
    rw [mkN_zero fun y hy => by
      cases e : p y with
      | false => rfl
      | true => exact absurd ⟨y, hy, e⟩ hn]
    rfl
  · rintro ⟨y, hy, e⟩ h0
    have : mkN p 64 = 0 := by unfold row at h0; omega
    have h2 := mkN_bit p 64 y
    rw [this] at h2
    simp [hy, e] at h2
/-- The bits from one to another. -/
theorem row_span {l h : Nat} (h1 : l ≤ h) (h2 : h ≤ 63) : (((2 ^ (h + 1 - l) - 1) * 2 ^ l : Nat) : Int) = row fun z => decide (l ≤ z ∧ z ≤ h) := by
  unfold row
  refine Int.ofNat_inj.2 (mkN_eq ?_ fun z hz => ?_)
  · have : (2 ^ (h + 1 - l) - 1) * 2 ^ l < 2 ^ (h + 1 - l) * 2 ^ l := Nat.mul_lt_mul_of_pos_right (by have := Nat.pow_pos (n := h + 1 - l) (show 0 < 2 by omega); omega) (Nat.pow_pos (by omega))
    rw [← Nat.pow_add, show h + 1 - l + l = h + 1 by omega] at this
    exact Nat.lt_of_lt_of_le this (Nat.pow_le_pow_right (by omega) (by omega))
  · rw [← Nat.shiftLeft_eq, Nat.testBit_shiftLeft, Nat.testBit_two_pow_sub_one]
    rw [Bool.eq_iff_iff]
    simp only [Bool.and_eq_true, decide_eq_true_eq]
    omega
theorem shl_nat {v y : Nat} (hy : y < 64) (hv : v * 2 ^ y < 18446744073709551616) : shl_ .u64 (v : Int) (y : Int) = ((v * 2 ^ y : Nat) : Int) := by
  show IntKind.u64.wrap ((v : Int) * 2 ^ (min (y : Int).toNat 64)) = _
  have e : (v : Int) * 2 ^ (min (y : Int).toNat 64) = ((v * 2 ^ y : Nat) : Int) := by
    rw [Int.toNat_natCast, Nat.min_eq_left (by omega)]; simp
  rw [e]
  exact wrU (Int.natCast_nonneg _) (Int.ofNat_lt.2 hv)
theorem ones_shr {k : Nat} (hk : k ≤ 64) : (18446744073709551615 / 2 ^ k : Nat) = 2 ^ (64 - k) - 1 := by
  have h1 : 2 ^ 64 = 2 ^ (64 - k) * 2 ^ k := by rw [← Nat.pow_add, Nat.sub_add_cancel hk]
  have hp : 0 < 2 ^ k := Nat.pow_pos (by omega)
  have hq : 0 < 2 ^ (64 - k) := Nat.pow_pos (by omega)
  generalize 2 ^ (64 - k) = a at *
  generalize 2 ^ k = b at *
  have h2 : 18446744073709551615 = a * b - 1 := by omega
  rw [h2]
  apply Nat.div_eq_of_lt_le
  · rw [Nat.sub_mul]; omega
  · rw [Nat.sub_add_cancel (by omega)]
    have : 0 < a * b := Nat.mul_pos hq hp
    omega
theorem span_impl {l h : Nat} (h1 : l ≤ h) (h2 : h ≤ 63) : shl_ .u64 (shr_ .u64 (18446744073709551615 : Int) (63 - (h : Int) + (l : Int))) (l : Int) = row fun z => decide (l ≤ z ∧ z ≤ h) := by
  rw [show (63 - (h : Int) + (l : Int)) = ((63 - h + l : Nat) : Int) by omega, show (18446744073709551615 : Int) = ((18446744073709551615 : Nat) : Int) from rfl, shr_nat (by omega), ones_shr (by omega), show 64 - (63 - h + l) = h + 1 - l by omega]
  have := row_span h1 h2
  have hlt : (2 ^ (h + 1 - l) - 1) * 2 ^ l < 18446744073709551616 := by
    have h3 := row_lt fun z => decide (l ≤ z ∧ z ≤ h)
    unfold row at this; omega
  rw [shl_nat (by omega) hlt]
  exact this
theorem span_spec {l h : Nat} (h1 : l ≤ h) (h2 : h ≤ 63) : shl_ .u64 (shr_ .u64 (shr_ .u64 (18446744073709551615 : Int) (63 - (h : Int))) (l : Int)) (l : Int) = row fun z => decide (l ≤ z ∧ z ≤ h) := by
  rw [show (63 - (h : Int)) = ((63 - h : Nat) : Int) by omega, show (18446744073709551615 : Int) = ((18446744073709551615 : Nat) : Int) from rfl, shr_nat (by omega), shr_nat (by omega), Nat.div_div_eq_div_mul, ← Nat.pow_add, ones_shr (by omega), show 64 - (63 - h + l) = h + 1 - l by omega]
  have := row_span h1 h2
  have hlt : (2 ^ (h + 1 - l) - 1) * 2 ^ l < 18446744073709551616 := by
    have h3 := row_lt fun z => decide (l ≤ z ∧ z ≤ h)
    unfold row at this; omega
  rw [shl_nat (by omega) hlt]
  exact this
/-- The first bit of a row; 64 if there is none. -/
def fstZ (p : Nat → Bool) : Nat := ((List.range 64).find? p).getD 64
theorem ctzF : ∀ (f x : Nat), Lib.ctzFrom f x = ((List.range f).find? x.testBit).getD f
  | 0, x => by simp [Lib.ctzFrom]
  | f + 1, x => by
    rw [List.range_succ_eq_map, List.find?_cons]
    unfold Lib.ctzFrom
    by_cases h : x % 2 = 1
    · rw [if_pos h]
      have : x.testBit 0 = true := by simp [Nat.testBit_zero, h]
      rw [this]; rfl
    · rw [if_neg h]
      have : x.testBit 0 = false := by simp [Nat.testBit_zero]; omega
      rw [this, ctzF f (x / 2), List.find?_map]
      have e : (x.testBit ∘ Nat.succ) = (x / 2).testBit := by
        funext i; simp [Nat.testBit_succ]
      rw [e]
      cases (List.range f).find? (x / 2).testBit <;> simp <;> omega
theorem find_congr {α : Type} {p q : α → Bool} : ∀ {l : List α}, (∀ x ∈ l, p x = q x) → l.find? p = l.find? q
  | [], _ => rfl
  | a :: l, h => by rw [List.find?_cons, List.find?_cons, h a (by simp), find_congr fun x hx => h x (by simp [hx])]
theorem row_ctz (p : Nat → Bool) : Lib.ctz 64 (row p).toNat = fstZ p := by
  unfold row
  rw [Int.toNat_natCast]
  have e : (List.range 64).find? (mkN p 64).testBit = (List.range 64).find? p := by
    apply find_congr
    intro y hy
    rw [mkN_bit]; simp [List.mem_range.1 hy]
  unfold Lib.ctz fstZ
  split
  · rename_i h0
    have : (List.range 64).find? p = none := by
      rw [← e, h0, List.find?_eq_none]; simp
    rw [this]; rfl
  · rw [ctzF, e]
theorem fstZ_some {p : Nat → Bool} (h : (List.range 64).any p = true) : fstZ p < 64 ∧ p (fstZ p) = true ∧ ∀ z, z < fstZ p → p z = false := by
  obtain ⟨y, hy, hp⟩ := List.any_eq_true.1 h
  unfold fstZ
  cases e : (List.range 64).find? p with
  | none => rw [List.find?_eq_none] at e; exact absurd hp (e y hy)
  | some z =>
    have h1 := List.find?_some e
    have h2 := List.mem_range.1 (List.mem_of_find?_eq_some e)
    refine ⟨h2, h1, fun w hw => ?_⟩
    have h3 := (List.find?_eq_some_iff_getElem.1 e).2
    obtain ⟨i, hi, e1, e2⟩ := h3
    simp only [List.getElem_range] at e1
    subst e1
    have := e2 w hw
    simpa using this
end Go.Cams

/- Stretches: which heights may follow, what can be reached, and fillings, in plain terms. -/
namespace Go.Cams
open Go Go.Fw
def hgt (c : List Int) (lo s : Int) : Int := cAt c s - lo
/-- May the height z come behind x and y, within the bound b? -/
def sp (b : Int) (x y z : Nat) : Bool := decide (2 * (y : Int) - x - b ≤ z ∧ (z : Int) ≤ 2 * (y : Int) - x + b)
/-- May the step k of a stretch have the height z? -/
def al (c : List Int) (f m lo : Int) (k z : Nat) : Bool := decide ((k : Int) < m) || decide ((z : Int) = hgt c lo (f + k))
def qq (c : List Int) (f m lo b : Int) (k x y z : Nat) : Bool := sp b x y z && al c f m lo k z
/-- Can one go on for d steps? -/
def can (q : Nat → Nat → Nat → Nat → Bool) : Nat → Nat → Nat → Nat → Bool
  | 0, _, _, _ => true
  | d + 1, k, x, y => (List.range 64).any fun z => q k x y z && can q d (k + 1) y z
/-- Is a pair reached with i steps? -/
def fwd (q : Nat → Nat → Nat → Nat → Bool) (x0 y0 : Nat) : Nat → Nat → Nat → Bool
  | 0, x, y => x == x0 && y == y0
  | i + 1, y, z => (List.range 64).any fun x => fwd q x0 y0 i x y && q i x y z
theorem any64 {p : Nat → Bool} : (List.range 64).any p = true ↔ ∃ z, z < 64 ∧ p z = true := by
  rw [List.any_eq_true]
  constructor
  · rintro ⟨z, hz, h⟩; exact ⟨z, List.mem_range.1 hz, h⟩
  · rintro ⟨z, hz, h⟩; exact ⟨z, List.mem_range.2 hz, h⟩
theorem fwd_can {q : Nat → Nat → Nat → Nat → Bool} {x0 y0 : Nat} (hx : x0 < 64) (hy : y0 < 64) (M : Nat) : ∀ i, i ≤ M → ((∃ x y, x < 64 ∧ y < 64 ∧ fwd q x0 y0 i x y = true ∧ can q (M - i) i x y = true) ↔ can q M 0 x0 y0 = true)
  | 0, _ => by
    constructor
    · rintro ⟨x, y, _, _, h1, h2⟩
      simp only [fwd, Bool.and_eq_true, beq_iff_eq] at h1
      rw [h1.1, h1.2] at h2
      exact h2
    · intro h
      exact ⟨x0, y0, hx, hy, by simp [fwd], h⟩
  | i + 1, h => by
    rw [← fwd_can hx hy M i (by omega)]
    have e : M - i = (M - (i + 1)) + 1 := by omega
    constructor
    · rintro ⟨y, z, hy', hz, h1, h2⟩
      simp only [fwd] at h1
      obtain ⟨x, hx', h1⟩ := any64.1 h1
      simp only [Bool.and_eq_true] at h1
      refine ⟨x, y, hx', hy', h1.1, ?_⟩
      rw [e]
      simp only [can]
      exact any64.2 ⟨z, hz, by simp [h1.2, h2]⟩
    · rintro ⟨x, y, hx', hy', h1, h2⟩
      rw [e] at h2
      simp only [can] at h2
      obtain ⟨z, hz, h2⟩ := any64.1 h2
      simp only [Bool.and_eq_true] at h2
      refine ⟨y, z, hy', hz, ?_, h2.2⟩
      simp only [fwd]
      exact any64.2 ⟨x, hx', by simp [h1, h2.1]⟩
def askP (c : List Int) (f m lo b : Int) : Int :=
  if okC c = false then 1
  else if (inR f 0 ((c.length : Int) - 1) && inR m 1 (min 40 ((c.length : Int) - 4)) && inR lo 0 9937 && inR b 0 40000) = false then 2
  else if (inR (hgt c lo (f - 2)) 0 63 && inR (hgt c lo (f - 1)) 0 63 && inR (hgt c lo (f + m)) 0 63 && inR (hgt c lo (f + m + 1)) 0 63) = false then 4 else 0
structure GoodS (c : List Int) (f m lo b : Int) : Prop where
  ok : okC c = true
  hf : 0 ≤ f ∧ f < c.length
  hm : 1 ≤ m ∧ m ≤ 40
  hm2 : m ≤ c.length - 4
  hlo : 0 ≤ lo ∧ lo ≤ 9937
  hb : 0 ≤ b ∧ b ≤ 40000
  h1 : 0 ≤ hgt c lo (f - 2) ∧ hgt c lo (f - 2) ≤ 63
  h2 : 0 ≤ hgt c lo (f - 1) ∧ hgt c lo (f - 1) ≤ 63
  h3 : 0 ≤ hgt c lo (f + m) ∧ hgt c lo (f + m) ≤ 63
  h4 : 0 ≤ hgt c lo (f + m + 1) ∧ hgt c lo (f + m + 1) ≤ 63
theorem goodS {c : List Int} {f m lo b : Int} (h : askP c f m lo b = 0) : GoodS c f m lo b := by
  unfold askP at h
  split at h
  · exact absurd h (by decide)
  rename_i h0
  split at h
  · exact absurd h (by decide)
  rename_i h1
  split at h
  · exact absurd h (by decide)
  rename_i h2
  simp only [Bool.not_eq_false, Bool.and_eq_true, inR_iff] at h0 h1 h2
  obtain ⟨⟨⟨a1, a2⟩, a3⟩, a4⟩ := h1
  obtain ⟨⟨⟨b1, b2⟩, b3⟩, b4⟩ := h2
  exact ⟨h0, by omega, by omega, by omega, a3, a4, b1, b2, b3, b4⟩
theorem GoodS.bound {c : List Int} {f m lo b : Int} (h : GoodS c f m lo b) {b' : Int} (h0 : 0 ≤ b') (h1 : b' ≤ 40000) : GoodS c f m lo b' := ⟨h.ok, h.hf, h.hm, h.hm2, h.hlo, ⟨h0, h1⟩, h.h1, h.h2, h.h3, h.h4⟩
theorem GoodS.len {c : List Int} {f m lo b : Int} (h : GoodS c f m lo b) : 8 ≤ (c.length : Int) ∧ (c.length : Int) ≤ 360 := okC_len h.ok
def px (c : List Int) (f lo : Int) : Nat := (hgt c lo (f - 2)).toNat
def py (c : List Int) (f lo : Int) : Nat := (hgt c lo (f - 1)).toNat
theorem GoodS.px {c : List Int} {f m lo b : Int} (h : GoodS c f m lo b) : hgt c lo (f - 2) = (px c f lo : Nat) ∧ Cams.px c f lo < 64 := by have := h.h1; unfold Cams.px; omega
theorem GoodS.py {c : List Int} {f m lo b : Int} (h : GoodS c f m lo b) : hgt c lo (f - 1) = (py c f lo : Nat) ∧ Cams.py c f lo < 64 := by have := h.h2; unfold Cams.py; omega
theorem GoodS.fix {c : List Int} {f m lo b : Int} (h : GoodS c f m lo b) {k : Nat} (h0 : ¬ (k : Int) < m) (h1 : (k : Int) ≤ m + 1) : 0 ≤ hgt c lo (f + k) ∧ hgt c lo (f + k) ≤ 63 := by
  by_cases e : (k : Int) = m
  · rw [e]; exact h.h3
  · rw [show f + (k : Int) = f + m + 1 by omega]; exact h.h4
/-- Can a stretch be filled? -/
def cq (c : List Int) (f m lo b : Int) : Bool := can (qq c f m lo b) (m.toNat + 2) 0 (px c f lo) (py c f lo)
/-- The least lifts that fill a stretch. -/
def fil (q : Nat → Nat → Nat → Nat → Bool) (lo : Int) (M : Nat) : Nat → Nat → Nat → Nat → List Int
  | 0, _, _, _ => []
  | d + 1, k, x, y => (lo + (fstZ fun z => q k x y z && can q (M - (k + 1)) (k + 1) y z : Nat)) :: fil q lo M d (k + 1) y (fstZ fun z => q k x y z && can q (M - (k + 1)) (k + 1) y z)
theorem fil_len (q : Nat → Nat → Nat → Nat → Bool) (lo : Int) (M : Nat) : ∀ d k x y, (fil q lo M d k x y).length = d
  | 0, _, _, _ => rfl
  | d + 1, k, x, y => by simp [fil, fil_len q lo M d]
def filP (c : List Int) (f m lo b : Int) : List Int := fil (qq c f m lo b) lo (m.toNat + 2) m.toNat 0 (px c f lo) (py c f lo)
def fillR (c : List Int) (f m lo b : Int) : List Int × (Bool × Unit) := if cq c f m lo b = true then (filP c f m lo b, true, ()) else ([], false, ())
/-- The least number for which something holds, by halving. -/
def bs (P : Int → Bool) : Nat → Int → Int → Int
  | 0, lo, _ => lo
  | n + 1, lo, hi => if lo < hi then (if P ((lo + hi) / 2) = true then bs P n lo ((lo + hi) / 2) else bs P n ((lo + hi) / 2 + 1) hi) else lo
theorem bs_more (P : Int → Bool) : ∀ (n : Nat) (lo hi : Int), (hi - lo).toNat ≤ n → bs P (n + 1) lo hi = bs P n lo hi
  | 0, lo, hi, h => by
    unfold bs
    rw [if_neg (by omega)]
  | n + 1, lo, hi, h => by
    unfold bs
    by_cases hl : lo < hi
    · rw [if_pos hl, if_pos hl, bs_more P n _ _ (by omega), bs_more P n _ _ (by omega)]
    · rw [if_neg hl, if_neg hl]
theorem bs_any (P : Int → Bool) {lo hi : Int} {n : Nat} (h : (hi - lo).toNat ≤ n) : bs P n lo hi = bs P (hi - lo).toNat lo hi := by
  obtain ⟨d, rfl⟩ : ∃ d, n = (hi - lo).toNat + d := ⟨n - (hi - lo).toNat, by omega⟩
  clear h
  induction d with
  | zero => rfl
  | succ d ih => rw [show (hi - lo).toNat + (d + 1) = ((hi - lo).toNat + d) + 1 by omega, bs_more P _ _ _ (by omega), ih]
theorem bs_in (P : Int → Bool) : ∀ (n : Nat) (lo hi : Int), lo ≤ hi → lo ≤ bs P n lo hi ∧ bs P n lo hi ≤ hi
  | 0, lo, hi, h => by unfold bs; omega
  | n + 1, lo, hi, h => by
    unfold bs
    split
    · split
      · have := bs_in P n lo ((lo + hi) / 2) (by omega); omega
      · have := bs_in P n ((lo + hi) / 2 + 1) hi (by omega); omega
    · omega
def lbV (c : List Int) (f m lo : Int) : Int := bs (fun b => cq c f m lo b) 128 0 128
theorem lbV_in (c : List Int) (f m lo : Int) : 0 ≤ lbV c f m lo ∧ lbV c f m lo ≤ 128 := bs_in _ _ _ _ (by omega)
abbrev RI2 : Type := Int × (Int × Unit)
def lbR (c : List Int) (f m lo : Int) : RI2 := if askP c f m lo 0 ≠ 0 then (0, askP c f m lo 0, ()) else (lbV c f m lo, 0, ())
abbrev RL2 : Type := List Int × (Int × Unit)
def fwR (c : List Int) (f m lo b : Int) : RL2 := if askP c f m lo b ≠ 0 then ([], askP c f m lo b, ()) else if cq c f m lo b = true then (filP c f m lo b, 0, ()) else ([], 6, ())

/-! ### The spans -/
theorem may_val {A B : Int} (hA : 0 ≤ A) (hB : B ≤ 63) (hAB : ¬ A > B) : shl_ .u64 (shr_ .u64 (shr_ .u64 (18446744073709551615 : Int) (wr .u64 (wr .i64 (63 - B)))) (wr .u64 A)) (wr .u64 A) = row fun z => decide (A ≤ z ∧ (z : Int) ≤ B) := by
  obtain ⟨a, rfl⟩ : ∃ a : Nat, A = a := ⟨A.toNat, by omega⟩
  obtain ⟨b, rfl⟩ : ∃ b : Nat, B = b := ⟨B.toNat, by omega⟩
  rw [wrap_id (x := 63 - (b : Int)) (by omega) (by omega), wrU (x := 63 - (b : Int)) (by omega) (by omega), wrU (x := (a : Int)) (by omega) (by omega), span_spec (by omega) (by omega)]
  exact row_congr fun y hy => by simp
theorem span_val {A B : Int} (hA : 0 ≤ A) (hB : B ≤ 63) (hAB : ¬ A > B) : shl_ .u64 (shr_ .u64 (18446744073709551615 : Int) (wr .i64 (wr .i64 (63 - B) + A))) A = row fun z => decide (A ≤ z ∧ (z : Int) ≤ B) := by
  obtain ⟨a, rfl⟩ : ∃ a : Nat, A = a := ⟨A.toNat, by omega⟩
  obtain ⟨b, rfl⟩ : ∃ b : Nat, B = b := ⟨B.toNat, by omega⟩
  rw [wrap_id (x := 63 - (b : Int)) (by omega) (by omega), wrap_id (x := 63 - (b : Int) + (a : Int)) (by omega) (by omega), span_impl (by omega) (by omega)]
  exact row_congr fun y hy => by simp
theorem row_none {p : Nat → Bool} (h : ∀ y, y < 64 → p y = false) : row p = 0 := by rw [row_zero]; exact row_congr h

/-! ### Grids that are being made -/
/-- A grid of rows. -/
def gR (t : Nat → Nat → Bool) : List Int := tb 64 fun x => row (t x)
theorem gR_len (t : Nat → Nat → Bool) : (gR t).length = 64 := tb_len _ _
theorem gR_get (t : Nat → Nat → Bool) {x : Nat} (hx : x < 64) : (gR t)[x]? = some (row (t x)) := tb_get hx
theorem gR_ext {t u : Nat → Nat → Bool} (h : ∀ x y, x < 64 → y < 64 → t x y = u x y) : gR t = gR u := tb_ext fun x hx => row_congr fun y hy => h x y hx hy
theorem gR_zero : List.replicate 64 (0 : Int) = gR fun _ _ => false := by rw [tb_rep]; exact tb_ext fun _ _ => row_zero
theorem gR_set (t : Nat → Nat → Bool) (x : Nat) (p : Nat → Bool) : (gR t).set x (row p) = gR fun x' y' => if x' = x then p y' else t x' y' := by
  unfold gR
  rw [tb_set]
  refine tb_ext fun j _ => ?_
  by_cases h : j = x
  · simp [h]
  · simp [h]
theorem gR_ne_zero (t : Nat → Nat → Bool) : gR t = List.replicate 64 (0 : Int) ↔ ∀ x y, x < 64 → y < 64 → t x y = false := by
  constructor
  · intro h x y hx hy
    have h1 := gR_get t hx
    rw [h, List.getElem?_replicate, if_pos hx] at h1
    have h2 := row_ne (t x)
    rw [← Option.some.inj h1] at h2
    have h3 : (List.range 64).any (t x) = false := by rw [← h2]; rfl
    rw [List.any_eq_false] at h3
    have := h3 y (List.mem_range.2 hy)
    simpa using this
  · intro h
    rw [gR_zero]
    exact gR_ext h
/-- What is told of the pairs ahead of x, y. -/
def pg (t : Nat → Nat → Bool) (x y : Nat) : List Int := gR fun x' y' => (decide (x' < x) || (x' == x && decide (y' < y))) && t x' y'
theorem pg_zero (t : Nat → Nat → Bool) : pg t 0 0 = List.replicate 64 (0 : Int) := by
  rw [gR_zero]; exact gR_ext fun x y _ _ => by simp
theorem pg_next (t : Nat → Nat → Bool) (x : Nat) : pg t x 64 = pg t (x + 1) 0 := gR_ext fun x' y' _ hy => by
  have e : decide (y' < 64) = true := decide_eq_true hy
  rw [e]
  congr 1
  rw [Bool.eq_iff_iff]
  simp
  omega
theorem pg_full (t : Nat → Nat → Bool) : pg t 64 0 = gR t := gR_ext fun x y hx _ => by simp [hx]
theorem pg_get (t : Nat → Nat → Bool) {x y : Nat} (hx : x < 64) : (pg t x y)[x]? = some (row fun y' => decide (y' < y) && t x y') := by
  unfold pg
  rw [gR_get _ hx]
  exact congrArg some (row_congr fun y' _ => by simp)
theorem pg_skip {t : Nat → Nat → Bool} {x y : Nat} (h : t x y = false) : pg t x y = pg t x (y + 1) := gR_ext fun x' y' _ _ => by
  by_cases h1 : x' = x
  · subst h1
    by_cases h2 : y' = y
    · subst h2; simp [h]
    · rw [Bool.eq_iff_iff]
      simp
      intro _
      omega
  · have : (x' == x) = false := by simpa using h1
    rw [this]; simp
theorem pg_put {t : Nat → Nat → Bool} {x y : Nat} (hy : y < 64) (h : t x y = true) : (pg t x y).set x (bitsI .or .u64 (row fun y' => decide (y' < y) && t x y') (shl_ .u64 (1 : Int) (y : Int))) = pg t x (y + 1) := by
  rw [row_one hy, row_or]
  unfold pg
  rw [gR_set]
  refine gR_ext fun x' y' _ _ => ?_
  by_cases h1 : x' = x
  · subst h1
    rw [if_pos rfl]
    by_cases h2 : y' = y
    · subst h2; simp [h]
    · rw [Bool.eq_iff_iff]
      simp [h2]
      intro _
      omega
  · have : (x' == x) = false := by simpa using h1
    rw [if_neg h1, this]; simp
end Go.Cams
namespace Go.Cams
open Go Go.Fw
theorem row_has (p : Nat → Bool) {y : Nat} (hy : y < 64) : (bitsI .and .u64 (row p) (shl_ .u64 (1 : Int) (y : Int)) != (0 : Int)) = p y := by
  rw [row_one hy, row_and, row_ne, Bool.eq_iff_iff, any64]
  constructor
  · rintro ⟨z, _, h⟩
    simp only [Bool.and_eq_true, beq_iff_eq] at h
    rw [← h.2]; exact h.1
  · intro h
    exact ⟨y, hy, by simp [h]⟩
/-- What is left of a grid whose pairs ahead of x, y have been looked at. -/
def pm (F t : Nat → Nat → Bool) (x y : Nat) : List Int := gR fun x' y' => F x' y' && (!(decide (x' < x) || (x' == x && decide (y' < y))) || t x' y')
theorem pm_zero (F t : Nat → Nat → Bool) : pm F t 0 0 = gR F := gR_ext fun x y _ _ => by simp
theorem pm_next (F t : Nat → Nat → Bool) (x : Nat) : pm F t x 64 = pm F t (x + 1) 0 := gR_ext fun x' y' _ hy => by
  congr 2
  congr 1
  rw [Bool.eq_iff_iff]
  simp
  omega
theorem pm_full (F t : Nat → Nat → Bool) : pm F t 64 0 = gR fun x y => F x y && t x y := gR_ext fun x y hx _ => by simp [hx]
theorem pm_get (F t : Nat → Nat → Bool) {x y : Nat} (hx : x < 64) : (pm F t x y)[x]? = some (row fun y' => F x y' && (!decide (y' < y) || t x y')) := by
  unfold pm
  rw [gR_get _ hx]
  exact congrArg some (row_congr fun y' _ => by simp)
theorem pm_skip {F t : Nat → Nat → Bool} {x y : Nat} (h : F x y = false ∨ t x y = true) : pm F t x y = pm F t x (y + 1) := gR_ext fun x' y' _ _ => by
  by_cases h1 : x' = x
  · subst h1
    by_cases h2 : y' = y
    · subst h2
      rcases h with h | h <;> simp [h]
    · have : decide (y' < y) = decide (y' < y + 1) := by rw [decide_eq_decide]; omega
      rw [this]
  · have : (x' == x) = false := by simpa using h1
    rw [this]; simp
theorem pm_cut {F t : Nat → Nat → Bool} {x y : Nat} (hy : y < 64) (h : F x y = true) (ht : t x y = false) : (pm F t x y).set x (bitsI .xor .u64 (row fun y' => F x y' && (!decide (y' < y) || t x y')) (shl_ .u64 (1 : Int) (y : Int))) = pm F t x (y + 1) := by
  rw [row_one hy, row_xor]
  unfold pm
  rw [gR_set]
  refine gR_ext fun x' y' _ _ => ?_
  by_cases h1 : x' = x
  · subst h1
    rw [if_pos rfl]
    by_cases h2 : y' = y
    · subst h2; simp [h, ht]
    · have e : decide (y' < y) = decide (y' < y + 1) := by rw [decide_eq_decide]; omega
      have e2 : (y' == y) = false := by simpa using h2
      rw [e, e2]; simp
  · have : (x' == x) = false := by simpa using h1
    rw [if_neg h1, this]; simp
end Go.Cams
namespace Go.Cams
open Go Go.Fw
theorem bit_or (p : Nat → Bool) {y : Nat} (hy : y < 64) : bitsI .and .u64 (shr_ .u64 (row p) (y : Int)) (1 : Int) = 0 ∨ bitsI .and .u64 (shr_ .u64 (row p) (y : Int)) (1 : Int) = 1 := by
  unfold row
  rw [shr_nat (by omega), show (1 : Int) = ((1 : Nat) : Int) from rfl, and_nat (Nat.lt_of_le_of_lt (Nat.div_le_self _ _) (row_lt p)) (by omega), Nat.and_one_is_mod]
  omega
theorem fwR_len (c : List Int) (f m lo b : Int) : ((fwR c f m lo b).1.length : Int) ≤ 40 := by
  unfold fwR
  split
  · simp
  · rename_i h
    have G := goodS (c := c) (f := f) (m := m) (lo := lo) (b := b) (by simpa using h)
    split
    · have := G.hm
      show ((filP c f m lo b).length : Int) ≤ 40
      unfold filP
      rw [fil_len]; omega
    · simp
end Go.Cams
