/- What the functions compute, in plain terms: definitions and laws of lists and numbers, no program in sight. -/
import Derived.Test.YtipjblnjaicbfaaGreatDoorFwC
import Derived.Lib.TrailingZeros
import Derived.Lib.ItoaLen
import Derived.Lib.ItoaMem
import Derived.Lib.Join
import Derived.Lib.ParseIntB
import Derived.Lib.Split
import Derived.Lib.SplitLaws
import Derived.Lib.ItoaNum
import Derived.Lib.Bytealg
import Derived.Lib.IndexMore
import Derived.Laws.Strings
/- What the functions of cams and shafts compute, in plain terms. -/
namespace Go.Cams
open Go Go.Fw
abbrev Sft : Type := Int × (Int × (Int × ((List Int) × Unit)))

def inR (a b c : Int) : Bool := decide (b ≤ a ∧ a ≤ c)
def okV (v : Int) : Bool := inR (wr .i64 v) 0 10000
def okC (l : List Int) : Bool := inR (l.length : Int) 8 360 && l.all okV

/-! ### Validity -/
def fi {α : Type} (p : α → Bool) : List α → Int → Int
  | [], _ => -1
  | v :: r, i => if p v = true then i else fi p r (i + 1)
theorem fi_any {α : Type} (p : α → Bool) : ∀ (l : List α) (i : Int), 0 ≤ i → decide (fi p l i ≥ 0) = l.any p
  | [], i, _ => by simp [fi]
  | v :: r, i, h => by
    unfold fi
    by_cases hp : p v = true
    · simp [hp, h]
    · have hp' : p v = false := by simpa using hp
      simp [hp', fi_any p r (i + 1) (by omega)]

/-- A shaft that is valid. -/
def okS (s : Sft) : Bool := inR (wr .i64 s.1) 1 60 && inR (wr .i64 s.2.1) 1 60 && okC s.2.2.2.1 && inR (wr .i64 s.2.2.1) 0 (wr .i64 ((s.2.2.2.1.length : Int) - 1))
/-- What is known of a list of shafts. -/
def Small (l : List Sft) : Prop := (l.length : Int) ≤ 140737488351232 ∧ ∀ s ∈ l, (s.2.2.2.1.length : Int) ≤ 140737488351232
theorem Small.get {l : List Sft} (h : Small l) {i : Nat} {s : Sft} (hs : l[i]? = some s) : (s.2.2.2.1.length : Int) ≤ 140737488351232 := h.2 s (List.mem_of_getElem? hs)

/-! ### The greatest common divisor -/
/-! ### Periods -/
def gg (a b : Int) : Int := ((Nat.gcd a.toNat b.toNat : Nat) : Int)
theorem bne_pos {a : Int} (h : 0 < a) : (a != 0) = true := by simp; omega
theorem inR_iff {a b c : Int} : inR a b c = true ↔ b ≤ a ∧ a ≤ c := by simp [inR]
structure Good (s : Sft) : Prop where
  num : 1 ≤ wr .i64 s.1 ∧ wr .i64 s.1 ≤ 60
  den : 1 ≤ wr .i64 s.2.1 ∧ wr .i64 s.2.1 ≤ 60
  len : 8 ≤ (s.2.2.2.1.length : Int) ∧ (s.2.2.2.1.length : Int) ≤ 360
  cam : ∀ v ∈ s.2.2.2.1, 0 ≤ wr .i64 v ∧ wr .i64 v ≤ 10000
  ph : 0 ≤ wr .i64 s.2.2.1 ∧ wr .i64 s.2.2.1 ≤ 360
def dl (s : Sft) : Int := wr .i64 (wr .i64 s.2.1 * (s.2.2.2.1.length : Int))
def own (s : Sft) : Int := wr .i64 (Int.tdiv (dl s) (gg (dl s) (wr .i64 s.1)))
/-! ### Codes -/
def fst0 : List Int → Int
  | [] => 0
  | v :: r => if v ≠ 0 then v else fst0 r
/-! ### Lifts -/
/-! ### Copies -/
/-! ### Equal to itself -/
/-! ### Sizes -/
/-! ### All lifts -/
/-! ### The search -/
end Go.Cams


/- Clashes of two shafts, in plain terms. -/
namespace Go.Cams
open Go Go.Fw
end Go.Cams


/- Marks on memory, and what holds them. -/
namespace Go.Cams
open Go Go.Fw
theorem get_of_lt {α : Type} {b : List α} {i : Int} (h0 : 0 ≤ i) (h1 : i < b.length) : ∃ u, b[i.toNat]? = some u := ⟨b[i.toNat]'(by omega), by simp⟩
/-! ### Sizes -/
end Go.Cams
namespace Go.Cams
open Go Go.Fw
/-! ### Phases -/
end Go.Cams
namespace Go.Cams
open Go Go.Fw
end Go.Cams


/- Best phases and sums of lifts, in plain terms. -/
namespace Go.Cams
open Go Go.Fw
theorem wrap16 {x : Int} (h1 : -32768 ≤ x) (h2 : x ≤ 32767) : wr .i16 x = x := by
  show IntKind.i16.wrap x = x
  simp [IntKind.wrap, IntKind.bits, IntKind.signed]
  omega
end Go.Cams


/- Machines, turns, and greatest numbers, in plain terms. -/
namespace Go.Cams
open Go Go.Fw
/-- What is known of a list of int16. -/
structure Rng (l : List Int) : Prop where
  len : (l.length : Int) * 2 ≤ 140737488351232
  el : ∀ v ∈ l, -32768 ≤ v ∧ v ≤ 32767
theorem Rng.len' {l : List Int} (h : Rng l) : (l.length : Int) ≤ 70368744175616 := by have := h.len; omega
theorem Rng.id {l : List Int} (h : Rng l) {v : Int} (hv : v ∈ l) : wr .i64 v = v := by have := h.el v hv; exact wrap_id (by omega) (by omega)
theorem rng_of {l : List Int} (h : Dom (.slc (.int .i16)) l) : Rng l :=
  ⟨Int.ofNat_le.2 h.1, fun v hv => by
    have := h.2 v hv
    have e1 : IntKind.i16.min = -32768 := rfl
    have e2 : IntKind.i16.max = 32767 := rfl
    simp only [Dom] at this
    rw [e1, e2] at this
    exact this⟩
theorem okC_len {l : List Int} (h : okC l = true) : 8 ≤ (l.length : Int) ∧ (l.length : Int) ≤ 360 := by
  simp only [okC, Bool.and_eq_true, inR_iff] at h; exact h.1
theorem okC_el {l : List Int} (h : okC l = true) (hr : Rng l) : ∀ v ∈ l, 0 ≤ v ∧ v ≤ 10000 := by
  simp only [okC, Bool.and_eq_true, inR_iff, List.all_eq_true, okV] at h
  intro v hv
  have := h.2 v hv
  rw [hr.id hv] at this
  exact this
/-! ### Turns -/
/-- The place of a step of a turned cam. -/
theorem turn_at {x n : Int} (hn : 0 < n) (h1 : n ≤ 1000000) (hx : -4000000 ≤ x) (hx' : x ≤ 4000000) : Int.tmod (wr .i64 (Int.tmod x n + n)) n = x % n := by
  have h2 := Int.tmod_lt_of_pos x hn
  have h3 : -n < Int.tmod x n := by
    rcases Int.le_total 0 x with h | h
    · have := Int.tmod_nonneg n h; omega
    · have := Int.tmod_lt_of_pos (-x) hn
      rw [Int.neg_tmod] at this
      omega
  rw [wrap_id (by omega) (by omega), Int.tmod_eq_emod_of_nonneg (by omega), Int.add_emod_right]
  rcases Int.le_total 0 x with h | h
  · rw [Int.tmod_eq_emod_of_nonneg h, Int.emod_emod]
  · rw [Int.tmod_def, Int.sub_mul_emod_self_left]
theorem floorDiv_eq {a b : Int} (hb : 0 < b) : (if Int.tmod a b < 0 then Int.tdiv a b - 1 else Int.tdiv a b) = a / b := by
  have h1 := Int.tmod_lt_of_pos a hb
  have h2 := Int.tmod_def a b
  have h3 : -b < Int.tmod a b := by
    rcases Int.le_total 0 a with h | h
    · have := Int.tmod_nonneg b h; omega
    · have := Int.tmod_lt_of_pos (-a) hb
      rw [Int.neg_tmod] at this
      omega
  split
  · have := (Int.ediv_emod_unique (a := a) (b := b) (r := Int.tmod a b + b) (q := Int.tdiv a b - 1) hb).2 ⟨by rw [Int.mul_sub, Int.mul_one]; omega, by omega, by omega⟩
    exact this.1.symm
  · have := (Int.ediv_emod_unique (a := a) (b := b) (r := Int.tmod a b) (q := Int.tdiv a b) hb).2 ⟨by omega, by omega, by omega⟩
    exact this.1.symm
theorem ediv_bd {a b M : Int} (hb : 0 < b) (h1 : -M ≤ a) (h2 : a ≤ M) (h0 : 0 ≤ M) : -M ≤ a / b ∧ a / b ≤ M := by
  constructor
  · rw [Int.le_ediv_iff_mul_le hb]
    have : M * 1 ≤ M * b := Int.mul_le_mul_of_nonneg_left (by omega) h0
    rw [Int.neg_mul]
    omega
  · have := Int.ediv_le_ediv hb h2
    have := Int.ediv_le_self (a := M) b h0
    omega
end Go.Cams
namespace Go.Cams
open Go Go.Fw
end Go.Cams


/- Two machines in one, in plain terms. -/
namespace Go.Cams
open Go Go.Fw
end Go.Cams


/- Events, in plain terms. -/
namespace Go.Cams
open Go Go.Fw
/-! ### Marks on events -/
end Go.Cams
namespace Go.Cams
open Go Go.Fw
end Go.Cams


/- Cutters, tips, and what a cutter leaves, in plain terms. -/
namespace Go.Cams
open Go Go.Fw
/-- An element, 0 where there is none. -/
def g (l : List Int) (i : Nat) : Int := l.getD i 0
theorem g_at {l : List Int} {i v : Int} (h : At l i v) : g l i.toNat = v := by
  have := h.get
  unfold g
  rw [List.getD_eq_getElem?_getD, this]; rfl
theorem g_idx {l : List Int} {i : Int} (h0 : 0 ≤ i) (h1 : i < l.length) : At l i (g l i.toNat) := by
  obtain ⟨v, hv⟩ := at_of (l := l) h0 h1
  rw [g_at hv]; exact hv
theorem g_mem {l : List Int} {i : Nat} (h : i < l.length) : g l i ∈ l := by
  have := g_idx (l := l) (i := i) (by omega) (by omega)
  simpa using this.mem
def cAt (l : List Int) (x : Int) : Int := g l (x % l.length).toNat

/-! ### Validity -/
def kOne (k : List Int) (i : Nat) : Bool := inR (wr .i64 (g k i)) 0 10000 && (g k (k.length - 1 - i) == g k i) && (decide (i = 0) || !decide (g k (i - 1) < g k i))
def allTo (p : Nat → Bool) (n : Nat) : Bool := (List.range n).all p
theorem allTo_iff (p : Nat → Bool) (n : Nat) : allTo p n = true ↔ ∀ i, i < n → p i = true := by simp [allTo]
def okK (k : List Int) : Bool := inR (k.length : Int) 1 31 && decide (k.length % 2 = 1) && (g k (k.length / 2) == 0) && allTo (kOne k) (k.length / 2 + 1)
/-! ### Tips -/
def half (k : List Int) : Int := (k.length / 2 : Nat)
def tipTo (c k : List Int) (s : Int) : Nat → Int
  | 0 => 0
  | i + 1 => max (tipTo c k s i) (cAt c (s + i - half k) - g k i)
def tip (c k : List Int) (s : Int) : Int := tipTo c k s k.length
theorem cAt_mem {c : List Int} (h : 0 < c.length) (x : Int) : cAt c x ∈ c := by
  have h1 := Int.emod_nonneg x (show (c.length : Int) ≠ 0 by omega)
  have h2 := Int.emod_lt_of_pos x (show 0 < (c.length : Int) by omega)
  exact g_mem (by omega)
/-! ### Cuts -/
def lfTo (c k : List Int) (p : Int) : Nat → Int
  | 0 => tip c k p
  | i + 1 => min (lfTo c k p i) (tip c k ((p + i - half k) % c.length) + g k i)
def lf (c k : List Int) (p : Int) : Int := lfTo c k p k.length
end Go.Cams
namespace Go.Cams
open Go Go.Fw
theorem rng_bd {l : List Int} (hl : (l.length : Int) ≤ 1000000) (h : ∀ v ∈ l, 0 ≤ v ∧ v ≤ 10000) : Rng l := ⟨by omega, fun v hv => by have := h v hv; omega⟩
end Go.Cams


/- Waste, and the best cutter, in plain terms. -/
namespace Go.Cams
open Go Go.Fw
structure RngS (K : List (List Int)) : Prop where
  len : (K.length : Int) * 24 ≤ 140737488351232
  el : ∀ k ∈ K, Rng k
theorem RngS.len' {K : List (List Int)} (h : RngS K) : (K.length : Int) ≤ 5864062014635 := by have := h.len; omega
def okKs (K : List (List Int)) : Bool := K.all okK
/-! ### What is left is not less -/
theorem getD_at {α : Type} {l : List α} {i : Int} {v d : α} (h : At l i v) : l.getD i.toNat d = v := by rw [List.getD_eq_getElem?_getD, h.get]; rfl
end Go.Cams


/- Cuts, in plain terms. -/
namespace Go.Cams
open Go Go.Fw
abbrev Ct : Type := Int × (Int × (Int × Unit))
structure RngC (L : List Ct) : Prop where
  len : (L.length : Int) * 6 ≤ 140737488351232
  el : ∀ v ∈ L, (-32768 ≤ v.1 ∧ v.1 ≤ 32767) ∧ (-32768 ≤ v.2.1 ∧ v.2.1 ≤ 32767) ∧ (-128 ≤ v.2.2.1 ∧ v.2.2.1 ≤ 127)
theorem RngC.len' {L : List Ct} (h : RngC L) : (L.length : Int) ≤ 23456248058538 := by have := h.len; omega
theorem RngC.i1 {L : List Ct} (h : RngC L) {v : Ct} (hv : v ∈ L) : wr .i64 v.1 = v.1 := by have := (h.el v hv).1; exact wrap_id (by omega) (by omega)
theorem RngC.i2 {L : List Ct} (h : RngC L) {v : Ct} (hv : v ∈ L) : wr .i64 v.2.1 = v.2.1 := by have := (h.el v hv).2.1; exact wrap_id (by omega) (by omega)
theorem RngC.i3 {L : List Ct} (h : RngC L) {v : Ct} (hv : v ∈ L) : wr .i64 v.2.2.1 = v.2.2.1 := by have := (h.el v hv).2.2; exact wrap_id (by omega) (by omega)
def ctOk (m : Int) (v : Ct) : Bool := inR (wr .i64 v.1) 0 359 && inR (wr .i64 v.2.1) 0 10000 && inR (wr .i64 v.2.2.1) 0 (wr .i64 (m - 1))
def okCt (L : List Ct) (m : Int) : Bool := decide ((L.length : Int) ≤ 400) && L.all (ctOk m)
def onCt (L : List Ct) (n : Int) : Bool := L.all fun v => !decide (wr .i64 v.1 ≥ n)
def okCuts (L : List Ct) (K : List (List Int)) : Bool := inR (K.length : Int) 1 8 && okKs K && okCt L K.length
def gvCode (c : List Int) (K : List (List Int)) (L : List Ct) : Int := if okC c = true then (if okCuts L K = true then (if onCt L c.length = true then 0 else 2) else 1) else 1
end Go.Cams


/- Machines that draw, in plain terms. -/
namespace Go.Cams
open Go Go.Fw
abbrev Mk : Type := List Int
abbrev Stp : Type := List Int × (Bool × Unit)
/-- A mark on the plate. -/
structure OnP (a : Mk) : Prop where
  len : a.length = 2
  x : 0 ≤ g a 0 ∧ g a 0 ≤ 63
  y : 0 ≤ g a 1 ∧ g a 1 ≤ 63
theorem OnP.eq {a : Mk} (h : OnP a) : a = [g a 0, g a 1] := by
  have hl := h.len
  match a, hl with
  | [x, y], _ => rfl
theorem onP_pair {x y : Int} (hx : 0 ≤ x ∧ x ≤ 63) (hy : 0 ≤ y ∧ y ≤ 63) : OnP [x, y] := ⟨rfl, hx, hy⟩
def siz (x : Int) : Int := if x < 0 then -x else x
def far (a b : Mk) : Int := max (siz (g a 0 - g b 0)) (siz (g a 1 - g b 1))
/-- The nearest whole number of a fraction. -/
def nr (x n : Int) : Int := (2 * x + n) / (2 * n)
def pt (a b : Mk) (k : Int) (i : Nat) : Int := g a i + nr (k * (g b i - g a i)) (far a b)
def ptM (a b : Mk) (k : Int) : Mk := [pt a b k 0, pt a b k 1]
def lineM (a b : Mk) : List Mk := if far a b = 0 then [a] else (List.range (far a b + 1).toNat).map fun k => ptM a b (k : Nat)
theorem far_bd {a b : Mk} (ha : OnP a) (hb : OnP b) : 0 ≤ far a b ∧ far a b ≤ 63 ∧ (∀ i : Nat, i = 0 ∨ i = 1 → -far a b ≤ g b i - g a i ∧ g b i - g a i ≤ far a b) := by
  have h1 := ha.x; have h2 := ha.y; have h3 := hb.x; have h4 := hb.y
  have e : far a b = max (siz (g a 0 - g b 0)) (siz (g a 1 - g b 1)) := rfl
  have e1 : siz (g a 0 - g b 0) = if g a 0 - g b 0 < 0 then -(g a 0 - g b 0) else g a 0 - g b 0 := rfl
  have e2 : siz (g a 1 - g b 1) = if g a 1 - g b 1 < 0 then -(g a 1 - g b 1) else g a 1 - g b 1 := rfl
  refine ⟨?_, ?_, fun i hi => ?_⟩
  · split at e1 <;> omega
  · split at e1 <;> split at e2 <;> omega
  · rcases hi with rfl | rfl
    · split at e1 <;> omega
    · split at e2 <;> omega
theorem nr_bd {k d n : Int} (hn : 0 < n) (k0 : 0 ≤ k) (k1 : k ≤ n) (h1 : -n ≤ d) (h2 : d ≤ n) : (0 ≤ d → 0 ≤ nr (k * d) n ∧ nr (k * d) n ≤ d) ∧ (d ≤ 0 → d ≤ nr (k * d) n ∧ nr (k * d) n ≤ 0) := by
  have hnn : (2 * (n * d) + n) / (2 * n) = d := by
    rw [show 2 * (n * d) + n = n + (2 * n) * d by rw [Int.mul_assoc]; omega, Int.add_mul_ediv_left _ _ (by omega)]
    rw [Int.ediv_eq_zero_of_lt (by omega) (by omega)]; omega
  have h00 : (2 * 0 + n) / (2 * n) = 0 := Int.ediv_eq_zero_of_lt (by omega) (by omega)
  unfold nr
  constructor
  · intro hd
    have a : 0 ≤ k * d := Int.mul_nonneg k0 hd
    have b : k * d ≤ n * d := Int.mul_le_mul_of_nonneg_right k1 hd
    have c := Int.ediv_le_ediv (c := 2 * n) (by omega) (show 2 * 0 + n ≤ 2 * (k * d) + n by omega)
    have e := Int.ediv_le_ediv (c := 2 * n) (by omega) (show 2 * (k * d) + n ≤ 2 * (n * d) + n by omega)
    omega
  · intro hd
    have a : k * d ≤ 0 := Int.mul_nonpos_of_nonneg_of_nonpos k0 hd
    have b : n * d ≤ k * d := Int.mul_le_mul_of_nonpos_right k1 hd
    have c := Int.ediv_le_ediv (c := 2 * n) (by omega) (show 2 * (k * d) + n ≤ 2 * 0 + n by omega)
    have e := Int.ediv_le_ediv (c := 2 * n) (by omega) (show 2 * (n * d) + n ≤ 2 * (k * d) + n by omega)
    omega
theorem pt_bd {a b : Mk} (ha : OnP a) (hb : OnP b) (hn : far a b ≠ 0) {k : Int} (k0 : 0 ≤ k) (k1 : k ≤ far a b) {i : Nat} (hi : i = 0 ∨ i = 1) : 0 ≤ pt a b k i ∧ pt a b k i ≤ 63 := by
  obtain ⟨f0, f1, f2⟩ := far_bd ha hb
  have hx := ha.x; have hy := ha.y; have kx := hb.x; have ky := hb.y
  obtain ⟨b1, b2⟩ := nr_bd (show 0 < far a b by omega) k0 k1 (f2 i hi).1 (f2 i hi).2
  have hga : 0 ≤ g a i ∧ g a i ≤ 63 := by rcases hi with rfl | rfl <;> assumption
  have hgb : 0 ≤ g b i ∧ g b i ≤ 63 := by rcases hi with rfl | rfl <;> assumption
  unfold pt
  rcases Int.le_total 0 (g b i - g a i) with h | h
  · have := b1 h; omega
  · have := b2 h; omega
theorem nr_zero {n : Int} (hn : 0 < n) : nr 0 n = 0 := by
  unfold nr
  exact Int.ediv_eq_zero_of_lt (by omega) (by omega)
theorem ptM_zero {a b : Mk} (ha : OnP a) (hb : OnP b) (hn : far a b ≠ 0) : ptM a b 0 = a := by
  obtain ⟨f0, _, _⟩ := far_bd ha hb
  have h : ∀ i, pt a b 0 i = g a i := fun i => by
    unfold pt
    rw [Int.zero_mul, nr_zero (by omega)]; omega
  unfold ptM
  rw [h, h]
  exact ha.eq.symm
theorem lineM_same {a : Mk} : lineM a a = [a] := by
  unfold lineM
  rw [if_pos]
  unfold far siz
  simp
end Go.Cams


/- Motions by laws, runs of a cam, and programs that are found, in plain terms. -/
namespace Go.Cams
open Go Go.Fw
theorem mulB {a b A B : Int} (a0 : 0 ≤ a) (a1 : a ≤ A) (b0 : 0 ≤ b) (b1 : b ≤ B) : 0 ≤ a * b ∧ a * b ≤ A * B := ⟨Int.mul_nonneg a0 b0, Int.mul_le_mul a1 b1 b0 (by omega)⟩
/-- How much of a change is done, as a fraction. -/
def shN (w k n : Int) : Int := if w = 1 then (if 2 * k ≤ n then 2 * k * k else n * n - 2 * (n - k) * (n - k)) else if w = 2 then 3 * k * k * n - 2 * k * k * k else if w = 3 then k * k * k * (10 * n * n - 15 * k * n + 6 * k * k) else k
def shD (w n : Int) : Int := if w = 1 then n * n else if w = 2 then n * n * n else if w = 3 then n * n * n * n * n else n
def liftP (f t w k n : Int) : Int := nr (f * shD w n + (t - f) * shN w k n) (shD w n)
theorem shD_bd {w n : Int} (n0 : 1 ≤ n) (n1 : n ≤ 360) : 1 ≤ shD w n ∧ shD w n ≤ 6046617600000 := by
  have p2 : 1 ≤ n * n := Int.mul_le_mul n0 n0 (by omega) (by omega)
  have q2 := (mulB (show 0 ≤ n by omega) n1 (show 0 ≤ n by omega) n1).2
  have p3 : 1 ≤ n * n * n := Int.mul_le_mul p2 n0 (by omega) (by omega)
  have q3 := (mulB (show 0 ≤ n * n by omega) q2 (show 0 ≤ n by omega) n1).2
  have p4 : 1 ≤ n * n * n * n := Int.mul_le_mul p3 n0 (by omega) (by omega)
  have q4 := (mulB (show 0 ≤ n * n * n by omega) q3 (show 0 ≤ n by omega) n1).2
  have p5 : 1 ≤ n * n * n * n * n := Int.mul_le_mul p4 n0 (by omega) (by omega)
  have q5 := (mulB (show 0 ≤ n * n * n * n by omega) q4 (show 0 ≤ n by omega) n1).2
  unfold shD
  split
  · omega
  split
  · omega
  split <;> omega
/-! ### Runs -/
def kdOf (x : Int) : Int := if x > 0 then 1 else if x < 0 then -1 else 0
def kd (c : List Int) (x : Int) : Int := kdOf (cAt c (x + 1) - cAt c x)
/-- How long a run is. -/
def rlF (K : Int → Int) (s : Int) : Nat → Nat → Nat
  | 0, l => l
  | f + 1, l => if K (s + l) = K s then rlF K s f (l + 1) else l
def rl (K : Int → Int) (s : Int) (left : Nat) : Nat := rlF K s (left - 1) 1
/-- Runs, from a step on, so many steps. -/
def rsF (c : List Int) : Nat → Int → Nat → List Ct
  | 0, _, _ => []
  | f + 1, s, left => if left = 0 then [] else (kd c s, s % c.length, ((rl (kd c) s left : Nat) : Int), ()) :: rsF c f (s + (rl (kd c) s left : Nat)) (left - rl (kd c) s left)
def rs (c : List Int) (s : Int) (left : Nat) : List Ct := rsF c left s left
/-! ### Motions that are found -/
abbrev Prg : Type := Int × ((List Ct) × Unit)
/-! ### Marks of three numbers -/
end Go.Cams


/- Plans of cuts, in plain terms. -/
namespace Go.Cams
open Go Go.Fw
end Go.Cams


/- Stops that are planned, in plain terms. -/
namespace Go.Cams
open Go Go.Fw
abbrev Stk : Type := List Mk
def gM (L : List Mk) (i : Nat) : Mk := L.getD i []
theorem gM_idx {L : List Mk} {i : Int} (h0 : 0 ≤ i) (h1 : i < L.length) : At L i (gM L i.toNat) := by
  obtain ⟨v, hv⟩ := at_of (l := L) h0 h1
  have : gM L i.toNat = v := getD_at hv
  rw [this]; exact hv
theorem lineM_get {a b : Mk} (hn : far a b ≠ 0) {i : Nat} (h : i < (far a b + 1).toNat) : gM (lineM a b) i = ptM a b (i : Nat) := by
  unfold gM lineM
  rw [if_neg hn, List.getD_eq_getElem?_getD, List.getElem?_map, List.getElem?_range h]
  rfl
theorem lineM_length {a b : Mk} (ha : OnP a) (hb : OnP b) : ((lineM a b).length : Int) = far a b + 1 := by
  obtain ⟨f0, _, _⟩ := far_bd ha hb
  unfold lineM
  split
  · rename_i h; rw [h]; rfl
  · simp; omega
theorem far_zero {a b : Mk} (ha : OnP a) (hb : OnP b) (h : far a b = 0) : a = b := by
  obtain ⟨_, _, f2⟩ := far_bd ha hb
  have h0 := f2 0 (.inl rfl)
  have h1 := f2 1 (.inr rfl)
  rw [ha.eq, hb.eq]
  rw [show g a 0 = g b 0 by omega, show g a 1 = g b 1 by omega]
theorem nr_full {d n : Int} (hn : 0 < n) (k : Int) (hd : d = n ∨ d = -n) : nr (k * d) n = if d = n then k else -k := by
  unfold nr
  rcases hd with rfl | rfl
  · rw [if_pos rfl, show 2 * (k * d) + d = d + (2 * d) * k by rw [Int.mul_assoc, Int.mul_comm d k]; omega, Int.add_mul_ediv_left _ _ (by omega), Int.ediv_eq_zero_of_lt (by omega) (by omega)]; omega
  · rw [if_neg (by omega), show 2 * (k * -n) + n = n + (2 * n) * (-k) by rw [Int.mul_neg k n, Int.mul_neg 2 (k * n), Int.mul_neg (2 * n) k, Int.mul_assoc, Int.mul_comm n k]; omega, Int.add_mul_ediv_left _ _ (by omega), Int.ediv_eq_zero_of_lt (by omega) (by omega)]; omega
theorem nr_end {d n : Int} (hn : 0 < n) : nr (n * d) n = d := by
  unfold nr
  rw [show 2 * (n * d) + n = n + (2 * n) * d by rw [Int.mul_assoc]; omega, Int.add_mul_ediv_left _ _ (by omega), Int.ediv_eq_zero_of_lt (by omega) (by omega)]; omega
theorem nr_step {d n k : Int} (hn : 0 < n) (h1 : -n ≤ d) (h2 : d ≤ n) : -1 ≤ nr ((k + 1) * d) n - nr (k * d) n ∧ nr ((k + 1) * d) n - nr (k * d) n ≤ 1 := by
  unfold nr
  rw [Int.add_mul, Int.one_mul]
  obtain ⟨e, he⟩ : ∃ e, e = k * d := ⟨_, rfl⟩
  rw [← he]
  have a := Int.ediv_le_ediv (c := 2 * n) (by omega) (show 2 * (e + d) + n ≤ (2 * e + n) + 2 * n * 1 by omega)
  rw [Int.add_mul_ediv_left _ _ (by omega)] at a
  have b := Int.ediv_le_ediv (c := 2 * n) (by omega) (show (2 * e + n) + 2 * n * (-1) ≤ 2 * (e + d) + n by omega)
  rw [Int.add_mul_ediv_left _ _ (by omega)] at b
  omega
theorem ptM_end {a b : Mk} (ha : OnP a) (hb : OnP b) (hn : far a b ≠ 0) : ptM a b (far a b) = b := by
  obtain ⟨f0, _, _⟩ := far_bd ha hb
  have h : ∀ i, pt a b (far a b) i = g b i := fun i => by
    unfold pt
    rw [nr_end (by omega)]; omega
  unfold ptM
  rw [h, h]
  exact hb.eq.symm
theorem lineM_one {a b : Mk} (ha : OnP a) (hb : OnP b) (h : far a b = 1) : lineM a b = [a, b] := by
  have h0 := ptM_zero ha hb (by omega)
  have h1 := ptM_end ha hb (by omega)
  rw [h] at h1
  unfold lineM
  rw [if_neg (by omega), h]
  show [ptM a b ((0 : Nat) : Int), ptM a b ((1 : Nat) : Int)] = _
  rw [show ((0 : Nat) : Int) = 0 from rfl, show ((1 : Nat) : Int) = 1 from rfl, h0, h1]
theorem line_step {a b : Mk} (ha : OnP a) (hb : OnP b) {i : Nat} (h : (i : Int) < far a b) : lineM (gM (lineM a b) i) (gM (lineM a b) (i + 1)) = [gM (lineM a b) i, gM (lineM a b) (i + 1)] := by
  obtain ⟨f0, f1, f2⟩ := far_bd ha hb
  have hn : far a b ≠ 0 := by omega
  rw [lineM_get hn (by omega), lineM_get hn (by omega)]
  have p0 := onP_pair (pt_bd ha hb hn (k := (i : Nat)) (by omega) (by omega) (.inl rfl)) (pt_bd ha hb hn (k := (i : Nat)) (by omega) (by omega) (.inr rfl))
  have p1 := onP_pair (pt_bd ha hb hn (k := ((i + 1 : Nat) : Int)) (by omega) (by omega) (.inl rfl)) (pt_bd ha hb hn (k := ((i + 1 : Nat) : Int)) (by omega) (by omega) (.inr rfl))
  refine lineM_one p0 p1 ?_
  have s0 := nr_step (k := (i : Int)) (show 0 < far a b by omega) (f2 0 (.inl rfl)).1 (f2 0 (.inl rfl)).2
  have s1 := nr_step (k := (i : Int)) (show 0 < far a b by omega) (f2 1 (.inr rfl)).1 (f2 1 (.inr rfl)).2
  have e0 : pt a b ((i + 1 : Nat) : Int) 0 - pt a b (i : Int) 0 = nr (((i : Int) + 1) * (g b 0 - g a 0)) (far a b) - nr ((i : Int) * (g b 0 - g a 0)) (far a b) := by
    unfold pt
    rw [show ((i + 1 : Nat) : Int) = (i : Int) + 1 by omega]; omega
  have e1 : pt a b ((i + 1 : Nat) : Int) 1 - pt a b (i : Int) 1 = nr (((i : Int) + 1) * (g b 1 - g a 1)) (far a b) - nr ((i : Int) * (g b 1 - g a 1)) (far a b) := by
    unfold pt
    rw [show ((i + 1 : Nat) : Int) = (i : Int) + 1 by omega]; omega
  have full : ∀ d, d = far a b ∨ d = -far a b → nr (((i : Int) + 1) * d) (far a b) - nr ((i : Int) * d) (far a b) = 1 ∨ nr (((i : Int) + 1) * d) (far a b) - nr ((i : Int) * d) (far a b) = -1 := fun d hd => by
    rw [nr_full (by omega) _ hd, nr_full (by omega) _ hd]
    split <;> omega
  have ef : far a b = max (siz (g a 0 - g b 0)) (siz (g a 1 - g b 1)) := rfl
  have d0 : siz (g a 0 - g b 0) = if g a 0 - g b 0 < 0 then -(g a 0 - g b 0) else g a 0 - g b 0 := rfl
  have d1 : siz (g a 1 - g b 1) = if g a 1 - g b 1 < 0 then -(g a 1 - g b 1) else g a 1 - g b 1 := rfl
  show max (siz (pt a b (i : Int) 0 - pt a b ((i + 1 : Nat) : Int) 0)) (siz (pt a b (i : Int) 1 - pt a b ((i + 1 : Nat) : Int) 1)) = 1
  have h3 : ∀ x, siz x = if x < 0 then -x else x := fun _ => rfl
  rw [h3, h3]
  have hor : g b 0 - g a 0 = far a b ∨ g b 0 - g a 0 = -far a b ∨ g b 1 - g a 1 = far a b ∨ g b 1 - g a 1 = -far a b := by
    split at d0 <;> split at d1 <;> omega
  rcases hor with hh | hh | hh | hh
  · have := full _ (.inl hh)
    split <;> split <;> omega
  · have := full _ (.inr hh)
    split <;> split <;> omega
  · have := full _ (.inl hh)
    split <;> split <;> omega
  · have := full _ (.inr hh)
    split <;> split <;> omega
theorem seg_two {L : List Mk} {i : Nat} (h : i + 1 < L.length) : (L.take (i + 2)).drop i = [gM L i, gM L (i + 1)] := by
  have e0 : L[i]? = some (gM L i) := by unfold gM; rw [List.getD_eq_getElem?_getD, List.getElem?_eq_getElem (by omega)]; rfl
  have e1 : L[i + 1]? = some (gM L (i + 1)) := by unfold gM; rw [List.getD_eq_getElem?_getD, List.getElem?_eq_getElem (by omega)]; rfl
  rw [List.take_add_one, List.take_add_one, e0, e1]
  simp only [Option.toList_some, List.append_assoc]
  rw [List.drop_append_of_le_length (by simp; omega), List.drop_of_length_le (by simp; omega)]
  rfl
/-- The place to go to: as far as the line is the same. -/
def bkJ (L : List Mk) (i : Nat) : Nat → Nat
  | 0 => 0
  | j + 1 => if lineM (gM L i) (gM L (j + 1)) = (L.take (j + 2)).drop i then j + 1 else bkJ L i j
theorem bkJ_le (L : List Mk) (i : Nat) : ∀ j, bkJ L i j ≤ j
  | 0 => Nat.le_refl _
  | j + 1 => by
    unfold bkJ
    split
    · exact Nat.le_refl _
    · have := bkJ_le L i j; omega
theorem bkJ_gt {a b : Mk} (ha : OnP a) (hb : OnP b) {i : Nat} (h : (i : Int) < far a b) : ∀ j, i < j → j < (lineM a b).length → i < bkJ (lineM a b) i j
  | 0, hj, _ => by omega
  | j + 1, hj, hl => by
    unfold bkJ
    split
    · exact hj
    · rename_i hc
      by_cases e : i = j
      · subst e
        exact absurd (by rw [line_step ha hb h, seg_two hl]) hc
      · exact bkJ_gt ha hb h j (by omega) (by omega)
def toJ (most : Nat) (down : Bool) (L : List Mk) (i : Nat) : Nat := if down = true then bkJ L i (min (i + most) (L.length - 1)) else min (i + most) (L.length - 1)
def goF (most : Nat) (down : Bool) (L : List Mk) : Nat → Nat → List Stp
  | 0, _ => []
  | f + 1, i => if i < L.length - 1 then (gM L (toJ most down L i), down, ()) :: goF most down L f (toJ most down L i) else []
theorem toJ_bd {most : Nat} (hm : 1 ≤ most) (down : Bool) {a b : Mk} (ha : OnP a) (hb : OnP b) {i : Nat} (h : i < (lineM a b).length - 1) : i < toJ most down (lineM a b) i ∧ toJ most down (lineM a b) i ≤ (lineM a b).length - 1 := by
  have hl := lineM_length ha hb
  unfold toJ
  split
  · have h1 := bkJ_gt ha hb (i := i) (by omega) (min (i + most) ((lineM a b).length - 1)) (by omega) (by omega)
    have h2 := bkJ_le (lineM a b) i (min (i + most) ((lineM a b).length - 1))
    omega
  · omega
def goL (most : Nat) (down : Bool) (a b : Mk) : List Stp := goF most down (lineM a b) 64 0
theorem goF_last (most : Nat) (down : Bool) (L : List Mk) (f : Nat) {i : Nat} (h : ¬ i < L.length - 1) : goF most down L f i = [] := by
  cases f with
  | zero => rfl
  | succ f => unfold goF; rw [if_neg h]
theorem line_last {a b : Mk} (ha : OnP a) (hb : OnP b) : gM (lineM a b) ((lineM a b).length - 1) = b := by
  have hl := lineM_length ha hb
  obtain ⟨f0, _, _⟩ := far_bd ha hb
  by_cases hn : far a b = 0
  · have := far_zero ha hb hn
    subst this
    rw [lineM_same]; rfl
  · rw [lineM_get hn (by omega), show (((lineM a b).length - 1 : Nat) : Int) = far a b by omega, ptM_end ha hb hn]
/-! ### Strokes -/
structure RngT (K : List Stk) : Prop where
  len : (K.length : Int) * 24 ≤ 140737488351232
  el : ∀ s ∈ K, (s.length : Int) * 4 ≤ 140737488351232 ∧ ∀ m ∈ s, m.length = 2 ∧ ∀ v ∈ m, -32768 ≤ v ∧ v ≤ 32767
def drF (most : Nat) (st : Mk × List Stp) (m : Mk) : Mk × List Stp := (m, st.2 ++ goL most true st.1 m)
def o0 : Mk := List.replicate 2 0
/-! ### Sizes and marks -/
theorem RngT.len' {K : List Stk} (h : RngT K) : (K.length : Int) ≤ 5864062014635 := by have := h.len; omega
end Go.Cams


/- Machines that are made of stops, in plain terms. -/
namespace Go.Cams
open Go Go.Fw
end Go.Cams


/- Stretches of cams, their grids of bits and their fillings, in plain terms. -/
namespace Go.Cams
open Go Go.Fw

/-! ### Lists told by a function -/
def tb {α : Type} (n : Nat) (G : Nat → α) : List α := (List.range n).map G
theorem tb_len {α : Type} (n : Nat) (G : Nat → α) : (tb n G).length = n := by simp [tb]
theorem tb_get {α : Type} {n : Nat} {G : Nat → α} {i : Nat} (h : i < n) : (tb n G)[i]? = some (G i) := by simp [tb, h]
theorem tb_ext {α : Type} {n : Nat} {G G' : Nat → α} (h : ∀ j, j < n → G j = G' j) : tb n G = tb n G' := List.map_congr_left fun j hj => h j (by simpa using hj)
theorem tb_rep {α : Type} (n : Nat) (a : α) : List.replicate n a = tb n fun _ => a := by
  apply List.ext_getElem?
  intro i
  by_cases h : i < n
  · rw [tb_get h, List.getElem?_replicate, if_pos h]
  · rw [List.getElem?_eq_none (by simpa using h), List.getElem?_eq_none (by rw [tb_len]; omega)]
theorem tb_set {α : Type} (n : Nat) (G : Nat → α) (i : Nat) (v : α) : (tb n G).set i v = tb n fun j => if j = i then v else G j := by
  apply List.ext_getElem?
  intro j
  by_cases h : j < n
  · rw [tb_get h, List.getElem?_set]
    by_cases e : i = j
    · subst e; simp [tb_len, h]
    · rw [if_neg e, tb_get h, if_neg (fun h => e h.symm)]
  · rw [List.getElem?_eq_none (by rw [List.length_set, tb_len]; omega), List.getElem?_eq_none (by rw [tb_len]; omega)]
theorem tb_snoc {α : Type} (n : Nat) (G : Nat → α) : tb n G ++ [G n] = tb (n + 1) G := by simp [tb, List.range_succ]

/-! ### Rows of bits -/
def mkN (p : Nat → Bool) : Nat → Nat
  | 0 => 0
  | n + 1 => 2 ^ n * (if p n = true then 1 else 0) + mkN p n
theorem mkN_lt (p : Nat → Bool) : ∀ n, mkN p n < 2 ^ n
  | 0 => by simp [mkN]
  | n + 1 => by
    have := mkN_lt p n
    have e : 2 ^ (n + 1) = 2 ^ n + 2 ^ n := by rw [Nat.pow_succ]; omega
    unfold mkN
    split <;> omega
theorem mkN_bit (p : Nat → Bool) : ∀ (n y : Nat), (mkN p n).testBit y = (decide (y < n) && p y)
  | 0, y => by simp [mkN]
  | n + 1, y => by
    unfold mkN
    rw [Nat.testBit_two_pow_mul_add _ (mkN_lt p n), mkN_bit p n y]
    by_cases h : y < n
    · rw [if_pos h]; simp [h, show y < n + 1 by omega]
    · rw [if_neg h]
      by_cases h2 : y = n
      · subst h2
        simp only [Nat.sub_self]
        split <;> rename_i h3 <;> simp [h3]
      · have e : decide (y < n + 1) = false := decide_eq_false (by omega)
        rw [e, Bool.false_and]
        split
        · have : (1 : Nat) = 2 ^ 1 - 1 := rfl
          rw [this, Nat.testBit_two_pow_sub_one]
          exact decide_eq_false (by omega)
        · simp
theorem mkN_congr {p q : Nat → Bool} : ∀ {n : Nat}, (∀ y, y < n → p y = q y) → mkN p n = mkN q n
  | 0, _ => rfl
  | n + 1, h => by
    unfold mkN
    rw [h n (by omega), mkN_congr fun y hy => h y (by omega)]
theorem mkN_eq {p : Nat → Bool} {n x : Nat} (hx : x < 2 ^ n) (h : ∀ y, y < n → x.testBit y = p y) : x = mkN p n := by
  apply Nat.eq_of_testBit_eq
  intro y
  rw [mkN_bit]
  by_cases hy : y < n
  · rw [h y hy]; simp [hy]
  · rw [Nat.testBit_lt_two_pow (Nat.lt_of_lt_of_le hx (Nat.pow_le_pow_right (by omega) (by omega)))]
    simp [hy]
theorem mkN_zero {p : Nat → Bool} {n : Nat} (h : ∀ y, y < n → p y = false) : mkN p n = 0 := (mkN_eq (p := p) (x := 0) (Nat.pow_pos (by omega)) (by simpa using fun y hy => (h y hy))).symm
/-- A row of 64 bits, as the program has it. -/
def row (p : Nat → Bool) : Int := ((mkN p 64 : Nat) : Int)
theorem row_lt (p : Nat → Bool) : mkN p 64 < 18446744073709551616 := mkN_lt p 64
theorem row_congr {p q : Nat → Bool} (h : ∀ y, y < 64 → p y = q y) : row p = row q := by unfold row; rw [mkN_congr h]
theorem wrU {x : Int} (h0 : 0 ≤ x) (h1 : x < 18446744073709551616) : wr .u64 x = x := by
  show IntKind.u64.wrap x = x
  simp [IntKind.wrap, IntKind.signed, IntKind.bits]; omega
theorem ofInt_nat {a : Nat} (h : a < 18446744073709551616) : (BitVec.ofInt 64 (a : Int)).toNat = a := by
  rw [BitVec.ofInt_natCast, BitVec.toNat_ofNat]; exact Nat.mod_eq_of_lt (by omega)
theorem and_nat {a b : Nat} (ha : a < 18446744073709551616) (hb : b < 18446744073709551616) : bitsI .and .u64 (a : Int) (b : Int) = ((a &&& b : Nat) : Int) := by
  show IntKind.u64.wrap ((BitVec.ofInt 64 (a : Int) &&& BitVec.ofInt 64 (b : Int)).toNat : Int) = _
  rw [BitVec.toNat_and, ofInt_nat ha, ofInt_nat hb]
  have : a &&& b < 2 ^ 64 := Nat.and_lt_two_pow _ (by omega)
  exact wrU (by omega) (by omega)
theorem or_nat {a b : Nat} (ha : a < 18446744073709551616) (hb : b < 18446744073709551616) : bitsI .or .u64 (a : Int) (b : Int) = ((a ||| b : Nat) : Int) := by
  show IntKind.u64.wrap ((BitVec.ofInt 64 (a : Int) ||| BitVec.ofInt 64 (b : Int)).toNat : Int) = _
  rw [BitVec.toNat_or, ofInt_nat ha, ofInt_nat hb]
  have : a ||| b < 2 ^ 64 := Nat.or_lt_two_pow (by omega) (by omega)
  exact wrU (by omega) (by omega)
theorem xor_nat {a b : Nat} (ha : a < 18446744073709551616) (hb : b < 18446744073709551616) : bitsI .xor .u64 (a : Int) (b : Int) = ((a ^^^ b : Nat) : Int) := by
  show IntKind.u64.wrap ((BitVec.ofInt 64 (a : Int) ^^^ BitVec.ofInt 64 (b : Int)).toNat : Int) = _
  rw [BitVec.toNat_xor, ofInt_nat ha, ofInt_nat hb]
  have : a ^^^ b < 2 ^ 64 := Nat.xor_lt_two_pow (by omega) (by omega)
  exact wrU (by omega) (by omega)
theorem row_and (p q : Nat → Bool) : bitsI .and .u64 (row p) (row q) = row fun y => p y && q y := by
  unfold row
  rw [and_nat (row_lt p) (row_lt q)]
  refine Int.ofNat_inj.2 (mkN_eq (Nat.and_lt_two_pow _ (row_lt q)) fun y hy => ?_)
  rw [Nat.testBit_and, mkN_bit, mkN_bit]; simp [hy]
theorem row_or (p q : Nat → Bool) : bitsI .or .u64 (row p) (row q) = row fun y => p y || q y := by
  unfold row
  rw [or_nat (row_lt p) (row_lt q)]
  refine Int.ofNat_inj.2 (mkN_eq (Nat.or_lt_two_pow (row_lt p) (row_lt q)) fun y hy => ?_)
  rw [Nat.testBit_or, mkN_bit, mkN_bit]; simp [hy]
theorem row_xor (p q : Nat → Bool) : bitsI .xor .u64 (row p) (row q) = row fun y => p y ^^ q y := by
  unfold row
  rw [xor_nat (row_lt p) (row_lt q)]
  refine Int.ofNat_inj.2 (mkN_eq (Nat.xor_lt_two_pow (row_lt p) (row_lt q)) fun y hy => ?_)
  rw [Nat.testBit_xor, mkN_bit, mkN_bit]; simp [hy]
theorem row_one {y : Nat} (hy : y < 64) : shl_ .u64 (1 : Int) (y : Int) = row fun z => z == y := by
  show IntKind.u64.wrap (1 * 2 ^ (min (y : Int).toNat 64)) = _
  have h2 : 2 ^ y < 2 ^ 64 := Nat.pow_lt_pow_right (by omega) hy
  have e : (1 : Int) * 2 ^ (min (y : Int).toNat 64) = ((2 ^ y : Nat) : Int) := by
    rw [Int.toNat_natCast, Nat.min_eq_left (by omega), Int.one_mul]; simp
  rw [e]
  have : IntKind.u64.wrap ((2 ^ y : Nat) : Int) = ((2 ^ y : Nat) : Int) := wrU (Int.natCast_nonneg _) (Int.ofNat_lt.2 h2)
  rw [this]
  unfold row
  refine Int.ofNat_inj.2 (mkN_eq h2 fun z hz => ?_)
  rw [Nat.testBit_two_pow]
  by_cases h : y = z
  · subst h; simp
  · have h' : ¬ z = y := fun e => h e.symm
    simp [h, h']
theorem row_zero : (0 : Int) = row fun _ => false := by unfold row; rw [mkN_zero fun _ _ => rfl]; rfl
theorem row_ones : (18446744073709551615 : Int) = row fun _ => true := by
  unfold row
  rw [← mkN_eq (x := 18446744073709551615) (p := fun _ => true) (n := 64) (by omega) fun y hy => ?_]
  · rfl
  · rw [show (18446744073709551615 : Nat) = 2 ^ 64 - 1 from rfl, Nat.testBit_two_pow_sub_one]; simp [hy]
theorem shr_nat {v y : Nat} (hy : y ≤ 64) : shr_ .u64 (v : Int) (y : Int) = ((v / 2 ^ y : Nat) : Int) := by
  show Int.fdiv (v : Int) (2 ^ (min (y : Int).toNat 64)) = _
  rw [Int.toNat_natCast, Nat.min_eq_left hy]
  rw [show (2 : Int) ^ y = ((2 ^ y : Nat) : Int) by simp]
  rw [Int.fdiv_eq_ediv_of_nonneg _ (Int.natCast_nonneg _)]
  exact (Int.natCast_ediv _ _).symm
theorem row_bit (p : Nat → Bool) {y : Nat} (hy : y < 64) : (bitsI .and .u64 (shr_ .u64 (row p) (y : Int)) (1 : Int) == (1 : Int)) = p y := by
  unfold row
  rw [shr_nat (by omega), show (1 : Int) = ((1 : Nat) : Int) from rfl, and_nat (Nat.lt_of_le_of_lt (Nat.div_le_self _ _) (row_lt p)) (by omega)]
  have e : (mkN p 64 / 2 ^ y) &&& 1 = ((mkN p 64).testBit y).toNat := by
    rw [Nat.and_one_is_mod, Nat.toNat_testBit]
  rw [e, mkN_bit]
  simp only [hy, decide_true, Bool.true_and]
  cases p y <;> rfl
theorem row_ne (p : Nat → Bool) : (row p != (0 : Int)) = (List.range 64).any p := by
  rw [Bool.eq_iff_iff]
  simp only [bne_iff_ne, ne_eq, List.any_eq_true, List.mem_range]
  constructor
  · intro h
    apply Classical.byContradiction
    intro hn
    apply h
    unfold row
    rw [mkN_zero fun y hy => by
      cases e : p y with
      | false => rfl
      | true => exact absurd ⟨y, hy, e⟩ hn]
    rfl
  · rintro ⟨y, hy, e⟩ h0
    have : mkN p 64 = 0 := by unfold row at h0; omega
    have h2 := mkN_bit p 64 y
    rw [this] at h2
    simp [hy, e] at h2
/-- The bits from one to another. -/
theorem row_span {l h : Nat} (h1 : l ≤ h) (h2 : h ≤ 63) : (((2 ^ (h + 1 - l) - 1) * 2 ^ l : Nat) : Int) = row fun z => decide (l ≤ z ∧ z ≤ h) := by
  unfold row
  refine Int.ofNat_inj.2 (mkN_eq ?_ fun z hz => ?_)
  · have : (2 ^ (h + 1 - l) - 1) * 2 ^ l < 2 ^ (h + 1 - l) * 2 ^ l := Nat.mul_lt_mul_of_pos_right (by have := Nat.pow_pos (n := h + 1 - l) (show 0 < 2 by omega); omega) (Nat.pow_pos (by omega))
    rw [← Nat.pow_add, show h + 1 - l + l = h + 1 by omega] at this
    exact Nat.lt_of_lt_of_le this (Nat.pow_le_pow_right (by omega) (by omega))
  · rw [← Nat.shiftLeft_eq, Nat.testBit_shiftLeft, Nat.testBit_two_pow_sub_one]
    rw [Bool.eq_iff_iff]
    simp only [Bool.and_eq_true, decide_eq_true_eq]
    omega
theorem shl_nat {v y : Nat} (hy : y < 64) (hv : v * 2 ^ y < 18446744073709551616) : shl_ .u64 (v : Int) (y : Int) = ((v * 2 ^ y : Nat) : Int) := by
  show IntKind.u64.wrap ((v : Int) * 2 ^ (min (y : Int).toNat 64)) = _
  have e : (v : Int) * 2 ^ (min (y : Int).toNat 64) = ((v * 2 ^ y : Nat) : Int) := by
    rw [Int.toNat_natCast, Nat.min_eq_left (by omega)]; simp
  rw [e]
  exact wrU (Int.natCast_nonneg _) (Int.ofNat_lt.2 hv)
theorem ones_shr {k : Nat} (hk : k ≤ 64) : (18446744073709551615 / 2 ^ k : Nat) = 2 ^ (64 - k) - 1 := by
  have h1 : 2 ^ 64 = 2 ^ (64 - k) * 2 ^ k := by rw [← Nat.pow_add, Nat.sub_add_cancel hk]
  have hp : 0 < 2 ^ k := Nat.pow_pos (by omega)
  have hq : 0 < 2 ^ (64 - k) := Nat.pow_pos (by omega)
  generalize 2 ^ (64 - k) = a at *
  generalize 2 ^ k = b at *
  have h2 : 18446744073709551615 = a * b - 1 := by omega
  rw [h2]
  apply Nat.div_eq_of_lt_le
  · rw [Nat.sub_mul]; omega
  · rw [Nat.sub_add_cancel (by omega)]
    have : 0 < a * b := Nat.mul_pos hq hp
    omega
theorem span_impl {l h : Nat} (h1 : l ≤ h) (h2 : h ≤ 63) : shl_ .u64 (shr_ .u64 (18446744073709551615 : Int) (63 - (h : Int) + (l : Int))) (l : Int) = row fun z => decide (l ≤ z ∧ z ≤ h) := by
  rw [show (63 - (h : Int) + (l : Int)) = ((63 - h + l : Nat) : Int) by omega, show (18446744073709551615 : Int) = ((18446744073709551615 : Nat) : Int) from rfl, shr_nat (by omega), ones_shr (by omega), show 64 - (63 - h + l) = h + 1 - l by omega]
  have := row_span h1 h2
  have hlt : (2 ^ (h + 1 - l) - 1) * 2 ^ l < 18446744073709551616 := by
    have h3 := row_lt fun z => decide (l ≤ z ∧ z ≤ h)
    unfold row at this; omega
  rw [shl_nat (by omega) hlt]
  exact this
theorem span_spec {l h : Nat} (h1 : l ≤ h) (h2 : h ≤ 63) : shl_ .u64 (shr_ .u64 (shr_ .u64 (18446744073709551615 : Int) (63 - (h : Int))) (l : Int)) (l : Int) = row fun z => decide (l ≤ z ∧ z ≤ h) := by
  rw [show (63 - (h : Int)) = ((63 - h : Nat) : Int) by omega, show (18446744073709551615 : Int) = ((18446744073709551615 : Nat) : Int) from rfl, shr_nat (by omega), shr_nat (by omega), Nat.div_div_eq_div_mul, ← Nat.pow_add, ones_shr (by omega), show 64 - (63 - h + l) = h + 1 - l by omega]
  have := row_span h1 h2
  have hlt : (2 ^ (h + 1 - l) - 1) * 2 ^ l < 18446744073709551616 := by
    have h3 := row_lt fun z => decide (l ≤ z ∧ z ≤ h)
    unfold row at this; omega
  rw [shl_nat (by omega) hlt]
  exact this
/-- The first bit of a row; 64 if there is none. -/
def fstZ (p : Nat → Bool) : Nat := ((List.range 64).find? p).getD 64
theorem ctzF : ∀ (f x : Nat), Lib.ctzFrom f x = ((List.range f).find? x.testBit).getD f
  | 0, x => by simp [Lib.ctzFrom]
  | f + 1, x => by
    rw [List.range_succ_eq_map, List.find?_cons]
    unfold Lib.ctzFrom
    by_cases h : x % 2 = 1
    · rw [if_pos h]
      have : x.testBit 0 = true := by simp [Nat.testBit_zero, h]
      rw [this]; rfl
    · rw [if_neg h]
      have : x.testBit 0 = false := by simp [Nat.testBit_zero]; omega
      rw [this, ctzF f (x / 2), List.find?_map]
      have e : (x.testBit ∘ Nat.succ) = (x / 2).testBit := by
        funext i; simp [Nat.testBit_succ]
      rw [e]
      cases (List.range f).find? (x / 2).testBit <;> simp <;> omega
theorem find_congr {α : Type} {p q : α → Bool} : ∀ {l : List α}, (∀ x ∈ l, p x = q x) → l.find? p = l.find? q
  | [], _ => rfl
  | a :: l, h => by rw [List.find?_cons, List.find?_cons, h a (by simp), find_congr fun x hx => h x (by simp [hx])]
theorem row_ctz (p : Nat → Bool) : Lib.ctz 64 (row p).toNat = fstZ p := by
  unfold row
  rw [Int.toNat_natCast]
  have e : (List.range 64).find? (mkN p 64).testBit = (List.range 64).find? p := by
    apply find_congr
    intro y hy
    rw [mkN_bit]; simp [List.mem_range.1 hy]
  unfold Lib.ctz fstZ
  split
  · rename_i h0
    have : (List.range 64).find? p = none := by
      rw [← e, h0, List.find?_eq_none]; simp
    rw [this]; rfl
  · rw [ctzF, e]
theorem fstZ_some {p : Nat → Bool} (h : (List.range 64).any p = true) : fstZ p < 64 ∧ p (fstZ p) = true ∧ ∀ z, z < fstZ p → p z = false := by
  obtain ⟨y, hy, hp⟩ := List.any_eq_true.1 h
  unfold fstZ
  cases e : (List.range 64).find? p with
  | none => rw [List.find?_eq_none] at e; exact absurd hp (e y hy)
  | some z =>
    have h1 := List.find?_some e
    have h2 := List.mem_range.1 (List.mem_of_find?_eq_some e)
    refine ⟨h2, h1, fun w hw => ?_⟩
    have h3 := (List.find?_eq_some_iff_getElem.1 e).2
    obtain ⟨i, hi, e1, e2⟩ := h3
    simp only [List.getElem_range] at e1
    subst e1
    have := e2 w hw
    simpa using this
end Go.Cams


/- Stretches: which heights may follow, what can be reached, and fillings, in plain terms. -/
namespace Go.Cams
open Go Go.Fw
def hgt (c : List Int) (lo s : Int) : Int := cAt c s - lo
/-- May the height z come behind x and y, within the bound b? -/
def sp (b : Int) (x y z : Nat) : Bool := decide (2 * (y : Int) - x - b ≤ z ∧ (z : Int) ≤ 2 * (y : Int) - x + b)
/-- May the step k of a stretch have the height z? -/
def al (c : List Int) (f m lo : Int) (k z : Nat) : Bool := decide ((k : Int) < m) || decide ((z : Int) = hgt c lo (f + k))
def qq (c : List Int) (f m lo b : Int) (k x y z : Nat) : Bool := sp b x y z && al c f m lo k z
/-- Can one go on for d steps? -/
def can (q : Nat → Nat → Nat → Nat → Bool) : Nat → Nat → Nat → Nat → Bool
  | 0, _, _, _ => true
  | d + 1, k, x, y => (List.range 64).any fun z => q k x y z && can q d (k + 1) y z
/-- Is a pair reached with i steps? -/
def fwd (q : Nat → Nat → Nat → Nat → Bool) (x0 y0 : Nat) : Nat → Nat → Nat → Bool
  | 0, x, y => x == x0 && y == y0
  | i + 1, y, z => (List.range 64).any fun x => fwd q x0 y0 i x y && q i x y z
theorem any64 {p : Nat → Bool} : (List.range 64).any p = true ↔ ∃ z, z < 64 ∧ p z = true := by
  rw [List.any_eq_true]
  constructor
  · rintro ⟨z, hz, h⟩; exact ⟨z, List.mem_range.1 hz, h⟩
  · rintro ⟨z, hz, h⟩; exact ⟨z, List.mem_range.2 hz, h⟩
def askP (c : List Int) (f m lo b : Int) : Int :=
  if okC c = false then 1
  else if (inR f 0 ((c.length : Int) - 1) && inR m 1 (min 40 ((c.length : Int) - 4)) && inR lo 0 9937 && inR b 0 40000) = false then 2
  else if (inR (hgt c lo (f - 2)) 0 63 && inR (hgt c lo (f - 1)) 0 63 && inR (hgt c lo (f + m)) 0 63 && inR (hgt c lo (f + m + 1)) 0 63) = false then 4 else 0
structure GoodS (c : List Int) (f m lo b : Int) : Prop where
  ok : okC c = true
  hf : 0 ≤ f ∧ f < c.length
  hm : 1 ≤ m ∧ m ≤ 40
  hm2 : m ≤ c.length - 4
  hlo : 0 ≤ lo ∧ lo ≤ 9937
  hb : 0 ≤ b ∧ b ≤ 40000
  h1 : 0 ≤ hgt c lo (f - 2) ∧ hgt c lo (f - 2) ≤ 63
  h2 : 0 ≤ hgt c lo (f - 1) ∧ hgt c lo (f - 1) ≤ 63
  h3 : 0 ≤ hgt c lo (f + m) ∧ hgt c lo (f + m) ≤ 63
  h4 : 0 ≤ hgt c lo (f + m + 1) ∧ hgt c lo (f + m + 1) ≤ 63
theorem goodS {c : List Int} {f m lo b : Int} (h : askP c f m lo b = 0) : GoodS c f m lo b := by
  unfold askP at h
  split at h
  · exact absurd h (by decide)
  rename_i h0
  split at h
  · exact absurd h (by decide)
  rename_i h1
  split at h
  · exact absurd h (by decide)
  rename_i h2
  simp only [Bool.not_eq_false, Bool.and_eq_true, inR_iff] at h0 h1 h2
  obtain ⟨⟨⟨a1, a2⟩, a3⟩, a4⟩ := h1
  obtain ⟨⟨⟨b1, b2⟩, b3⟩, b4⟩ := h2
  exact ⟨h0, by omega, by omega, by omega, a3, a4, b1, b2, b3, b4⟩
theorem GoodS.len {c : List Int} {f m lo b : Int} (h : GoodS c f m lo b) : 8 ≤ (c.length : Int) ∧ (c.length : Int) ≤ 360 := okC_len h.ok
def px (c : List Int) (f lo : Int) : Nat := (hgt c lo (f - 2)).toNat
def py (c : List Int) (f lo : Int) : Nat := (hgt c lo (f - 1)).toNat
theorem GoodS.px {c : List Int} {f m lo b : Int} (h : GoodS c f m lo b) : hgt c lo (f - 2) = (px c f lo : Nat) ∧ Cams.px c f lo < 64 := by have := h.h1; unfold Cams.px; omega
theorem GoodS.py {c : List Int} {f m lo b : Int} (h : GoodS c f m lo b) : hgt c lo (f - 1) = (py c f lo : Nat) ∧ Cams.py c f lo < 64 := by have := h.h2; unfold Cams.py; omega
theorem GoodS.fix {c : List Int} {f m lo b : Int} (h : GoodS c f m lo b) {k : Nat} (h0 : ¬ (k : Int) < m) (h1 : (k : Int) ≤ m + 1) : 0 ≤ hgt c lo (f + k) ∧ hgt c lo (f + k) ≤ 63 := by
  by_cases e : (k : Int) = m
  · rw [e]; exact h.h3
  · rw [show f + (k : Int) = f + m + 1 by omega]; exact h.h4
/-- Can a stretch be filled? -/
def cq (c : List Int) (f m lo b : Int) : Bool := can (qq c f m lo b) (m.toNat + 2) 0 (px c f lo) (py c f lo)
/-- The least lifts that fill a stretch. -/
def fil (q : Nat → Nat → Nat → Nat → Bool) (lo : Int) (M : Nat) : Nat → Nat → Nat → Nat → List Int
  | 0, _, _, _ => []
  | d + 1, k, x, y => (lo + (fstZ fun z => q k x y z && can q (M - (k + 1)) (k + 1) y z : Nat)) :: fil q lo M d (k + 1) y (fstZ fun z => q k x y z && can q (M - (k + 1)) (k + 1) y z)
theorem fil_len (q : Nat → Nat → Nat → Nat → Bool) (lo : Int) (M : Nat) : ∀ d k x y, (fil q lo M d k x y).length = d
  | 0, _, _, _ => rfl
  | d + 1, k, x, y => by simp [fil, fil_len q lo M d]
def filP (c : List Int) (f m lo b : Int) : List Int := fil (qq c f m lo b) lo (m.toNat + 2) m.toNat 0 (px c f lo) (py c f lo)
def fillR (c : List Int) (f m lo b : Int) : List Int × (Bool × Unit) := if cq c f m lo b = true then (filP c f m lo b, true, ()) else ([], false, ())
/-- The least number for which something holds, by halving. -/
def bs (P : Int → Bool) : Nat → Int → Int → Int
  | 0, lo, _ => lo
  | n + 1, lo, hi => if lo < hi then (if P ((lo + hi) / 2) = true then bs P n lo ((lo + hi) / 2) else bs P n ((lo + hi) / 2 + 1) hi) else lo
abbrev RL2 : Type := List Int × (Int × Unit)
def fwR (c : List Int) (f m lo b : Int) : RL2 := if askP c f m lo b ≠ 0 then ([], askP c f m lo b, ()) else if cq c f m lo b = true then (filP c f m lo b, 0, ()) else ([], 6, ())

/-! ### The spans -/
theorem may_val {A B : Int} (hA : 0 ≤ A) (hB : B ≤ 63) (hAB : ¬ A > B) : shl_ .u64 (shr_ .u64 (shr_ .u64 (18446744073709551615 : Int) (wr .u64 (wr .i64 (63 - B)))) (wr .u64 A)) (wr .u64 A) = row fun z => decide (A ≤ z ∧ (z : Int) ≤ B) := by
  obtain ⟨a, rfl⟩ : ∃ a : Nat, A = a := ⟨A.toNat, by omega⟩
  obtain ⟨b, rfl⟩ : ∃ b : Nat, B = b := ⟨B.toNat, by omega⟩
  rw [wrap_id (x := 63 - (b : Int)) (by omega) (by omega), wrU (x := 63 - (b : Int)) (by omega) (by omega), wrU (x := (a : Int)) (by omega) (by omega), span_spec (by omega) (by omega)]
  exact row_congr fun y hy => by simp
theorem span_val {A B : Int} (hA : 0 ≤ A) (hB : B ≤ 63) (hAB : ¬ A > B) : shl_ .u64 (shr_ .u64 (18446744073709551615 : Int) (wr .i64 (wr .i64 (63 - B) + A))) A = row fun z => decide (A ≤ z ∧ (z : Int) ≤ B) := by
  obtain ⟨a, rfl⟩ : ∃ a : Nat, A = a := ⟨A.toNat, by omega⟩
  obtain ⟨b, rfl⟩ : ∃ b : Nat, B = b := ⟨B.toNat, by omega⟩
  rw [wrap_id (x := 63 - (b : Int)) (by omega) (by omega), wrap_id (x := 63 - (b : Int) + (a : Int)) (by omega) (by omega), span_impl (by omega) (by omega)]
  exact row_congr fun y hy => by simp
theorem row_none {p : Nat → Bool} (h : ∀ y, y < 64 → p y = false) : row p = 0 := by rw [row_zero]; exact row_congr h

/-! ### Grids that are being made -/
/-- A grid of rows. -/
def gR (t : Nat → Nat → Bool) : List Int := tb 64 fun x => row (t x)
theorem gR_len (t : Nat → Nat → Bool) : (gR t).length = 64 := tb_len _ _
theorem gR_get (t : Nat → Nat → Bool) {x : Nat} (hx : x < 64) : (gR t)[x]? = some (row (t x)) := tb_get hx
theorem gR_ext {t u : Nat → Nat → Bool} (h : ∀ x y, x < 64 → y < 64 → t x y = u x y) : gR t = gR u := tb_ext fun x hx => row_congr fun y hy => h x y hx hy
theorem gR_zero : List.replicate 64 (0 : Int) = gR fun _ _ => false := by rw [tb_rep]; exact tb_ext fun _ _ => row_zero
theorem gR_set (t : Nat → Nat → Bool) (x : Nat) (p : Nat → Bool) : (gR t).set x (row p) = gR fun x' y' => if x' = x then p y' else t x' y' := by
  unfold gR
  rw [tb_set]
  refine tb_ext fun j _ => ?_
  by_cases h : j = x
  · simp [h]
  · simp [h]
/-- What is told of the pairs ahead of x, y. -/
def pg (t : Nat → Nat → Bool) (x y : Nat) : List Int := gR fun x' y' => (decide (x' < x) || (x' == x && decide (y' < y))) && t x' y'
theorem pg_zero (t : Nat → Nat → Bool) : pg t 0 0 = List.replicate 64 (0 : Int) := by
  rw [gR_zero]; exact gR_ext fun x y _ _ => by simp
theorem pg_next (t : Nat → Nat → Bool) (x : Nat) : pg t x 64 = pg t (x + 1) 0 := gR_ext fun x' y' _ hy => by
  have e : decide (y' < 64) = true := decide_eq_true hy
  rw [e]
  congr 1
  rw [Bool.eq_iff_iff]
  simp
  omega
theorem pg_full (t : Nat → Nat → Bool) : pg t 64 0 = gR t := gR_ext fun x y hx _ => by simp [hx]
theorem pg_get (t : Nat → Nat → Bool) {x y : Nat} (hx : x < 64) : (pg t x y)[x]? = some (row fun y' => decide (y' < y) && t x y') := by
  unfold pg
  rw [gR_get _ hx]
  exact congrArg some (row_congr fun y' _ => by simp)
theorem pg_skip {t : Nat → Nat → Bool} {x y : Nat} (h : t x y = false) : pg t x y = pg t x (y + 1) := gR_ext fun x' y' _ _ => by
  by_cases h1 : x' = x
  · subst h1
    by_cases h2 : y' = y
    · subst h2; simp [h]
    · rw [Bool.eq_iff_iff]
      simp
      intro _
      omega
  · have : (x' == x) = false := by simpa using h1
    rw [this]; simp
theorem pg_put {t : Nat → Nat → Bool} {x y : Nat} (hy : y < 64) (h : t x y = true) : (pg t x y).set x (bitsI .or .u64 (row fun y' => decide (y' < y) && t x y') (shl_ .u64 (1 : Int) (y : Int))) = pg t x (y + 1) := by
  rw [row_one hy, row_or]
  unfold pg
  rw [gR_set]
  refine gR_ext fun x' y' _ _ => ?_
  by_cases h1 : x' = x
  · subst h1
    rw [if_pos rfl]
    by_cases h2 : y' = y
    · subst h2; simp [h]
    · rw [Bool.eq_iff_iff]
      simp [h2]
      intro _
      omega
  · have : (x' == x) = false := by simpa using h1
    rw [if_neg h1, this]; simp
end Go.Cams
namespace Go.Cams
open Go Go.Fw
theorem row_has (p : Nat → Bool) {y : Nat} (hy : y < 64) : (bitsI .and .u64 (row p) (shl_ .u64 (1 : Int) (y : Int)) != (0 : Int)) = p y := by
  rw [row_one hy, row_and, row_ne, Bool.eq_iff_iff, any64]
  constructor
  · rintro ⟨z, _, h⟩
    simp only [Bool.and_eq_true, beq_iff_eq] at h
    rw [← h.2]; exact h.1
  · intro h
    exact ⟨y, hy, by simp [h]⟩
/-- What is left of a grid whose pairs ahead of x, y have been looked at. -/
def pm (F t : Nat → Nat → Bool) (x y : Nat) : List Int := gR fun x' y' => F x' y' && (!(decide (x' < x) || (x' == x && decide (y' < y))) || t x' y')
theorem pm_zero (F t : Nat → Nat → Bool) : pm F t 0 0 = gR F := gR_ext fun x y _ _ => by simp
theorem pm_next (F t : Nat → Nat → Bool) (x : Nat) : pm F t x 64 = pm F t (x + 1) 0 := gR_ext fun x' y' _ hy => by
  congr 2
  congr 1
  rw [Bool.eq_iff_iff]
  simp
  omega
theorem pm_full (F t : Nat → Nat → Bool) : pm F t 64 0 = gR fun x y => F x y && t x y := gR_ext fun x y hx _ => by simp [hx]
theorem pm_get (F t : Nat → Nat → Bool) {x y : Nat} (hx : x < 64) : (pm F t x y)[x]? = some (row fun y' => F x y' && (!decide (y' < y) || t x y')) := by
  unfold pm
  rw [gR_get _ hx]
  exact congrArg some (row_congr fun y' _ => by simp)
theorem pm_skip {F t : Nat → Nat → Bool} {x y : Nat} (h : F x y = false ∨ t x y = true) : pm F t x y = pm F t x (y + 1) := gR_ext fun x' y' _ _ => by
  by_cases h1 : x' = x
  · subst h1
    by_cases h2 : y' = y
    · subst h2
      rcases h with h | h <;> simp [h]
    · have : decide (y' < y) = decide (y' < y + 1) := by rw [decide_eq_decide]; omega
      rw [this]
  · have : (x' == x) = false := by simpa using h1
    rw [this]; simp
theorem pm_cut {F t : Nat → Nat → Bool} {x y : Nat} (hy : y < 64) (h : F x y = true) (ht : t x y = false) : (pm F t x y).set x (bitsI .xor .u64 (row fun y' => F x y' && (!decide (y' < y) || t x y')) (shl_ .u64 (1 : Int) (y : Int))) = pm F t x (y + 1) := by
  rw [row_one hy, row_xor]
  unfold pm
  rw [gR_set]
  refine gR_ext fun x' y' _ _ => ?_
  by_cases h1 : x' = x
  · subst h1
    rw [if_pos rfl]
    by_cases h2 : y' = y
    · subst h2; simp [h, ht]
    · have e : decide (y' < y) = decide (y' < y + 1) := by rw [decide_eq_decide]; omega
      have e2 : (y' == y) = false := by simpa using h2
      rw [e, e2]; simp
  · have : (x' == x) = false := by simpa using h1
    rw [if_neg h1, this]; simp
end Go.Cams
namespace Go.Cams
open Go Go.Fw
theorem bit_or (p : Nat → Bool) {y : Nat} (hy : y < 64) : bitsI .and .u64 (shr_ .u64 (row p) (y : Int)) (1 : Int) = 0 ∨ bitsI .and .u64 (shr_ .u64 (row p) (y : Int)) (1 : Int) = 1 := by
  unfold row
  rw [shr_nat (by omega), show (1 : Int) = ((1 : Nat) : Int) from rfl, and_nat (Nat.lt_of_le_of_lt (Nat.div_le_self _ _) (row_lt p)) (by omega), Nat.and_one_is_mod]
  omega
theorem fwR_len (c : List Int) (f m lo b : Int) : ((fwR c f m lo b).1.length : Int) ≤ 40 := by
  unfold fwR
  split
  · simp
  · rename_i h
    have G := goodS (c := c) (f := f) (m := m) (lo := lo) (b := b) (by simpa using h)
    split
    · have := G.hm
      show ((filP c f m lo b).length : Int) ≤ 40
      unfold filP
      rw [fil_len]; omega
    · simp
end Go.Cams


/- Fillings that are put into cams, and repairs, in plain terms. -/
namespace Go.Cams
open Go Go.Fw
/-- Lifts that are put into a cam from a step on. -/
def putP : List Int → Int → List Int → List Int
  | c, _, [] => c
  | c, f, v :: r => putP (c.set (f % c.length).toNat (wr .i16 v)) (f + 1) r
theorem putP_len : ∀ (l : List Int) (c : List Int) (f : Int), (putP c f l).length = c.length
  | [], c, f => rfl
  | v :: r, c, f => by
    show (putP (c.set (f % c.length).toNat (wr .i16 v)) (f + 1) r).length = _
    rw [putP_len r, List.length_set]
theorem putP_all {Q : Int → Prop} : ∀ (l : List Int) (c : List Int) (f : Int), (∀ v ∈ c, Q v) → (∀ v ∈ l, Q (wr .i16 v)) → ∀ v ∈ putP c f l, Q v
  | [], c, f, hc, _ => hc
  | a :: r, c, f, hc, hl => by
    show ∀ v ∈ putP (c.set (f % c.length).toNat (wr .i16 a)) (f + 1) r, Q v
    refine putP_all r _ _ (fun v hv => ?_) fun v hv => hl v (by simp [hv])
    rcases List.mem_or_eq_of_mem_set hv with h | h
    · exact hc v h
    · rw [h]; exact hl a (by simp)
theorem putP_snoc : ∀ (l : List Int) (c : List Int) (f v : Int), putP c f (l ++ [v]) = (putP c f l).set ((f + l.length) % c.length).toNat (wr .i16 v)
  | [], c, f, v => by show c.set _ _ = _; rw [show (f + (([] : List Int).length : Int)) = f by simp]; rfl
  | a :: r, c, f, v => by
    show putP (c.set (f % c.length).toNat (wr .i16 a)) (f + 1) (r ++ [v]) = (putP (c.set (f % c.length).toNat (wr .i16 a)) (f + 1) r).set _ _
    rw [putP_snoc r, List.length_set, show f + 1 + (r.length : Int) = f + ((a :: r).length : Int) by simp only [List.length_cons]; omega]
theorem wr16_in (v : Int) : -32768 ≤ wr .i16 v ∧ wr .i16 v ≤ 32767 := by
  show -32768 ≤ IntKind.i16.wrap v ∧ IntKind.i16.wrap v ≤ 32767
  simp [IntKind.wrap, IntKind.bits, IntKind.signed]
  omega
theorem putP_rng {c : List Int} (h : Rng c) (f : Int) (l : List Int) : Rng (putP c f l) :=
  ⟨by rw [putP_len]; exact h.len, putP_all (Q := fun v => -32768 ≤ v ∧ v ≤ 32767) l c f h.el fun v _ => wr16_in v⟩
/-- The bend at a step. -/
def bendP (c : List Int) (i : Int) : Int := cAt c (i + 1) - 2 * cAt c i + cAt c (i - 1)
/-- A step of a repair. -/
def rpS (b lo : Int) (s : List Int × List Int) (i : Nat) : List Int × List Int :=
  if siz (bendP s.1 i) ≤ b then s
  else if askP s.1 (((i : Int) - 1) % s.1.length) 3 lo b = 0 ∧ cq s.1 (((i : Int) - 1) % s.1.length) 3 lo b = true then (putP s.1 (((i : Int) - 1) % s.1.length) (filP s.1 (((i : Int) - 1) % s.1.length) 3 lo b), s.2 ++ [(i : Int)]) else s
def rp (b lo : Int) (c : List Int) : Nat → List Int × List Int
  | 0 => (c, [])
  | k + 1 => rpS b lo (rp b lo c k) k
theorem fil_el {q : Nat → Nat → Nat → Nat → Bool} {lo : Int} {M : Nat} : ∀ (d k x y : Nat), d + k ≤ M → can q (M - k) k x y = true → ∀ v ∈ fil q lo M d k x y, lo ≤ v ∧ v ≤ lo + 63
  | 0, _, _, _, _, _, v, hv => by cases hv
  | d + 1, k, x, y, hM, hc, v, hv => by
    rw [show M - k = (M - (k + 1)) + 1 by omega] at hc
    obtain ⟨z1, z2, _⟩ := fstZ_some (p := fun z => q k x y z && can q (M - (k + 1)) (k + 1) y z) hc
    simp only [Bool.and_eq_true] at z2
    rcases List.mem_cons.1 hv with h | h
    · rw [h]; omega
    · exact fil_el d (k + 1) y _ (by omega) z2.2 v h
theorem filP_el {c : List Int} {f m lo b : Int} (h : cq c f m lo b = true) : ∀ v ∈ filP c f m lo b, lo ≤ v ∧ v ≤ lo + 63 := fil_el _ 0 _ _ (by omega) h
theorem okC_put {c : List Int} (hr : Rng c) (h : okC c = true) {f lo : Int} {l : List Int} (l0 : 0 ≤ lo) (l1 : lo ≤ 9937) (hl : ∀ v ∈ l, lo ≤ v ∧ v ≤ lo + 63) : okC (putP c f l) = true := by
  have h1 := okC_len h
  have h2 := okC_el h hr
  simp only [okC, Bool.and_eq_true, inR_iff, List.all_eq_true, okV]
  rw [putP_len]
  refine ⟨h1, putP_all (Q := fun v => 0 ≤ wr .i64 v ∧ wr .i64 v ≤ 10000) l c f (fun v hv => ?_) fun v hv => ?_⟩
  · rw [hr.id hv]; exact h2 v hv
  · have := hl v hv
    rw [wrap16 (by omega) (by omega), wrap_id (by omega) (by omega)]
    omega
structure GoodR (c : List Int) (s : List Int × List Int) (k : Nat) : Prop where
  ok : okC s.1 = true
  rng : Rng s.1
  len : s.1.length = c.length
  many : s.2.length ≤ k
theorem rp_good {c : List Int} (hr : Rng c) (h : okC c = true) {b lo : Int} (l0 : 0 ≤ lo) (l1 : lo ≤ 9937) : ∀ k, GoodR c (rp b lo c k) k
  | 0 => ⟨h, hr, rfl, Nat.le_refl _⟩
  | k + 1 => by
    have G := rp_good hr h (b := b) l0 l1 k
    show GoodR c (rpS b lo (rp b lo c k) k) (k + 1)
    unfold rpS
    split
    · exact ⟨G.ok, G.rng, G.len, by have := G.many; omega⟩
    · split
      · rename_i h2
        exact ⟨okC_put G.rng G.ok l0 l1 (filP_el h2.2), putP_rng G.rng _ _, by show (putP _ _ _).length = _; rw [putP_len]; exact G.len, by show ((rp b lo c k).2 ++ [(k : Int)]).length ≤ _; rw [List.length_append]; have := G.many; simp only [List.length_cons, List.length_nil]; omega⟩
      · exact ⟨G.ok, G.rng, G.len, by have := G.many; omega⟩
abbrev RLLI : Type := List Int × (List Int × (Int × Unit))
def rpR (c : List Int) (b lo : Int) : RLLI := if okC c = false then ([], [], 1, ()) else if (inR b 0 40000 && inR lo 0 9937) = false then ([], [], 2, ()) else ((rp b lo c c.length).1, (rp b lo c c.length).2, 0, ())
theorem rpR_len {c : List Int} (hr : Rng c) (b lo : Int) : ((rpR c b lo).1.length : Int) ≤ 360 ∧ ((rpR c b lo).2.1.length : Int) ≤ 360 := by
  unfold rpR
  split
  · simp
  · rename_i h
    have h : okC c = true := by simpa using h
    have := okC_len h
    split
    · simp
    · rename_i h2
      simp only [Bool.not_eq_false, Bool.and_eq_true, inR_iff] at h2
      have G := rp_good hr h (b := b) (lo := lo) h2.2.1 h2.2.2 c.length
      have h3 := G.len
      have h4 := G.many
      show (((rp b lo c c.length).1.length : Nat) : Int) ≤ 360 ∧ (((rp b lo c c.length).2.length : Nat) : Int) ≤ 360
      omega
end Go.Cams
namespace Go.Cams
open Go Go.Fw
theorem fwR_zero (c : List Int) (f m lo b : Int) : ((fwR c f m lo b).2.1 == (0 : Int)) = true ↔ askP c f m lo b = 0 ∧ cq c f m lo b = true := by
  unfold fwR
  by_cases h : askP c f m lo b = 0
  · rw [if_neg (by simp [h])]
    cases hc : cq c f m lo b with
    | false => rw [if_neg (by simp)]; exact ⟨fun h => absurd h (by decide), fun h => absurd h.2 (by simp)⟩
    | true => rw [if_pos rfl]; exact ⟨fun _ => ⟨h, rfl⟩, fun _ => rfl⟩
  · rw [if_pos h]
    exact ⟨fun hh => absurd (by simpa using hh) h, fun hh => absurd hh.1 h⟩
end Go.Cams


/- Cuts that are done one behind another, in plain terms. -/
namespace Go.Cams
open Go Go.Fw
end Go.Cams


/- The number of bits of a word, in plain terms. -/
namespace Go.Cams
open Go Go.Fw
/-- The set bits among the first k. -/
def bct (x : Nat) : Nat → Nat
  | 0 => 0
  | k + 1 => bct x k + x / 2 ^ k % 2
theorem bct_le (x : Nat) : ∀ k, bct x k ≤ k
  | 0 => Nat.le_refl _
  | k + 1 => by have := bct_le x k; have := Nat.mod_lt (x / 2 ^ k) (show 0 < 2 by omega); simp only [bct]; omega
theorem bct_split (x : Nat) : ∀ k, bct x (8 + k) = bct (x % 256) 8 + bct (x / 256) k
  | 0 => by simp only [bct, Nat.add_zero]; omega
  | k + 1 => by
    have h := bct_split x k
    have e : x / 256 / 2 ^ k = x / 2 ^ (8 + k) := by rw [Nat.div_div_eq_div_mul, Nat.pow_add]
    show bct x (8 + k) + x / 2 ^ (8 + k) % 2 = bct (x % 256) 8 + (bct (x / 256) k + x / 256 / 2 ^ k % 2)
    rw [h, e]; omega
def msk (c : Nat) : Nat → Nat
  | 0 => 0
  | n + 1 => 256 * msk c n + c
theorem and_split {q a m c : Nat} (ha : a < 256) (hc : c < 256) : (256 * q + a) &&& (256 * m + c) = 256 * (q &&& m) + (a &&& c) := by
  have h1 := @Nat.and_mod_two_pow (256 * q + a) (256 * m + c) 8
  have h2 := @Nat.and_div_two_pow (256 * q + a) (256 * m + c) 8
  rw [show (256 * q + a) % 2 ^ 8 = a by omega, show (256 * m + c) % 2 ^ 8 = c by omega] at h1
  rw [show (256 * q + a) / 2 ^ 8 = q by omega, show (256 * m + c) / 2 ^ 8 = m by omega] at h2
  omega
def st1 (n x : Nat) : Nat := (x / 2 &&& msk 85 n) + (x &&& msk 85 n)
def st2 (n x : Nat) : Nat := (x / 4 &&& msk 51 n) + (x &&& msk 51 n)
def st3 (n x : Nat) : Nat := (x / 16 + x) &&& msk 15 n
def b1 (a : Nat) : Nat := (a / 2 &&& 85) + (a &&& 85)
def b2 (a : Nat) : Nat := (a / 4 &&& 51) + (a &&& 51)
def b3 (a : Nat) : Nat := (a / 16 + a) &&& 15
theorem bytes1 : (List.range 256).all (fun a => (decide (b1 a < 256) && decide ((128 + a / 2) &&& 85 = a / 2 &&& 85)) && (decide (b2 (b1 a) % 16 ≤ 4) && decide (b2 (b1 a) / 16 ≤ 4)) && decide (b3 (b2 (b1 a)) = bct a 8)) = true := by decide +kernel
theorem bytes2 : (List.range 256).all (fun a => (List.range 4).all fun r => decide ((64 * r + a / 4) &&& 51 = a / 4 &&& 51)) = true := by decide +kernel
theorem bytes3 : (List.range 256).all (fun a => (List.range 16).all fun r => decide ((16 * r + a) &&& 15 = a &&& 15)) = true := by decide +kernel
theorem byte1 {a : Nat} (h : a < 256) : b1 a < 256 ∧ (128 + a / 2) &&& 85 = a / 2 &&& 85 ∧ b2 (b1 a) % 16 ≤ 4 ∧ b2 (b1 a) / 16 ≤ 4 ∧ b3 (b2 (b1 a)) = bct a 8 := by
  have := List.all_eq_true.1 bytes1 a (List.mem_range.2 h)
  simp only [Bool.and_eq_true, decide_eq_true_eq] at this
  obtain ⟨⟨⟨c1, c2⟩, c3, c4⟩, c5⟩ := this
  exact ⟨c1, c2, c3, c4, c5⟩
theorem byte2 {a r : Nat} (h : a < 256) (hr : r < 4) : (64 * r + a / 4) &&& 51 = a / 4 &&& 51 := by
  have := List.all_eq_true.1 (List.all_eq_true.1 bytes2 a (List.mem_range.2 h)) r (List.mem_range.2 hr)
  simpa using this
theorem st1_step (n q : Nat) {a : Nat} (h : a < 256) : st1 (n + 1) (256 * q + a) = 256 * st1 n q + b1 a := by
  obtain ⟨c1, c2, _⟩ := byte1 h
  unfold st1 b1
  simp only [msk]
  rw [show (256 * q + a) / 2 = 256 * (q / 2) + (128 * (q % 2) + a / 2) by omega, and_split (by omega) (by omega), and_split h (by omega)]
  have : (128 * (q % 2) + a / 2) &&& 85 = a / 2 &&& 85 := by
    rcases Nat.mod_two_eq_zero_or_one q with e | e
    · rw [e]; simp
    · rw [e]; exact c2
  rw [this]; omega
theorem st2_step (n q : Nat) {a : Nat} (h : a < 256) : st2 (n + 1) (256 * q + a) = 256 * st2 n q + b2 a := by
  unfold st2 b2
  simp only [msk]
  rw [show (256 * q + a) / 4 = 256 * (q / 4) + (64 * (q % 4) + a / 4) by omega, and_split (by omega) (by omega), and_split h (by omega), byte2 h (Nat.mod_lt _ (by omega))]
  omega
theorem low4 : ∀ (n q : Nat), q < 256 ^ n → st2 n (st1 n q) % 16 ≤ 4
  | 0, q, h => by
    have : q = 0 := by simpa using h
    subst this
    decide
  | n + 1, q, h => by
    have h1 := Nat.mod_lt q (show 0 < 256 by omega)
    obtain ⟨c1, _, c3, _⟩ := byte1 h1
    have e : q = 256 * (q / 256) + q % 256 := by omega
    rw [e, st1_step _ _ h1, st2_step _ _ c1]
    omega
def ps (x : Nat) : Nat → Nat
  | 0 => 0
  | n + 1 => 256 * ps (x / 256) n + bct (x % 256) 8
theorem st_ps : ∀ (n x : Nat), x < 256 ^ n → st3 n (st2 n (st1 n x)) = ps x n
  | 0, x, h => by
    have : x = 0 := by simpa using h
    subst this
    decide
  | n + 1, x, h => by
    have h1 := Nat.mod_lt x (show 0 < 256 by omega)
    obtain ⟨c1, _, c3, c4, c5⟩ := byte1 h1
    have hq : x / 256 < 256 ^ n := by rw [Nat.pow_succ] at h; omega
    have hl := low4 n _ hq
    have ih := st_ps n _ hq
    have e : x = 256 * (x / 256) + x % 256 := by omega
    rw [show st1 (n + 1) x = 256 * st1 n (x / 256) + b1 (x % 256) by rw [← st1_step _ _ h1, ← e], st2_step _ _ c1]
    obtain ⟨u, hu⟩ : ∃ u, u = st2 n (st1 n (x / 256)) := ⟨_, rfl⟩
    obtain ⟨v, hv⟩ : ∃ v, v = b2 (b1 (x % 256)) := ⟨_, rfl⟩
    rw [← hu] at hl ih ⊢
    rw [← hv] at c3 c4 c5 ⊢
    unfold st3 at ih ⊢
    simp only [msk, ps]
    rw [show (256 * u + v) / 16 + (256 * u + v) = 256 * (u / 16 + u) + (16 * (u % 16) + (v / 16 + v)) by omega, and_split (by omega) (by omega), ih]
    have h3 : (16 * (u % 16) + (v / 16 + v)) &&& 15 = (v / 16 + v) &&& 15 := by
      have := List.all_eq_true.1 (List.all_eq_true.1 bytes3 (v / 16 + v) (List.mem_range.2 (by omega))) (u % 16) (List.mem_range.2 (by omega))
      simpa using this
    rw [h3]
    unfold b3 at c5
    rw [c5]
theorem msk_55 : msk 85 8 = 6148914691236517205 := by decide
theorem msk_33 : msk 51 8 = 3689348814741910323 := by decide
theorem msk_0f : msk 15 8 = 1085102592571150095 := by decide
theorem bct_last (x : Nat) : bct x 8 = bct (x % 256) 8 := bct_split x 0
theorem ps_le (x : Nat) (n : Nat) : bct (x % 256) 8 ≤ 8 := bct_le _ 8
theorem step_pair {Y0 Y1 Y2 p q : Nat} (h0 : Y0 = 256 * Y1 + p) (h1 : Y1 = 256 * Y2 + q) : Y0 = 65536 * Y2 + (256 * q + p) := by omega
theorem half1 {x A p : Nat} (h : x = 256 * A + p) (hp : p ≤ 8) : x / 256 = A := by omega
theorem half2 {y Y a : Nat} (h : y = 65536 * Y + a) (ha : a < 65536) : y / 65536 = Y := by omega
theorem half3 {z Z a : Nat} (h : z = 4294967296 * Z + a) (ha : a < 4294967296) : z / 4294967296 = Z := by omega
/-- The bytes' sums are folded into the lowest. -/
theorem fold_ps (x : Nat) : ∃ y z t, y = ps x 8 + ps x 8 / 256 ∧ z = y + y / 65536 ∧ t = z + z / 4294967296 ∧ ps x 8 < 18446744073709551616 ∧ y < 18446744073709551616 ∧ z < 18446744073709551616 ∧ t < 9223372036854775808 ∧ t % 128 = bct x 64 := by
  have l := fun y => ps_le y 8
  have A0 : ps x 8 = 256 * ps (x / 256) 7 + bct (x % 256) 8 := rfl
  have c0 : bct x 64 = bct (x % 256) 8 + bct (x / 256) 56 := bct_split x 56
  obtain ⟨x1, e1⟩ : ∃ x1, x1 = x / 256 := ⟨_, rfl⟩
  rw [← e1] at A0 c0
  have A1 : ps x1 7 = 256 * ps (x1 / 256) 6 + bct (x1 % 256) 8 := rfl
  have c1 : bct x1 56 = bct (x1 % 256) 8 + bct (x1 / 256) 48 := bct_split x1 48
  obtain ⟨x2, e2⟩ : ∃ x2, x2 = x1 / 256 := ⟨_, rfl⟩
  rw [← e2] at A1 c1
  have A2 : ps x2 6 = 256 * ps (x2 / 256) 5 + bct (x2 % 256) 8 := rfl
  have c2 : bct x2 48 = bct (x2 % 256) 8 + bct (x2 / 256) 40 := bct_split x2 40
  obtain ⟨x3, e3⟩ : ∃ x3, x3 = x2 / 256 := ⟨_, rfl⟩
  rw [← e3] at A2 c2
  have A3 : ps x3 5 = 256 * ps (x3 / 256) 4 + bct (x3 % 256) 8 := rfl
  have c3 : bct x3 40 = bct (x3 % 256) 8 + bct (x3 / 256) 32 := bct_split x3 32
  obtain ⟨x4, e4⟩ : ∃ x4, x4 = x3 / 256 := ⟨_, rfl⟩
  rw [← e4] at A3 c3
  have A4 : ps x4 4 = 256 * ps (x4 / 256) 3 + bct (x4 % 256) 8 := rfl
  have c4 : bct x4 32 = bct (x4 % 256) 8 + bct (x4 / 256) 24 := bct_split x4 24
  obtain ⟨x5, e5⟩ : ∃ x5, x5 = x4 / 256 := ⟨_, rfl⟩
  rw [← e5] at A4 c4
  have A5 : ps x5 3 = 256 * ps (x5 / 256) 2 + bct (x5 % 256) 8 := rfl
  have c5 : bct x5 24 = bct (x5 % 256) 8 + bct (x5 / 256) 16 := bct_split x5 16
  obtain ⟨x6, e6⟩ : ∃ x6, x6 = x5 / 256 := ⟨_, rfl⟩
  rw [← e6] at A5 c5
  have A6 : ps x6 2 = 256 * ps (x6 / 256) 1 + bct (x6 % 256) 8 := rfl
  have c6 : bct x6 16 = bct (x6 % 256) 8 + bct (x6 / 256) 8 := bct_split x6 8
  obtain ⟨x7, e7⟩ : ∃ x7, x7 = x6 / 256 := ⟨_, rfl⟩
  rw [← e7] at A6 c6
  have A7 : ps x7 1 = bct (x7 % 256) 8 := by show 256 * 0 + _ = _; omega
  have c7 : bct x7 8 = bct (x7 % 256) 8 := bct_last x7
  have l0 := l x; have l1 := l x1; have l2 := l x2; have l3 := l x3; have l4 := l x4; have l5 := l x5; have l6 := l x6; have l7 := l x7
  generalize bct (x % 256) 8 = p0 at *
  generalize bct (x1 % 256) 8 = p1 at *
  generalize bct (x2 % 256) 8 = p2 at *
  generalize bct (x3 % 256) 8 = p3 at *
  generalize bct (x4 % 256) 8 = p4 at *
  generalize bct (x5 % 256) 8 = p5 at *
  generalize bct (x6 % 256) 8 = p6 at *
  generalize bct (x7 % 256) 8 = p7 at *
  generalize ps x 8 = B0 at *
  generalize ps x1 7 = B1 at *
  generalize ps x2 6 = B2 at *
  generalize ps x3 5 = B3 at *
  generalize ps x4 4 = B4 at *
  generalize ps x5 3 = B5 at *
  generalize ps x6 2 = B6 at *
  generalize ps x7 1 = B7 at *
  have hc : bct x 64 = p0 + (p1 + (p2 + (p3 + (p4 + (p5 + (p6 + p7)))))) := by rw [c0, c1, c2, c3, c4, c5, c6, c7]
  clear c0 c1 c2 c3 c4 c5 c6 c7 e1 e2 e3 e4 e5 e6 e7 l
  have hy : B0 / 256 = B1 := half1 A0 l0
  have Y0 : B0 + B1 = 256 * (B1 + B2) + (p0 + p1) := by omega
  have Y1 : B1 + B2 = 256 * (B2 + B3) + (p1 + p2) := by omega
  have Y2 : B2 + B3 = 256 * (B3 + B4) + (p2 + p3) := by omega
  have Y3 : B3 + B4 = 256 * (B4 + B5) + (p3 + p4) := by omega
  have Y4 : B4 + B5 = 256 * (B5 + B6) + (p4 + p5) := by omega
  have Y5 : B5 + B6 = 256 * (B6 + B7) + (p5 + p6) := by omega
  have Y6 : B6 + B7 = 256 * p7 + (p6 + p7) := by omega
  have a0 := step_pair Y0 Y1
  have a2 := step_pair Y2 Y3
  have a4 := step_pair Y4 Y5
  clear Y0 Y1 Y2 Y3 Y4 Y5 A1 A2 A3 A4 A5 A6 A7
  generalize B2 + B3 = S2 at *
  generalize B4 + B5 = S4 at *
  generalize B6 + B7 = S6 at *
  have hB : B0 ≤ B0 + B1 := by omega
  obtain ⟨y, ey⟩ : ∃ y, y = B0 + B1 := ⟨_, rfl⟩
  rw [← ey] at a0 hB
  have q0 : 256 * (p1 + p2) + (p0 + p1) < 8192 := by omega
  have q2 : 256 * (p3 + p4) + (p2 + p3) < 8192 := by omega
  have q4 : 256 * (p5 + p6) + (p4 + p5) < 8192 := by omega
  have q6 : S6 < 8192 := by omega
  have sum : 256 * (p1 + p2) + (p0 + p1) + (256 * (p3 + p4) + (p2 + p3)) + (256 * (p5 + p6) + (p4 + p5)) + S6 = 256 * (p1 + p2 + p3 + p4 + p5 + p6 + p7) + bct x 64 := by omega
  have hle : bct x 64 ≤ 64 := bct_le x 64
  generalize bct x 64 = P at *
  generalize p1 + p2 + p3 + p4 + p5 + p6 + p7 = R at *
  generalize 256 * (p1 + p2) + (p0 + p1) = r0 at *
  generalize 256 * (p3 + p4) + (p2 + p3) = r2 at *
  generalize 256 * (p5 + p6) + (p4 + p5) = r4 at *
  clear Y6 hc
  have hz : y / 65536 = S2 := half2 a0 (by omega)
  have z1 : y + S2 = 4294967296 * (S4 + S6) + (65536 * (r2 + r4) + (r0 + r2)) := by omega
  have ht : (y + S2) / 4294967296 = S4 + S6 := half3 z1 (by omega)
  have s4 : S4 < 536870912 := by omega
  have s2 : S2 < 35184372088832 := by omega
  have sy : y < 2305843009213693952 := by omega
  refine ⟨y, y + S2, y + S2 + (S4 + S6), by rw [hy, ey], by rw [hz], by rw [ht], by omega, by omega, by omega, by omega, ?_⟩
  have t1 : y + S2 + (S4 + S6) = 65536 * (65536 * (S4 + S6) + (r2 + r4) + S6) + (r0 + r2 + r4 + S6) := by omega
  omega
theorem and_i64 {a : Nat} (h : a < 9223372036854775808) : bitsI .and .i64 (a : Int) (127 : Int) = ((a % 128 : Nat) : Int) := by
  have e : bitsI .and .i64 (a : Int) (127 : Int) = wr .i64 ((BitVec.ofInt 64 (a : Int) &&& BitVec.ofInt 64 ((127 : Nat) : Int)).toNat : Int) := rfl
  rw [e, BitVec.toNat_and, ofInt_nat (by omega), ofInt_nat (by omega), show (127 : Nat) = 2 ^ 7 - 1 from rfl, Nat.and_two_pow_sub_one_eq_mod]
  exact wrap_id (by omega) (by omega)
theorem pop_swar {x : Nat} (hx : x < 18446744073709551616) {f : Int → Int} (hf : f = fun a => bitsI .and .i64 (wr .i64 a) (127 : Int)) :
    let x1 := wr .u64 ((bitsI .and .u64 (shr_ .u64 (x : Int) (1 : Int)) (6148914691236517205 : Int)) + (bitsI .and .u64 (x : Int) (6148914691236517205 : Int)))
    let x2 := wr .u64 ((bitsI .and .u64 (shr_ .u64 x1 (2 : Int)) (3689348814741910323 : Int)) + (bitsI .and .u64 x1 (3689348814741910323 : Int)))
    let x3 := bitsI .and .u64 (wr .u64 ((shr_ .u64 x2 (4 : Int)) + x2)) (1085102592571150095 : Int)
    let x4 := wr .u64 (x3 + shr_ .u64 x3 (8 : Int))
    let x5 := wr .u64 (x4 + shr_ .u64 x4 (16 : Int))
    let x6 := wr .u64 (x5 + shr_ .u64 x5 (32 : Int))
    f x6 = ((bct x 64 : Nat) : Int) := by
  intro x1 x2 x3 x4 x5 x6
  obtain ⟨y, z, t, hy, hz, ht, c0, c1, c2, c3, e⟩ := fold_ps x
  have S := st_ps 8 x hx
  have e1 : x1 = ((st1 8 x : Nat) : Int) := by
    show wr .u64 ((bitsI .and .u64 (shr_ .u64 (x : Int) ((1 : Nat) : Int)) ((6148914691236517205 : Nat) : Int)) + (bitsI .and .u64 (x : Int) ((6148914691236517205 : Nat) : Int))) = _
    rw [shr_nat (by omega), and_nat (by omega) (by omega), and_nat hx (by omega), ← msk_55]
    have h1 := Nat.and_le_right (n := x / 2 ^ 1) (m := msk 85 8)
    have h2 := Nat.and_le_right (n := x) (m := msk 85 8)
    have h3 := msk_55
    unfold st1
    rw [wrU (by omega) (by omega)]
    simp
  have d1 : st1 8 x ≤ 12297829382473034410 := by
    have h1 := Nat.and_le_right (n := x / 2) (m := msk 85 8)
    have h2 := Nat.and_le_right (n := x) (m := msk 85 8)
    have h3 := msk_55
    unfold st1; omega
  have e2 : x2 = ((st2 8 (st1 8 x) : Nat) : Int) := by
    show wr .u64 ((bitsI .and .u64 (shr_ .u64 x1 ((2 : Nat) : Int)) ((3689348814741910323 : Nat) : Int)) + (bitsI .and .u64 x1 ((3689348814741910323 : Nat) : Int))) = _
    rw [e1]
    generalize st1 8 x = u at *
    rw [shr_nat (by omega), and_nat (by omega) (by omega), and_nat (by omega) (by omega), ← msk_33]
    have h1 := Nat.and_le_right (n := u / 2 ^ 2) (m := msk 51 8)
    have h2 := Nat.and_le_right (n := u) (m := msk 51 8)
    have h3 := msk_33
    unfold st2
    rw [wrU (by omega) (by omega)]
    simp
  have d2 : st2 8 (st1 8 x) ≤ 7378697629483820646 := by
    have h1 := Nat.and_le_right (n := st1 8 x / 4) (m := msk 51 8)
    have h2 := Nat.and_le_right (n := st1 8 x) (m := msk 51 8)
    have h3 := msk_33
    unfold st2; omega
  have e3 : x3 = ((ps x 8 : Nat) : Int) := by
    rw [← S]
    show bitsI .and .u64 (wr .u64 ((shr_ .u64 x2 ((4 : Nat) : Int)) + x2)) ((1085102592571150095 : Nat) : Int) = _
    rw [e2]
    generalize st2 8 (st1 8 x) = u at *
    rw [shr_nat (by omega), wrU (by omega) (by omega), ← Int.natCast_add, and_nat (by omega) (by omega), ← msk_0f]
    rfl
  have e4 : x4 = (y : Int) := by
    show wr .u64 (x3 + shr_ .u64 x3 ((8 : Nat) : Int)) = _
    rw [e3]
    generalize ps x 8 = u at *
    rw [shr_nat (by omega), ← Int.natCast_add, show u + u / 2 ^ 8 = y by omega]
    exact wrU (by omega) (by omega)
  have e5 : x5 = (z : Int) := by
    show wr .u64 (x4 + shr_ .u64 x4 ((16 : Nat) : Int)) = _
    rw [e4, shr_nat (by omega), ← Int.natCast_add, show y + y / 2 ^ 16 = z by omega]
    exact wrU (by omega) (by omega)
  have e6 : x6 = (t : Int) := by
    show wr .u64 (x5 + shr_ .u64 x5 ((32 : Nat) : Int)) = _
    rw [e5, shr_nat (by omega), ← Int.natCast_add, show z + z / 2 ^ 32 = t by omega]
    exact wrU (by omega) (by omega)
  rw [e6, hf]
  show bitsI .and .i64 (wr .i64 (t : Int)) (127 : Int) = _
  rw [wrap_id (x := (t : Int)) (by omega) (by omega), and_i64 c3, e]
end Go.Cams


/- Two plates compared, in plain terms. -/
namespace Go.Cams
open Go Go.Fw
theorem wrap_u64 (x : Int) : 0 ≤ wr .u64 x ∧ wr .u64 x < 18446744073709551616 := by
  show 0 ≤ IntKind.u64.wrap x ∧ IntKind.u64.wrap x < _
  simp [IntKind.wrap, IntKind.signed, IntKind.bits]; omega
def tot (W : Nat → Nat) : Nat → Nat
  | 0 => 0
  | y + 1 => tot W y + bct (W y) 64
theorem tot_le (W : Nat → Nat) : ∀ y, tot W y ≤ 64 * y
  | 0 => Nat.le_refl _
  | y + 1 => by have := tot_le W y; have := bct_le (W y) 64; unfold tot; omega
theorem g_tb {n : Nat} {G : Nat → Int} {i : Nat} (h : i < n) : g (tb n G) i = G i := by
  unfold g
  rw [List.getD_eq_getElem?_getD, tb_get h]; rfl
end Go.Cams


/- Texts of cams, in plain terms. -/
namespace Go.Cams
open Go Go.Fw
def tx (l : List UInt8) : ByteArray := ⟨l.toArray⟩
theorem tx_app (a b : List UInt8) : tx a ++ tx b = tx (a ++ b) := by
  apply ByteArray.ext
  simp [tx, ByteArray.data_append]
theorem tx_size (a : List UInt8) : (tx a).size = a.length := by
  show (a.toArray).size = _
  simp
theorem tx_list (a : List UInt8) : (tx a).data.toList = a := rfl
theorem dec_len {u : Nat} (h : u ≤ 9223372036854775807) : (Lib.decDigits u).length ≤ 21 := by
  have := Lib.itoa_length_le (u : Int) (by omega) (by omega)
  rwa [Lib.itoa_nonneg] at this
theorem dec_small {u : Nat} (h : u < 10) : Lib.decDigits u = [UInt8.ofNat (48 + u)] := Lib.decDigits_one h
theorem dec_big {u : Nat} (h : ¬ u < 10) : Lib.decDigits u = Lib.decDigits (u / 10) ++ [UInt8.ofNat (48 + u % 10)] := by rw [Lib.decDigits, dif_neg h]
end Go.Cams
namespace Go.Cams
open Go Go.Fw
theorem szT {a b : List UInt8} (ha : a.length ≤ 1000000000) (hb : b.length ≤ 1000000000) : decide ((((tx a).size + (tx b).size : Nat) : Int) ≤ 4611686018427387904) = true := by
  rw [tx_size, tx_size]
  exact decide_eq_true (by omega)
end Go.Cams
namespace Go.Cams
open Go Go.Fw
end Go.Cams


/- Programs and their texts, in plain terms. -/
namespace Go.Cams
open Go Go.Fw
structure RngMo (L : List Ct) : Prop where
  len : (L.length : Int) * 6 ≤ 140737488351232
  el : ∀ v ∈ L, (-128 ≤ v.1 ∧ v.1 ≤ 127) ∧ (-32768 ≤ v.2.1 ∧ v.2.1 ≤ 32767) ∧ (-32768 ≤ v.2.2.1 ∧ v.2.2.1 ≤ 32767)
theorem RngMo.len' {L : List Ct} (h : RngMo L) : (L.length : Int) ≤ 23456248058538 := by have := h.len; omega
theorem RngMo.i1 {L : List Ct} (h : RngMo L) {v : Ct} (hv : v ∈ L) : wr .i64 v.1 = v.1 := by have := (h.el v hv).1; exact wrap_id (by omega) (by omega)
theorem RngMo.i2 {L : List Ct} (h : RngMo L) {v : Ct} (hv : v ∈ L) : wr .i64 v.2.1 = v.2.1 := by have := (h.el v hv).2.1; exact wrap_id (by omega) (by omega)
theorem RngMo.i3 {L : List Ct} (h : RngMo L) {v : Ct} (hv : v ∈ L) : wr .i64 v.2.2.1 = v.2.2.1 := by have := (h.el v hv).2.2; exact wrap_id (by omega) (by omega)
structure RngPg (p : Prg) : Prop where
  t : -32768 ≤ p.1 ∧ p.1 ≤ 32767
  m : RngMo p.2.1
def moOk (v : Ct) : Bool := inR (wr .i64 v.1) 0 3 && !decide (v.2.1 < 1) && inR (wr .i64 v.2.2.1) 0 10000
def sumM : List Ct → Int
  | [] => 0
  | v :: r => v.2.1 + sumM r
def lastT (L : List Ct) : Int := ((idx L ((L.length : Int) - 1)).map fun v => v.2.2.1).getD 0
def okPg (p : Prg) : Bool := inR (p.2.1.length : Int) 1 24 && inR (wr .i64 p.1) 0 10000 && p.2.1.all moOk && inR (sumM p.2.1) 8 360 && (lastT p.2.1 == p.1)
end Go.Cams


/- What is drawn out of bytes, and lifts between others, in plain terms. -/
namespace Go.Cams
open Go Go.Fw
theorem shN_in {w k n : Int} (w0 : 0 ≤ w) (w1 : w ≤ 3) (k0 : 0 ≤ k) (k1 : k ≤ n) (n0 : 1 ≤ n) : 0 ≤ shN w k n ∧ shN w k n ≤ shD w n := by
  have m0 : 0 ≤ n - k := by omega
  have nn : 0 ≤ n := by omega
  have kk := Int.mul_nonneg k0 k0
  have kn := Int.mul_nonneg k0 nn
  have mm := Int.mul_nonneg m0 m0
  rcases (show w = 0 ∨ w = 1 ∨ w = 2 ∨ w = 3 by omega) with rfl | rfl | rfl | rfl
  · unfold shN shD; simp; omega
  · unfold shN shD
    rw [if_pos rfl, if_pos rfl]
    split
    · rename_i h
      have a : n * n - 2 * k * k = n * (n - 2 * k) + 2 * (k * (n - k)) := by grind
      have b := Int.mul_nonneg nn (show 0 ≤ n - 2 * k by omega)
      have c := Int.mul_nonneg k0 m0
      have d : 2 * k * k = 2 * (k * k) := by grind
      omega
    · rename_i h
      have a : n * n - 2 * (n - k) * (n - k) = n * (n - 2 * (n - k)) + 2 * ((n - k) * k) := by grind
      have b := Int.mul_nonneg nn (show 0 ≤ n - 2 * (n - k) by omega)
      have c := Int.mul_nonneg m0 k0
      have d : 2 * (n - k) * (n - k) = 2 * ((n - k) * (n - k)) := by grind
      omega
  · unfold shN shD
    rw [if_neg (by decide), if_pos rfl, if_neg (by decide), if_pos rfl]
    have a : 3 * k * k * n - 2 * k * k * k = k * k * (3 * n - 2 * k) := by grind
    have b := Int.mul_nonneg kk (show 0 ≤ 3 * n - 2 * k by omega)
    have c : n * n * n - (3 * k * k * n - 2 * k * k * k) = (n - k) * (n - k) * (n + 2 * k) := by grind
    have d := Int.mul_nonneg mm (show 0 ≤ n + 2 * k by omega)
    omega
  · unfold shN shD
    rw [if_neg (by decide), if_neg (by decide), if_pos rfl, if_neg (by decide), if_neg (by decide), if_pos rfl]
    have a : 10 * n * n - 15 * k * n + 6 * k * k = 6 * ((n - k) * (n - k)) + n * (4 * n - 3 * k) := by grind
    have b := Int.mul_nonneg nn (show 0 ≤ 4 * n - 3 * k by omega)
    have c : 0 ≤ 10 * n * n - 15 * k * n + 6 * k * k := by omega
    have d := Int.mul_nonneg (Int.mul_nonneg kk k0) c
    have e : n * n * n * n * n - k * k * k * (10 * n * n - 15 * k * n + 6 * k * k) = (n - k) * (n - k) * (n - k) * (n * n + 3 * n * k + 6 * k * k) := by grind
    have nn2 := Int.mul_nonneg nn nn
    have f : 0 ≤ n * n + 3 * n * k + 6 * k * k := by
      have e1 : n * n + 3 * n * k + 6 * k * k = n * n + 3 * (k * n) + 6 * (k * k) := by grind
      omega
    have h := Int.mul_nonneg (Int.mul_nonneg mm m0) f
    omega
theorem nr_in {x d lo hi : Int} (hd : 0 < d) (h1 : lo * d ≤ x) (h2 : x ≤ hi * d) : lo ≤ nr x d ∧ nr x d ≤ hi := by
  unfold nr
  constructor
  · apply (Int.le_ediv_iff_mul_le (by omega)).2
    have : lo * (2 * d) = 2 * (lo * d) := by grind
    omega
  · have : (2 * x + d) / (2 * d) < hi + 1 := by
      apply (Int.ediv_lt_iff_lt_mul (by omega)).2
      have : (hi + 1) * (2 * d) = 2 * (hi * d) + 2 * d := by grind
      omega
    omega
/-- A lift of a motion lies between its ends. -/
theorem liftP_in {f t w k n lo hi : Int} (w0 : 0 ≤ w) (w1 : w ≤ 3) (k0 : 0 ≤ k) (k1 : k ≤ n) (n0 : 1 ≤ n) (n1 : n ≤ 360) (f0 : lo ≤ f) (f1 : f ≤ hi) (t0 : lo ≤ t) (t1 : t ≤ hi) : lo ≤ liftP f t w k n ∧ liftP f t w k n ≤ hi := by
  have hd := shD_bd (w := w) n0 n1
  obtain ⟨s0, s1⟩ := shN_in w0 w1 k0 k1 n0
  unfold liftP
  generalize shN w k n = s at *
  generalize shD w n = d at *
  have a1 := Int.mul_nonneg (show 0 ≤ f - lo by omega) (show 0 ≤ d - s by omega)
  have a2 := Int.mul_nonneg (show 0 ≤ t - lo by omega) s0
  have a3 := Int.mul_nonneg (show 0 ≤ hi - f by omega) (show 0 ≤ d - s by omega)
  have a4 := Int.mul_nonneg (show 0 ≤ hi - t by omega) s0
  have e1 : f * d + (t - f) * s - lo * d = (f - lo) * (d - s) + (t - lo) * s := by grind
  have e2 : hi * d - (f * d + (t - f) * s) = (hi - f) * (d - s) + (hi - t) * s := by grind
  exact nr_in (by omega) (by omega) (by omega)
/-- A source of numbers: the bytes, how many have been read, and its state. -/
abbrev Src : Type := List Int × (Int × (Int × Unit))
/-- A number of times that a source is still read. -/
def SrcAt (k : Int) (s : Src) : Prop := (∀ v ∈ s.1, 0 ≤ v ∧ v ≤ 255) ∧ (s.1.length : Int) ≤ 1000000 ∧ 0 ≤ s.2.1 ∧ s.2.1 ≤ k
theorem SrcAt.mono {k j : Int} {s : Src} (h : SrcAt k s) (hk : k ≤ j) : SrcAt j s := ⟨h.1, h.2.1, h.2.2.1, Int.le_trans h.2.2.2 hk⟩
theorem and_255 {a : Nat} (h : a < 18446744073709551616) : bitsI .and .u64 (a : Int) (255 : Int) = ((a % 256 : Nat) : Int) := by
  rw [show (255 : Int) = ((255 : Nat) : Int) from rfl, and_nat h (by omega), show (255 : Nat) = 2 ^ 8 - 1 from rfl, Nat.and_two_pow_sub_one_eq_mod]
end Go.Cams
namespace Go.Fw
/-- A loop whose result is not told beforehand. -/
theorem loop_ex {σ α : Type} {f : Nat → σ → (σ → Option α) → Option α} (I : σ → Prop) (μ : σ → Nat) (Q : α → Prop) {x : σ} (h : I x)
    (step : ∀ x, I x → (∃ y, Q y ∧ Round (fun n ag => f n x ag) y (fun _ => False)) ∨ (∃ x1, I x1 ∧ μ x1 < μ x ∧ ∀ y, Round (fun n ag => f n x ag) y (fun x' => x' = x1))) : ∃ y, Q y ∧ Evt (fun n => loopK (f n) n x) y := by
  have key : ∀ m x, I x → μ x ≤ m → ∃ y, Q y ∧ ∃ N, ∀ n, N ≤ n → ∀ k, m < k → loopK (f n) k x = some y := by
    intro m
    induction m with
    | zero =>
      intro x hx hm
      rcases step x hx with ⟨y, hy, hR⟩ | ⟨x1, _, h2, _⟩
      · rcases hR with ⟨N, hN⟩ | ⟨_, hF, _⟩
        · refine ⟨y, hy, N, fun n hn k hk => ?_⟩
          obtain ⟨k, rfl⟩ : ∃ j, k = j + 1 := ⟨k - 1, by omega⟩
          exact hN n hn _
        · exact hF.elim
      · omega
    | succ m ih =>
      intro x hx hm
      rcases step x hx with ⟨y, hy, hR⟩ | ⟨x1, h1, h2, hR⟩
      · rcases hR with ⟨N, hN⟩ | ⟨_, hF, _⟩
        · refine ⟨y, hy, N, fun n hn k hk => ?_⟩
          obtain ⟨k, rfl⟩ : ∃ j, k = j + 1 := ⟨k - 1, by omega⟩
          exact hN n hn _
        · exact hF.elim
      · obtain ⟨y, hy, M, hM⟩ := ih x1 h1 (by omega)
        rcases hR y with ⟨N, hN⟩ | ⟨x', rfl, N, hN⟩
        · refine ⟨y, hy, N, fun n hn k hk => ?_⟩
          obtain ⟨k, rfl⟩ : ∃ j, k = j + 1 := ⟨k - 1, by omega⟩
          exact hN n hn _
        · refine ⟨y, hy, N + M, fun n hn k hk => ?_⟩
          obtain ⟨k, rfl⟩ : ∃ j, k = j + 1 := ⟨k - 1, by omega⟩
          show f n x (loopK (f n) k) = _
          exact (hN n (by omega) _).trans (hM n (by omega) k (by omega))
  obtain ⟨y, hy, N, hN⟩ := key (μ x) x h (Nat.le_refl _)
  exact ⟨y, hy, N + μ x + 1, fun n hn => hN n (by omega) n (by omega)⟩
end Go.Fw
namespace Go.Cams
open Go Go.Fw
structure SmPg (p : Prg) : Prop where
  rng : RngPg p
  ok : okPg p = true
  n : (p.2.1.length : Int) ≤ 5
  sum : 8 ≤ sumM p.2.1 ∧ sumM p.2.1 ≤ 45
  t : 0 ≤ p.1 ∧ p.1 ≤ 59
  el : ∀ v ∈ p.2.1, (0 ≤ v.1 ∧ v.1 ≤ 3) ∧ (1 ≤ v.2.1 ∧ v.2.1 ≤ 45) ∧ (0 ≤ v.2.2.1 ∧ v.2.2.1 ≤ 59)
end Go.Cams
namespace Go.Fw
variable {α β σ : Type}
/-- A result of which something is told. -/
def EvtX (f : Nat → Option α) (Q : α → Prop) : Prop := ∃ y, Q y ∧ Evt f y
theorem EvtX.next {f g : Nat → Option α} {Q : α → Prop} (h : EvtX g Q) (e : ∀ n, f (n + 1) = g n) : EvtX f Q := by
  obtain ⟨y, hy, hE⟩ := h
  exact ⟨y, hy, hE.next e⟩
theorem EvtX.bind {f : Nat → Option β} {g : Nat → β → Option α} {x : β} {Q : α → Prop} (h : Evt f x) (k : EvtX (fun n => g n x) Q) : EvtX (fun n => (f n).bind (g n)) Q := by
  obtain ⟨y, hy, hE⟩ := k
  exact ⟨y, hy, Evt.bind h hE⟩
theorem EvtX.loop {f : Nat → σ → (σ → Option α) → Option α} (I : σ → Prop) (μ : σ → Nat) {Q : α → Prop} {x : σ} (h : I x)
    (step : ∀ x, I x → (∃ y, Q y ∧ Round (fun n ag => f n x ag) y (fun _ => False)) ∨ (∃ x1, I x1 ∧ μ x1 < μ x ∧ ∀ y, Round (fun n ag => f n x ag) y (fun x' => x' = x1))) : EvtX (fun n => loopK (f n) n x) Q := loop_ex I μ Q h step
end Go.Fw
namespace Go.Cams
open Go Go.Fw
/-- The lifts of a motion, and of several. -/
def seg (f : Int) (v : Ct) : List Int := (List.range v.2.1.toNat).map fun k => liftP f v.2.2.1 v.1 (k : Nat) v.2.1
def proF (f : Int) : List Ct → List Int
  | [] => []
  | v :: r => seg f v ++ proF v.2.2.1 r
theorem seg_len (f : Int) (v : Ct) : (seg f v).length = v.2.1.toNat := by simp [seg]
theorem seg_el {f : Int} {v : Ct} {lo hi : Int} (w0 : 0 ≤ v.1) (w1 : v.1 ≤ 3) (n0 : 1 ≤ v.2.1) (n1 : v.2.1 ≤ 360) (f0 : lo ≤ f) (f1 : f ≤ hi) (t0 : lo ≤ v.2.2.1) (t1 : v.2.2.1 ≤ hi) : ∀ x ∈ seg f v, lo ≤ x ∧ x ≤ hi := fun x hx => by
  unfold seg at hx
  obtain ⟨k, hk, rfl⟩ := List.mem_map.1 hx
  have := List.mem_range.1 hk
  exact liftP_in w0 w1 (by omega) (by omega) n0 n1 f0 f1 t0 t1
structure MoIn (lo hi : Int) (v : Ct) : Prop where
  w : 0 ≤ v.1 ∧ v.1 ≤ 3
  n : 1 ≤ v.2.1 ∧ v.2.1 ≤ 360
  t : lo ≤ v.2.2.1 ∧ v.2.2.1 ≤ hi
theorem proF_el {lo hi : Int} : ∀ (l : List Ct) {f : Int}, (∀ v ∈ l, MoIn lo hi v) → lo ≤ f → f ≤ hi → ∀ x ∈ proF f l, lo ≤ x ∧ x ≤ hi
  | [], _, _, _, _ => fun x hx => by cases hx
  | v :: r, f, h, f0, f1 => fun x hx => by
    have hv := h v (by simp)
    rcases List.mem_append.1 hx with hx | hx
    · exact seg_el hv.w.1 hv.w.2 hv.n.1 hv.n.2 f0 f1 hv.t.1 hv.t.2 x hx
    · exact proF_el r (fun u hu => h u (by simp [hu])) hv.t.1 hv.t.2 x hx
theorem proF_len : ∀ (l : List Ct) (f : Int), (∀ v ∈ l, 1 ≤ v.2.1) → ((proF f l).length : Int) = sumM l
  | [], _, _ => rfl
  | v :: r, f, h => by
    have h1 := h v (by simp)
    have h2 := proF_len r v.2.2.1 fun u hu => h u (by simp [hu])
    simp only [proF, sumM, List.length_append, seg_len]
    omega
theorem SmPg.ins {p : Prg} (S : SmPg p) : ∀ v ∈ p.2.1, MoIn 0 59 v := fun v hv => by
  have := S.el v hv
  exact ⟨this.1, ⟨this.2.1.1, by omega⟩, this.2.2⟩
/-- A cam as it is drawn. -/
structure SmC (c : List Int) : Prop where
  len : 8 ≤ (c.length : Int) ∧ (c.length : Int) ≤ 45
  el : ∀ v ∈ c, 0 ≤ v ∧ v ≤ 59
theorem SmPg.cam {p : Prg} (S : SmPg p) : SmC (proF p.1 p.2.1) := by
  have h := proF_len p.2.1 p.1 fun v hv => (S.ins v hv).n.1
  have := S.sum
  exact ⟨by omega, proF_el p.2.1 S.ins S.t.1 S.t.2⟩
theorem SmC.rng {c : List Int} (S : SmC c) : Rng c := rng_bd (by have := S.len; omega) fun v hv => by have := S.el v hv; omega
theorem SmC.ok {c : List Int} (S : SmC c) : okC c = true := by
  unfold okC
  have hl := S.len
  simp only [Bool.and_eq_true, inR_iff, List.all_eq_true]
  refine ⟨by omega, fun v hv => ?_⟩
  have := S.el v hv
  unfold okV
  rw [wrap_id (x := v) (by omega) (by omega), inR_iff]
  omega
end Go.Cams
namespace Go.Fw
variable {α β σ : Type}
theorem EvtX.no {c : Bool} {f g : Nat → Option α} {Q : α → Prop} (h : ¬ c = true) (k : EvtX g Q) : EvtX (fun n => if c = true then f n else g n) Q := by
  obtain ⟨y, hy, hE⟩ := k
  exact ⟨y, hy, Evt.no h hE⟩
theorem EvtX.yes {c : Bool} {f g : Nat → Option α} {Q : α → Prop} (h : c = true) (k : EvtX f Q) : EvtX (fun n => if c = true then f n else g n) Q := by
  obtain ⟨y, hy, hE⟩ := k
  exact ⟨y, hy, Evt.yes h hE⟩
theorem EvtX.chk {c : Bool} {f : Nat → Option α} {Q : α → Prop} (h : c = true) (k : EvtX f Q) : EvtX (fun n => chk c (f n)) Q := by
  obtain ⟨y, hy, hE⟩ := k
  exact ⟨y, hy, Evt.chk h hE⟩
end Go.Fw


/- Cutters as they are drawn, and which can replace which, in plain terms. -/
namespace Go.Cams
open Go Go.Fw
def dst (H j : Nat) : Nat := if j ≤ H then H - j else j - H
def symK (H : Nat) (h : Nat → Int) : List Int := tb (2 * H + 1) fun j => h (dst H j)
structure Ris (H : Nat) (h : Nat → Int) : Prop where
  zero : h 0 = 0
  up : ∀ a b, a ≤ b → b ≤ H → h a ≤ h b
  hi : ∀ a, a ≤ H → h a ≤ 1000
theorem Ris.lo {H : Nat} {h : Nat → Int} (R : Ris H h) {a : Nat} (ha : a ≤ H) : 0 ≤ h a := by
  have := R.up 0 a (by omega) ha
  rw [R.zero] at this; exact this
theorem dst_le {H j : Nat} (h : j < 2 * H + 1) : dst H j ≤ H := by unfold dst; split <;> omega
theorem symK_len (H : Nat) (h : Nat → Int) : (symK H h).length = 2 * H + 1 := tb_len _ _
theorem symK_g {H : Nat} {h : Nat → Int} {j : Nat} (hj : j < 2 * H + 1) : g (symK H h) j = h (dst H j) := g_tb hj
theorem symK_rng {H : Nat} {h : Nat → Int} (R : Ris H h) (hH : H ≤ 15) : Rng (symK H h) := rng_bd (by rw [symK_len]; omega) fun v hv => by
  unfold symK tb at hv
  obtain ⟨j, hj, rfl⟩ := List.mem_map.1 hv
  have hd := dst_le (List.mem_range.1 hj)
  have h1 := R.lo hd
  have h2 := R.hi _ hd
  omega
theorem symK_ok {H : Nat} {h : Nat → Int} (R : Ris H h) (hH : H ≤ 15) : okK (symK H h) = true := by
  have hl := symK_len H h
  have hh : (symK H h).length / 2 = H := by omega
  unfold okK
  simp only [Bool.and_eq_true, decide_eq_true_eq, beq_iff_eq, inR_iff]
  refine ⟨⟨⟨by omega, by omega⟩, ?_⟩, ?_⟩
  · rw [hh, symK_g (by omega)]
    unfold dst
    rw [if_pos (Nat.le_refl _), Nat.sub_self, R.zero]
  · rw [hh, allTo_iff]
    intro i hi
    have d1 : dst H i = H - i := by unfold dst; rw [if_pos (by omega)]
    have d2 : dst H (2 * H + 1 - 1 - i) = H - i := by unfold dst; split <;> omega
    have h1 := R.lo (a := H - i) (by omega)
    have h2 := R.hi (H - i) (by omega)
    unfold kOne
    rw [hl, symK_g (by omega), symK_g (by omega), d1, d2, wrap_id (x := h (H - i)) (by omega) (by omega)]
    simp only [Bool.and_eq_true, inR_iff, Bool.or_eq_true, decide_eq_true_eq, beq_self_eq_true, and_true]
    refine ⟨by omega, ?_⟩
    by_cases h0 : i = 0
    · exact .inl h0
    · right
      have d3 : dst H (i - 1) = H - i + 1 := by unfold dst; rw [if_pos (by omega)]; omega
      rw [symK_g (by omega), d3]
      have := R.up (H - i) (H - i + 1) (by omega) (by omega)
      simp only [Bool.not_eq_true', decide_eq_false_iff_not]
      omega
structure SmK (k : List Int) : Prop where
  rng : Rng k
  ok : okK k = true
theorem SmK.of {H : Nat} {h : Nat → Int} (R : Ris H h) (hH : H ≤ 15) : SmK (symK H h) := ⟨symK_rng R hH, symK_ok R hH⟩
end Go.Cams


/- Which cutter can replace which, in plain terms. -/
namespace Go.Cams
open Go Go.Fw
/-- How high a cutter stands on another one. -/
def stTo (a b : List Int) (off : Nat) : Nat → Int
  | 0 => 0
  | i + 1 => max (stTo a b off i) (g b (off + i) - g a i)
def st (a b : List Int) (off : Nat) : Int := stTo a b off a.length
end Go.Cams
namespace Go.Cams
open Go Go.Fw
theorem byte_of {l : List Int} (h : Dom (.slc (.int .u8)) l) : ∀ v ∈ l, 0 ≤ v ∧ v ≤ 255 := fun v hv => by
  have h1 := h.2 v hv
  have h2 : IntKind.u8.min ≤ v := h1.1
  have h3 : v ≤ IntKind.u8.max := h1.2
  simp only [IntKind.min, IntKind.max, IntKind.signed, IntKind.bits] at h2 h3
  exact ⟨by simpa using h2, by simpa using h3⟩
end Go.Cams


/- A cam that is read as a program is made again by it, in plain terms. -/
namespace Go.Cams
open Go Go.Fw
/-- Stretches that follow each other. -/
def ChS (s : Int) : List Ct → Int → Prop
  | [], e => s = e
  | v :: r, e => v.2.1 = s ∧ 1 ≤ v.2.2.1 ∧ ChS (s + v.2.2.1) r e
theorem ChS.le : ∀ {L : List Ct} {s e : Int}, ChS s L e → s + L.length ≤ e
  | [], _, _, h => by rw [show _ = _ from h]; simp
  | v :: L, s, e, h => by
    have := ChS.le h.2.2
    have := h.2.1
    simp only [List.length_cons]; omega
end Go.Cams
namespace Go.Cams
open Go Go.Fw
end Go.Cams
namespace Go.Cams
end Go.Cams


/- The lifts of a motion rise evenly, in plain terms. -/
namespace Go.Cams
open Go Go.Fw
end Go.Cams
namespace Go.Cams
open Go Go.Fw
/-- The greatest size of numbers, and its first place. -/
def grS (q : Int × Int × Int) (v : Int) : Int × Int × Int := if siz v > q.2.1 then (q.2.2, siz v, q.2.2 + 1) else (q.1, q.2.1, q.2.2 + 1)
def gr (l : List Int) : Int × Int × Int := l.foldl grS (0, -1, 0)
theorem gr_le : ∀ (l : List Int) (q : Int × Int × Int) (m : Int), ((l.foldl grS q).2.1 ≤ m) ↔ (q.2.1 ≤ m ∧ ∀ v ∈ l, siz v ≤ m)
  | [], q, m => by simp
  | v :: l, q, m => by
    rw [List.foldl_cons, gr_le l (grS q v) m]
    have : (grS q v).2.1 ≤ m ↔ q.2.1 ≤ m ∧ siz v ≤ m := by
      unfold grS
      split <;> simp only <;> omega
    rw [this]
    simp only [List.mem_cons, forall_eq_or_imp]
    exact ⟨fun h => ⟨h.1.1, h.1.2, h.2⟩, fun h => ⟨⟨h.1, h.2.1⟩, h.2.2⟩⟩
end Go.Cams


/- The least number of steps of a motion, its bends, and planned programs, in plain terms. -/
namespace Go.Cams
open Go Go.Fw
theorem tb_mem {α : Type} {n : Nat} {G : Nat → α} {v : α} (h : v ∈ tb n G) : ∃ i, i < n ∧ v = G i := by
  simp only [tb, List.mem_map, List.mem_range] at h
  obtain ⟨i, hi, e⟩ := h
  exact ⟨i, hi, e.symm⟩
theorem siz_nn (v : Int) : 0 ≤ siz v := by unfold siz; split <;> omega
theorem siz_le {v m : Int} (h1 : -m ≤ v) (h2 : v ≤ m) : siz v ≤ m := by unfold siz; split <;> omega
/-! ### Bends of a motion -/
/-! ### Planned programs -/
def sumN (S : Nat → Int) : Nat → Int
  | 0 => 0
  | i + 1 => sumN S i + S i
theorem sumN_el {S : Nat → Int} (h : ∀ i, 1 ≤ S i) : ∀ {n i : Nat}, i < n → S i + (n : Int) - 1 ≤ sumN S n
  | 0, i, hi => by omega
  | n + 1, i, hi => by
    have h0 : ∀ n : Nat, (n : Int) ≤ sumN S n := fun n => by
      induction n with
      | zero => exact Int.le_refl _
      | succ n ih => unfold sumN; have := h n; omega
    unfold sumN
    by_cases e : i = n
    · subst e; have := h0 i; omega
    · have := sumN_el h (n := n) (i := i) (by omega)
      have := h n
      omega
structure GoodP2 (n k : Nat) (S : Nat → Int) : Prop where
  one : ∀ i, 1 ≤ S i
  sum : sumN S n = n + k
theorem GoodP2.le {n k : Nat} {S : Nat → Int} (h : GoodP2 n k S) {i : Nat} (hi : i < n) : 1 ≤ S i ∧ S i ≤ k + 1 := by
  have h1 := sumN_el h.one hi
  rw [h.sum] at h1
  exact ⟨h.one i, by omega⟩
end Go.Cams


/- Drawn cams, lag and feet, in plain terms. -/
namespace Go.Cams
open Go Go.Fw
/-- A cam as it is drawn. -/
structure SmD (c : List Int) : Prop where
  len : 8 ≤ (c.length : Int) ∧ (c.length : Int) ≤ 36
  el : ∀ v ∈ c, 0 ≤ v ∧ v ≤ 60
theorem SmD.rng {c : List Int} (S : SmD c) : Rng c := rng_bd (by have := S.len; omega) fun v hv => by have := S.el v hv; omega
theorem okC_of {c : List Int} (h : 8 ≤ (c.length : Int) ∧ (c.length : Int) ≤ 360) (he : ∀ v ∈ c, 0 ≤ v ∧ v ≤ 10000) : okC c = true := by
  unfold okC
  simp only [Bool.and_eq_true, inR_iff, List.all_eq_true]
  exact ⟨h, fun v hv => by
    have := he v hv
    unfold okV
    rw [inR_iff, wrap_id (by omega) (by omega)]
    exact this⟩
theorem SmD.ok {c : List Int} (S : SmD c) : okC c = true := okC_of (by have := S.len; omega) fun v hv => by have := S.el v hv; omega
def grow (b : Int) (m : Nat) : Nat → List Int × Int → List Int × Int
  | 0, s => s
  | k + 1, s => if s.1.length < m then grow b m k (s.1 ++ [max 0 (min 60 (s.2 + b))], max 0 (min 60 (s.2 + b))) else s
structure GoodG2 (m : Nat) (s : List Int × Int) : Prop where
  el : ∀ v ∈ s.1, 0 ≤ v ∧ v ≤ 60
  lf : 0 ≤ s.2 ∧ s.2 ≤ 60
  le : s.1.length ≤ m
theorem grow_one {b : Int} {m : Nat} {s : List Int × Int} (h : GoodG2 m s) (hl : s.1.length < m) : GoodG2 m (s.1 ++ [max 0 (min 60 (s.2 + b))], max 0 (min 60 (s.2 + b))) := by
  have hb : 0 ≤ max 0 (min 60 (s.2 + b)) ∧ max 0 (min 60 (s.2 + b)) ≤ 60 := by omega
  refine ⟨fun v hv => ?_, hb, by simp; omega⟩
  rcases List.mem_append.1 hv with hv | hv
  · exact h.el v hv
  · simp at hv; rw [hv]; exact hb
theorem grow_good {b : Int} {m : Nat} : ∀ k {s : List Int × Int}, GoodG2 m s → GoodG2 m (grow b m k s) ∧ s.1.length ≤ (grow b m k s).1.length
  | 0, s, h => ⟨h, Nat.le_refl _⟩
  | k + 1, s, h => by
    unfold grow
    by_cases hl : s.1.length < m
    · rw [if_pos hl]
      have := grow_good (b := b) k (grow_one (b := b) h hl)
      exact ⟨this.1, by have h2 := this.2; simp at h2; omega⟩
    · rw [if_neg hl]; exact ⟨h, Nat.le_refl _⟩
theorem grow_more {b : Int} {m : Nat} {k : Nat} {s : List Int × Int} (h : GoodG2 m s) (hl : s.1.length < m) (hk : 0 < k) : s.1.length < (grow b m k s).1.length := by
  obtain ⟨k, rfl⟩ : ∃ j, k = j + 1 := ⟨k - 1, by omega⟩
  unfold grow
  rw [if_pos hl]
  have := (grow_good (b := b) k (grow_one (b := b) h hl)).2
  simp at this
  omega
/-! ### What lies beside -/
/-! ### Lag -/
end Go.Cams
namespace Go.Cams
open Go Go.Fw
end Go.Cams


/- Cams that are made of cams, and runs, in plain terms. -/
namespace Go.Cams
open Go Go.Fw
/-! ### Runs -/
def lenS : List Ct → Int
  | [] => 0
  | v :: r => v.2.2.1 + lenS r
def RunOk (c : List Int) : Int → List Ct → Prop
  | _, [] => True
  | s, v :: r => v.1 = kd c s ∧ v.2.1 = s % c.length ∧ 1 ≤ v.2.2.1 ∧ (∀ k : Int, 0 ≤ k → k < v.2.2.1 → kd c (s + k) = v.1) ∧ (r ≠ [] → kd c (s + v.2.2.1) ≠ v.1) ∧ RunOk c (s + v.2.2.1) r
structure RunAt (c : List Int) (s : Int) (L : List Ct) (i : Nat) (v : Ct) : Prop where
  kind : v.1 = kd c (s + lenS (L.take i))
  start : v.2.1 = (s + lenS (L.take i)) % c.length
  one : 1 ≤ v.2.2.1
  all : ∀ k : Int, 0 ≤ k → k < v.2.2.1 → kd c (s + lenS (L.take i) + k) = v.1
  next : i + 1 < L.length → kd c (s + lenS (L.take i) + v.2.2.1) ≠ v.1
theorem RunOk.at {c : List Int} : ∀ {L : List Ct} {s : Int} {i : Nat} {v : Ct}, RunOk c s L → L[i]? = some v → RunAt c s L i v
  | [], _, _, _, _, h => by simp at h
  | u :: r, s, 0, v, ⟨h1, h2, h3, h4, h5, _⟩, h => by
    simp at h
    subst h
    have e : s + lenS ((u :: r).take 0) = s := by simp [lenS]
    refine ⟨by rw [e]; exact h1, by rw [e]; exact h2, h3, by rw [e]; exact h4, fun hl => ?_⟩
    rw [e]
    exact h5 fun e => by rw [e] at hl; simp at hl
  | u :: r, s, i + 1, v, ⟨_, _, _, _, _, h6⟩, h => by
    simp at h
    have A := RunOk.at h6 h
    have e : s + lenS ((u :: r).take (i + 1)) = s + u.2.2.1 + lenS (r.take i) := by rw [List.take_succ_cons, lenS]; omega
    exact ⟨by rw [e]; exact A.kind, by rw [e]; exact A.start, A.one, by rw [e]; exact A.all, fun hl => by rw [e]; exact A.next (by simp at hl; omega)⟩
end Go.Cams


/- Plans of cuts leave what a cutter leaves at best, in plain terms. -/
namespace Go.Cams
open Go Go.Fw
/-- Cuts of one cutter alone. -/
structure OneK (m : Nat) (L : List Ct) : Prop where
  l : (L.length : Int) ≤ 400
  el : ∀ v ∈ L, (0 ≤ v.1 ∧ v.1 < (m : Int)) ∧ (0 ≤ v.2.1 ∧ v.2.1 ≤ 10000) ∧ v.2.2.1 = 0
theorem OneK.rng {m : Nat} {L : List Ct} (h : OneK m L) (hm : m ≤ 360) : RngC L := ⟨by have := h.l; omega, fun v hv => by have := h.el v hv; omega⟩
theorem OneK.cuts {m : Nat} {L : List Ct} (h : OneK m L) (hm : m ≤ 360) {k : List Int} (hk : okK k = true) : okCuts L [k] = true := by
  have hr := h.rng hm
  simp only [okCuts, okCt, Bool.and_eq_true, inR_iff, decide_eq_true_eq, List.all_eq_true]
  refine ⟨⟨by simp, by simp [okKs, hk]⟩, h.l, fun v hv => ?_⟩
  have := h.el v hv
  simp only [ctOk, Bool.and_eq_true, inR_iff]
  rw [hr.i1 hv, hr.i2 hv, hr.i3 hv, wrap_id (by simp) (by simp)]
  simp only [List.length_cons, List.length_nil]
  omega
theorem OneK.on {m : Nat} {L : List Ct} (h : OneK m L) (hm : m ≤ 360) : onCt L (m : Int) = true := by
  have hr := h.rng hm
  simp only [onCt, List.all_eq_true]
  intro v hv
  have := h.el v hv
  rw [hr.i1 hv]
  simp
  omega
theorem OneK.code {c : List Int} {L : List Ct} (h : OneK c.length L) (ok : okC c = true) {k : List Int} (hk : okK k = true) : gvCode c [k] L = 0 := by
  have := okC_len ok
  unfold gvCode
  rw [if_pos ok, if_pos (h.cuts (by omega) hk), if_pos (h.on (by omega))]
/-! ### Cuts without those that take nothing -/
end Go.Cams


/- Fillings keep within their bounds, least bounds are least, and what is reached proves it, in plain terms. -/
namespace Go.Cams
open Go Go.Fw
/-- The heights of a cam from two steps ahead of a stretch on. -/
def hN (c : List Int) (f lo : Int) (j : Nat) : Nat := (hgt c lo (f - 2 + j)).toNat
/-! ### What a filling is -/
/-! ### What is reached -/
end Go.Cams


/- What strokes a machine's stops draw: traced with a stroke at hand, and by lengthening the last one. -/
namespace Go.Cams
open Go Go.Fw
def lastM (s : Stk) : Mk := s.getLastD []
def trS (p : List Stk × Stk) (s : Stp) : List Stk × Stk :=
  if s.2.1 = false then (if p.2 = [] then p.1 else p.1 ++ [p.2], [])
  else if p.2.length = 60 then (p.1 ++ [p.2], [lastM p.2, s.1]) else (p.1, p.2 ++ [s.1])
structure TrOk (p : List Stk × Stk) (n : Nat) : Prop where
  len : p.1.length + (if p.2 = [] then 0 else 1) ≤ n
  el : ∀ s ∈ p.1, s.length ≤ 60 ∧ ∀ m ∈ s, OnP m
  now : p.2.length ≤ 60 ∧ ∀ m ∈ p.2, OnP m
theorem lastM_mem {s : Stk} (h : s ≠ []) : lastM s ∈ s := by
  unfold lastM
  rw [List.getLastD_eq_getLast?, List.getLast?_eq_some_getLast h]
  simp
theorem TrOk.step {p : List Stk × Stk} {n : Nat} {s : Stp} (h : TrOk p n) (hs : OnP s.1) : TrOk (trS p s) (n + 1) := by
  have h1 := h.len
  unfold trS
  split
  · split
    · rename_i e
      rw [if_pos e] at h1
      exact ⟨by simp; omega, h.el, by simp⟩
    · rename_i e
      rw [if_neg e] at h1
      refine ⟨by simp; omega, fun t ht => ?_, by simp⟩
      rcases List.mem_append.1 ht with ht | ht
      · exact h.el t ht
      · rw [List.mem_singleton.1 ht]; exact h.now
  · split
    · rename_i e
      have hne : p.2 ≠ [] := fun e' => by rw [e'] at e; simp at e
      rw [if_neg hne] at h1
      refine ⟨by simp; omega, fun t ht => ?_, by simp, fun m hm => ?_⟩
      · rcases List.mem_append.1 ht with ht | ht
        · exact h.el t ht
        · rw [List.mem_singleton.1 ht]; exact h.now
      · simp only [List.mem_cons, List.not_mem_nil, or_false] at hm
        rcases hm with rfl | rfl
        · exact h.now.2 _ (lastM_mem hne)
        · exact hs
    · rename_i e
      refine ⟨?_, h.el, by simp; have := h.now.1; omega, fun m hm => ?_⟩
      · rw [if_neg (by simp)]
        show p.1.length + 1 ≤ n + 1
        split at h1 <;> omega
      · rcases List.mem_append.1 hm with hm | hm
        · exact h.now.2 m hm
        · rw [List.mem_singleton.1 hm]; exact hs
theorem trS_nil (p : List Stk × Stk) (s : Stp) : (trS p s).2 = [] ↔ s.2.1 = false := by
  unfold trS
  split
  · rename_i h; simp [h]
  · rename_i h
    split <;> simp [h]
theorem getLastD_snoc {α : Type} (l : List α) (x d : α) : (l ++ [x]).getLastD d = x := by
  rw [List.getLastD_eq_getLast?]; simp
theorem onP_rng {m : Mk} (h : OnP m) : ∀ v ∈ m, -32768 ≤ v ∧ v ≤ 32767 := by
  have hx := h.x; have hy := h.y; have hl := h.len
  match m, hl with
  | [a, b], _ =>
    have hx : 0 ≤ a ∧ a ≤ 63 := hx
    have hy : 0 ≤ b ∧ b ≤ 63 := hy
    intro v hv
    simp only [List.mem_cons, List.not_mem_nil, or_false] at hv
    rcases hv with rfl | rfl <;> omega
end Go.Cams


/- What is drawn, as a set of marks: by stops, by strokes, by strokes that are traced, by stops that are planned. -/
namespace Go.Cams
open Go Go.Fw
theorem rev_ind {α : Type} {P : List α → Prop} (h0 : P []) (h1 : ∀ l a, P l → P (l ++ [a])) (l : List α) : P l := by
  rw [← List.reverse_reverse l]
  induction l.reverse with
  | nil => exact h0
  | cons a r ih => rw [List.reverse_cons]; exact h1 _ _ ih
/-! ### Plates of marks -/
/-! ### Marks that stops draw -/
def onk (a : Stp) : List Mk := if a.2.1 = true then [a.1] else []
def sgm (a b : Stp) : List Mk := if a.2.1 = true ∧ b.2.1 = true then lineM a.1 b.1 else []
def drw : List Stp → List Mk
  | [] => []
  | [a] => onk a
  | a :: b :: r => onk a ++ (sgm a b ++ drw (b :: r))
theorem drw_snoc : ∀ (l : List Stp) (a b : Stp) (x : Mk), x ∈ drw (l ++ [a] ++ [b]) ↔ x ∈ drw (l ++ [a]) ∨ x ∈ sgm a b ∨ x ∈ onk b
  | [], a, b, x => by simp [drw]
  | [c], a, b, x => by
    simp only [drw, List.cons_append, List.nil_append, List.mem_append]
    constructor <;> intro h
    · rcases h with h | h | h | h | h <;> simp [h]
    · rcases h with (h | h | h) | h | h <;> simp [h]
  | c :: d :: l, a, b, x => by
    have ih := drw_snoc (d :: l) a b x
    simp only [List.cons_append] at ih
    simp only [List.cons_append, drw, List.mem_append, ih]
    constructor <;> intro h
    · rcases h with h | h | h | h | h <;> simp [h]
    · rcases h with (h | h | h) | h | h <;> simp [h]
theorem drw_mem : ∀ (l : List Stp) (s : Stp), s ∈ l → s.2.1 = true → s.1 ∈ drw l
  | [], _, h, _ => by simp at h
  | [a], s, h, hd => by
    simp only [List.mem_singleton] at h
    subst h
    simp [drw, onk, hd]
  | a :: b :: r, s, h, hd => by
    simp only [drw, List.mem_append]
    rcases List.mem_cons.1 h with h | h
    · subst h; simp [onk, hd]
    · exact .inr (.inr (drw_mem (b :: r) s h hd))
theorem drw_up (l : List Stp) {b : Stp} (hb : b.2.1 = false) (x : Mk) : x ∈ drw (l ++ [b]) ↔ x ∈ drw l := by
  rcases List.eq_nil_or_concat l with rfl | ⟨l, a, rfl⟩
  · simp [drw, onk, hb]
  · rw [List.concat_eq_append, drw_snoc]; simp [sgm, onk, hb]
theorem drw_ups (l : List Stp) : ∀ (m : List Stp), (∀ b ∈ m, b.2.1 = false) → ∀ x, x ∈ drw (l ++ m) ↔ x ∈ drw l := by
  intro m
  refine rev_ind (P := fun m => (∀ b ∈ m, b.2.1 = false) → ∀ x, x ∈ drw (l ++ m) ↔ x ∈ drw l) (fun _ x => by simp) (fun m b ih h x => ?_) m
  · rw [← List.append_assoc, drw_up _ (h b (by simp)), ih fun c hc => h c (by simp [hc])]
/-! ### Marks that strokes draw -/
def dwn (m : Mk) : Stp := (m, true, ())
def drs (s : Stk) : List Mk := drw (s.map dwn)
def drK (K : List Stk) : List Mk := K.flatMap drs
theorem drs_snoc (s : Stk) (a b : Mk) (x : Mk) : x ∈ drs (s ++ [a] ++ [b]) ↔ x ∈ drs (s ++ [a]) ∨ x ∈ lineM a b ∨ x = b := by
  unfold drs
  simp only [List.map_append, List.map_cons, List.map_nil]
  rw [drw_snoc]
  simp [sgm, onk, dwn]
theorem lastM_snoc (s : Stk) (a : Mk) : lastM (s ++ [a]) = a := by unfold lastM; rw [getLastD_snoc]
/-! ### Strokes that are traced draw what the stops draw -/
structure TrD (l : List Stp) (p : List Stk × Stk) : Prop where
  same : ∀ x, x ∈ drw l ↔ x ∈ drK p.1 ∨ x ∈ drs p.2
  last : ∀ k a, l = k ++ [a] → (p.2 ≠ [] → a.1 = lastM p.2 ∧ a.2.1 = true) ∧ (p.2 = [] → a.2.1 = false)
  nil : l = [] → p = ([], [])
theorem TrD.step {l : List Stp} {p : List Stk × Stk} (h : TrD l p) (s : Stp) : TrD (l ++ [s]) (trS p s) := by
  have hnil := trS_nil p s
  refine ⟨fun x => ?_, fun k a e => ?_, fun e => by simp at e⟩
  · cases hs : s.2.1 with
    | false =>
      rw [drw_up l hs, h.same]
      unfold trS
      rw [if_pos hs]
      by_cases e : p.2 = []
      · simp [e]
      · simp [e, drK, drs, drw]
    | true =>
      by_cases e : p.2 = []
      · have h1 : x ∈ drw (l ++ [s]) ↔ x ∈ drw l ∨ x = s.1 := by
          rcases List.eq_nil_or_concat l with rfl | ⟨k, a, rfl⟩
          · simp [drw, onk, hs]
          · rw [List.concat_eq_append, drw_snoc]
            have := (h.last k a (by simp)).2 e
            simp [sgm, onk, hs, this]
        rw [h1, h.same]
        unfold trS
        simp [hs, e, drs, drw, dwn, onk]
      · rcases List.eq_nil_or_concat l with rfl | ⟨k, a, rfl⟩
        · have := h.nil rfl
          rw [this] at e
          exact absurd rfl e
        rw [List.concat_eq_append] at *
        have ha := (h.last k a rfl).1 e
        rw [drw_snoc, h.same]
        obtain ⟨q, b, hq⟩ : ∃ q b, p.2 = q ++ [b] := by
          rcases List.eq_nil_or_concat p.2 with h | ⟨q, b, h⟩
          · exact absurd h e
          · exact ⟨q, b, by rw [h, List.concat_eq_append]⟩
        have hb : lastM p.2 = b := by rw [hq, lastM_snoc]
        have h2 : x ∈ sgm a s ↔ x ∈ lineM b s.1 := by simp [sgm, ha.2, hs, ha.1, hb]
        have h3 : x ∈ onk s ↔ x = s.1 := by simp [onk, hs]
        rw [h2, h3]
        have hbm : b ∈ drs p.2 := by
          rw [hq]
          exact drw_mem _ (dwn b) (by simp [dwn]) rfl
        unfold trS
        rw [if_neg (by simp [hs])]
        split
        · rw [hb]
          have h4 : x ∈ drs [b, s.1] ↔ x = b ∨ x ∈ lineM b s.1 ∨ x = s.1 := by
            have := drs_snoc [] b s.1 x
            simp only [List.nil_append, List.cons_append] at this
            rw [this]
            simp [drs, drw, onk, dwn]
          simp only [drK, List.flatMap_append, List.flatMap_cons, List.flatMap_nil, List.append_nil, List.mem_append, h4]
          constructor <;> intro h
          · rcases h with (h | h) | h | h <;> simp [h]
          · rcases h with (h | h) | h | h | h
            · simp [h]
            · simp [h]
            · subst h; simp [hbm]
            · simp [h]
            · simp [h]
        · rw [hq, drs_snoc]
          constructor <;> intro h
          · rcases h with (h | h) | h | h <;> simp [h]
          · rcases h with h | h | h | h <;> simp [h]
  · have e : l = k ∧ s = a := by
      have := List.append_inj' e rfl
      exact ⟨this.1, by simpa using this.2⟩
    obtain ⟨rfl, rfl⟩ := e
    refine ⟨fun h2 => ?_, fun h2 => hnil.1 h2⟩
    have hs : s.2.1 = true := by
      cases hs : s.2.1 with
      | true => rfl
      | false => exact absurd (hnil.2 hs) h2
    refine ⟨?_, hs⟩
    unfold trS
    rw [if_neg (by simp [hs])]
    split
    · rfl
    · rw [lastM_snoc]
end Go.Cams


/- Stops that are planned draw what the strokes draw, and are not far apart, in plain terms. -/
namespace Go.Cams
open Go Go.Fw
/-! ### Machines -/
/-! ### Plans -/
theorem bkJ_spec (L : List Mk) (i : Nat) : ∀ j, bkJ L i j = 0 ∨ lineM (gM L i) (gM L (bkJ L i j)) = (L.take (bkJ L i j + 1)).drop i
  | 0 => .inl rfl
  | j + 1 => by
    unfold bkJ
    split
    · rename_i h; exact .inr h
    · exact bkJ_spec L i j
theorem goF_down {most : Nat} (hm : 1 ≤ most) {a b : Mk} (ha : OnP a) (hb : OnP b) : ∀ (f i : Nat) (A : List Stp), i < (lineM a b).length → (lineM a b).length ≤ f + i → (∀ x, x ∈ drw (A ++ [dwn (gM (lineM a b) i)] ++ goF most true (lineM a b) f i) ↔ x ∈ drw (A ++ [dwn (gM (lineM a b) i)]) ∨ x ∈ (lineM a b).drop i) ∧ ∃ B, A ++ [dwn (gM (lineM a b) i)] ++ goF most true (lineM a b) f i = B ++ [dwn b]
  | 0, i, A, hi, hf => by omega
  | f + 1, i, A, hi, hf => by
    have hl := line_last ha hb
    unfold goF
    by_cases h : i < (lineM a b).length - 1
    · rw [if_pos h]
      have hj := toJ_bd hm true ha hb h
      obtain ⟨j, ej⟩ : ∃ j, j = toJ most true (lineM a b) i := ⟨_, rfl⟩
      rw [← ej] at hj ⊢
      have hline : lineM (gM (lineM a b) i) (gM (lineM a b) j) = ((lineM a b).take (j + 1)).drop i := by
        have := bkJ_spec (lineM a b) i (min (i + most) ((lineM a b).length - 1))
        have e : toJ most true (lineM a b) i = bkJ (lineM a b) i (min (i + most) ((lineM a b).length - 1)) := by unfold toJ; rw [if_pos rfl]
        rw [← e, ← ej] at this
        rcases this with h | h
        · omega
        · exact h
      obtain ⟨ih1, ih2⟩ := goF_down hm ha hb f j (A ++ [dwn (gM (lineM a b) i)]) (by omega) (by omega)
      have e : A ++ [dwn (gM (lineM a b) i)] ++ (gM (lineM a b) j, true, ()) :: goF most true (lineM a b) f j = A ++ [dwn (gM (lineM a b) i)] ++ [dwn (gM (lineM a b) j)] ++ goF most true (lineM a b) f j := by simp [dwn]
      rw [e]
      refine ⟨fun x => ?_, ih2⟩
      rw [ih1, drw_snoc]
      have h2 : x ∈ sgm (dwn (gM (lineM a b) i)) (dwn (gM (lineM a b) j)) ↔ x ∈ ((lineM a b).take (j + 1)).drop i := by
        unfold sgm
        rw [if_pos ⟨rfl, rfl⟩, ← hline]; rfl
      have h3 : x ∈ onk (dwn (gM (lineM a b) j)) ↔ x = gM (lineM a b) j := by simp [onk, dwn]
      rw [h2, h3]
      have h4 : (lineM a b).drop i = ((lineM a b).take (j + 1)).drop i ++ (lineM a b).drop (j + 1) := by
        conv => lhs; rw [← List.take_append_drop (j + 1) (lineM a b)]
        rw [List.drop_append_of_le_length (by simp; omega)]
      have h5 : x ∈ (lineM a b).drop j ↔ x = gM (lineM a b) j ∨ x ∈ (lineM a b).drop (j + 1) := by
        have hg := gM_idx (L := lineM a b) (i := (j : Int)) (by omega) (by omega)
        have := hg.drop
        rw [Int.toNat_natCast] at this
        rw [this, List.mem_cons]
        have : ((j : Int) + 1).toNat = j + 1 := by omega
        rw [this]
      have h6 : gM (lineM a b) j ∈ ((lineM a b).take (j + 1)).drop i := by
        have hg := (gM_idx (L := lineM a b) (i := (j : Int)) (by omega) (by omega)).get
        rw [Int.toNat_natCast] at hg
        have : (((lineM a b).take (j + 1)).drop i)[j - i]? = some (gM (lineM a b) j) := by
          rw [List.getElem?_drop, List.getElem?_take, if_pos (by omega), show i + (j - i) = j by omega, hg]
        exact List.mem_of_getElem? this
      rw [h5, h4, List.mem_append]
      constructor <;> intro h
      · rcases h with (h | h | h) | h | h
        · simp [h]
        · simp [h]
        · subst h; simp [h6]
        · subst h; simp [h6]
        · simp [h]
      · rcases h with h | h | h <;> simp [h]
    · rw [if_neg h]
      have hi2 : i = (lineM a b).length - 1 := by omega
      refine ⟨fun x => ?_, A, by rw [hi2, hl]; simp⟩
      have hd : (lineM a b).drop i = [gM (lineM a b) i] := by
        have hg := gM_idx (L := lineM a b) (i := (i : Int)) (by omega) (by omega)
        have := hg.drop
        rw [Int.toNat_natCast, show ((i : Int) + 1).toNat = i + 1 by omega, List.drop_of_length_le (i := i + 1) (by omega)] at this
        exact this
      rw [hd, List.append_nil, List.mem_singleton]
      constructor
      · exact .inl
      · rintro (h | rfl)
        · exact h
        · exact drw_mem _ (dwn (gM (lineM a b) i)) (by simp) rfl
theorem goF_ups (most : Nat) (L : List Mk) : ∀ f i, ∀ b ∈ goF most false L f i, b.2.1 = false
  | 0, _, b, h => by simp [goF] at h
  | f + 1, i, b, h => by
    unfold goF at h
    split at h
    · rcases List.mem_cons.1 h with rfl | h
      · rfl
      · exact goF_ups most L f _ b h
    · simp at h
/-- What is known of the stops that are planned so far: where the last is, and what they draw. -/
structure PlD (st : Mk × List Stp) (S : Mk → Prop) : Prop where
  at_ : OnP st.1
  draws : ∀ x, x ∈ drw st.2 ↔ S x
  last : ∀ k a, st.2 = k ++ [a] → a.1 = st.1
theorem gM_zero_line {a b : Mk} (ha : OnP a) (hb : OnP b) : gM (lineM a b) 0 = a := by
  by_cases h : far a b = 0
  · unfold lineM; rw [if_pos h]; rfl
  · obtain ⟨f0, _, _⟩ := far_bd ha hb
    rw [lineM_get h (by omega)]
    exact ptM_zero ha hb h
theorem goF_end {most : Nat} (hm : 1 ≤ most) (down : Bool) {a b : Mk} (ha : OnP a) (hb : OnP b) : ∀ (f i : Nat), i < (lineM a b).length → (lineM a b).length ≤ f + i → ∀ k v, goF most down (lineM a b) f i = k ++ [v] → v.1 = b
  | 0, i, hi, hf => by omega
  | f + 1, i, hi, hf => by
    intro k v e
    unfold goF at e
    split at e
    · rename_i h
      have hj := toJ_bd hm down ha hb h
      by_cases h2 : toJ most down (lineM a b) i < (lineM a b).length - 1
      · cases k with
        | nil =>
          exfalso
          have hne : goF most down (lineM a b) f (toJ most down (lineM a b) i) ≠ [] := by
            cases f with
            | zero => omega
            | succ f => unfold goF; rw [if_pos h2]; simp
          simp at e
          exact hne e.2
        | cons c k =>
          simp only [List.cons_append, List.cons.injEq] at e
          exact goF_end hm down ha hb f _ (by omega) (by omega) k v e.2
      · rw [goF_last most down (lineM a b) f h2] at e
        have e2 : k = [] ∧ (gM (lineM a b) (toJ most down (lineM a b) i), down, ()) = v := by
          have := List.append_inj' (s₁ := []) (t₁ := [(gM (lineM a b) (toJ most down (lineM a b) i), down, ())]) (s₂ := k) (t₂ := [v]) e rfl
          exact ⟨this.1.symm, by simpa using this.2⟩
        rw [← e2.2]
        have : toJ most down (lineM a b) i = (lineM a b).length - 1 := by omega
        show gM (lineM a b) (toJ most down (lineM a b) i) = b
        rw [this, line_last ha hb]
    · simp at e
theorem goL_nil {most : Nat} {down : Bool} {a b : Mk} (ha : OnP a) (hb : OnP b) (h : goL most down a b = []) : a = b := by
  have hl := lineM_length ha hb
  obtain ⟨f0, _, _⟩ := far_bd ha hb
  unfold goL goF at h
  split at h
  · simp at h
  · exact far_zero ha hb (by omega)
theorem PlD.up {most : Nat} (hm : 1 ≤ most) {st : Mk × List Stp} {S : Mk → Prop} (h : PlD st S) {b : Mk} (hb : OnP b) : PlD (b, st.2 ++ goL most false st.1 b) S := by
  have hl := lineM_length h.at_ hb
  obtain ⟨f0, f1, _⟩ := far_bd h.at_ hb
  refine ⟨hb, fun x => ?_, fun k v e => ?_⟩
  · show x ∈ drw (st.2 ++ goL most false st.1 b) ↔ _
    unfold goL
    rw [drw_ups _ _ (goF_ups most _ _ _), h.draws]
  · rcases List.eq_nil_or_concat (goL most false st.1 b) with h2 | ⟨q, w, h2⟩
    · have e : st.2 ++ goL most false st.1 b = k ++ [v] := e
      rw [h2, List.append_nil] at e
      rw [h.last k v e]
      exact goL_nil h.at_ hb h2
    · rw [List.concat_eq_append] at h2
      have e : st.2 ++ goL most false st.1 b = k ++ [v] := e
      rw [h2, ← List.append_assoc] at e
      have e2 : w = v := by have := (List.append_inj' e rfl).2; simpa using this
      rw [← e2]
      exact goF_end hm false h.at_ hb 64 0 (by omega) (by omega) q w h2
theorem PlD.put {st : Mk × List Stp} {S : Mk → Prop} (h : PlD st S) : PlD (st.1, st.2 ++ [dwn st.1]) (fun x => S x ∨ x = st.1) := by
  refine ⟨h.at_, fun x => ?_, fun k v e => ?_⟩
  · show x ∈ drw (st.2 ++ [dwn st.1]) ↔ _
    rcases List.eq_nil_or_concat st.2 with h2 | ⟨q, w, h2⟩
    · have := h.draws x
      rw [h2] at this ⊢
      rw [← this]
      simp [drw, onk, dwn]
    · rw [List.concat_eq_append] at h2
      have hw := h.last q w h2
      have := h.draws x
      rw [h2] at this ⊢
      rw [drw_snoc, this]
      have h3 : x ∈ sgm w (dwn st.1) → x = st.1 := by
        intro h
        unfold sgm at h
        split at h
        · rw [hw] at h
          have e : lineM st.1 (dwn st.1).1 = [st.1] := lineM_same
          rw [e] at h
          simpa using h
        · simp at h
      have h4 : x ∈ onk (dwn st.1) ↔ x = st.1 := by simp [onk, dwn]
      rw [h4]
      constructor <;> intro h
      · rcases h with h | h | h
        · simp [h]
        · simp [h3 h]
        · simp [h]
      · rcases h with h | h <;> simp [h]
  · have e : st.2 ++ [dwn st.1] = k ++ [v] := e
    have e2 : dwn st.1 = v := by have := (List.append_inj' e rfl).2; simpa using this
    rw [← e2]; rfl
theorem PlD.down {most : Nat} (hm : 1 ≤ most) {st : Mk × List Stp} {S : Mk → Prop} (h : PlD st S) (hd : ∃ k, st.2 = k ++ [dwn st.1]) {b : Mk} (hb : OnP b) : PlD (drF most st b) (fun x => S x ∨ x ∈ lineM st.1 b) ∧ ∃ k, (drF most st b).2 = k ++ [dwn (drF most st b).1] := by
  have hl := lineM_length h.at_ hb
  obtain ⟨f0, f1, _⟩ := far_bd h.at_ hb
  obtain ⟨k, hk⟩ := hd
  have h0 := gM_zero_line h.at_ hb
  obtain ⟨h1, B, h2⟩ := goF_down hm h.at_ hb 64 0 k (by omega) (by omega)
  rw [h0, ← hk] at h1 h2
  have e : (drF most st b).2 = st.2 ++ goF most true (lineM st.1 b) 64 0 := rfl
  refine ⟨⟨hb, fun x => ?_, fun q v ev => ?_⟩, B, by rw [e, h2]; rfl⟩
  · rw [e, h1, h.draws, List.drop_zero]
  · rw [e, h2] at ev
    have e2 : dwn b = v := by have := (List.append_inj' ev rfl).2; simpa using this
    rw [← e2]; rfl
end Go.Cams


/- Machines that are compiled of strokes, in plain terms. -/
namespace Go.Cams
open Go Go.Fw
/-! ### Near -/
def endM (a : Mk) : List Stp → Mk
  | [] => a
  | s :: r => endM s.1 r
def Ch (most : Int) (a : Mk) : List Stp → Prop
  | [] => True
  | s :: r => far a s.1 ≤ most ∧ Ch most s.1 r
theorem ch_append {most : Int} : ∀ (l r : List Stp) (a : Mk), Ch most a (l ++ r) ↔ Ch most a l ∧ Ch most (endM a l) r
  | [], r, a => by simp [Ch, endM]
  | s :: l, r, a => by simp [Ch, endM, ch_append l r s.1, and_assoc]
theorem endM_snoc : ∀ (l : List Stp) (a : Mk) (s : Stp), endM a (l ++ [s]) = s.1
  | [], a, s => rfl
  | c :: l, a, s => endM_snoc l c.1 s
theorem far_self (a : Mk) : far a a = 0 := by unfold far siz; simp
/-- Stops that are near one another, on the plate, and end at a place. -/
structure Near (most : Nat) (st : Mk × List Stp) : Prop where
  at_ : OnP st.1
  ch : Ch most o0 st.2
  end_ : endM o0 st.2 = st.1
  on : ∀ v ∈ st.2, OnP v.1
theorem Near.put {most : Nat} {st : Mk × List Stp} (h : Near most st) (d : Bool) : Near most (st.1, st.2 ++ [(st.1, d, ())]) := by
  refine ⟨h.at_, ?_, by rw [endM_snoc], fun v hv => ?_⟩
  · rw [ch_append, h.end_]
    exact ⟨h.ch, by rw [far_self]; omega, trivial⟩
  · rcases List.mem_append.1 hv with hv | hv
    · exact h.on v hv
    · rw [List.mem_singleton.1 hv]; exact h.at_
/-! ### The machine -/
end Go.Cams


/- Inner loops with untold results; drawn strokes. -/
namespace Go.Fw
variable {α β σ τ : Type}
end Go.Fw
namespace Go.Cams
open Go Go.Fw
/-- Strokes as they are drawn. -/
def SmT (K : List Stk) : Prop := K.length ≤ 4 ∧ ∀ s ∈ K, (1 ≤ s.length ∧ s.length ≤ 4) ∧ ∀ m ∈ s, OnP m
theorem SmT.rng {K : List Stk} (h : SmT K) : RngT K := ⟨by have := h.1; omega, fun s hs => ⟨by have := (h.2 s hs).1; omega, fun m hm => ⟨((h.2 s hs).2 m hm).len, onP_rng ((h.2 s hs).2 m hm)⟩⟩⟩
/-- No move is longer than told. -/
theorem Ch.get {most : Int} : ∀ {l : List Stp} {a : Mk}, Ch most a l → ∀ {i : Nat} {s t : Stp}, l[i]? = some s → l[i + 1]? = some t → far s.1 t.1 ≤ most
  | [], _, _, i, s, t, h, _ => by simp at h
  | [c], _, _, i, s, t, _, h => by simp at h
  | c :: d :: r, a, h, 0, s, t, h1, h2 => by
    simp at h1 h2
    subst h1; subst h2
    exact h.2.1
  | c :: d :: r, a, h, i + 1, s, t, h1, h2 => Ch.get (l := d :: r) (a := c.1) h.2 (i := i) (by simpa using h1) (by simpa using h2)
theorem Ch.first {most : Int} {l : List Stp} {a : Mk} {t : Stp} (h : Ch most a l) (h2 : l[0]? = some t) : far a t.1 ≤ most := by
  cases l with
  | nil => simp at h2
  | cons c r => simp at h2; subst h2; exact h.1
end Go.Cams
namespace Go.Cams
open Go Go.Fw
end Go.Cams


/- Flat cutters and feet; springs that keep a follower on its cam; shafts that turn with the machine, in plain terms. -/
namespace Go.Cams
open Go Go.Fw
/-! ### Flat cutters -/
/-! ### Springs -/
def bends (c : List Int) : List Int := tb c.length fun i => bendP c (i : Nat)
theorem bends_bd {c : List Int} (h0 : 0 < c.length) (hC : ∀ v ∈ c, 0 ≤ v ∧ v ≤ 10000) (x : Int) : -20000 ≤ bendP c x ∧ bendP c x ≤ 20000 := by
  have a := hC _ (cAt_mem h0 (x + 1))
  have b := hC _ (cAt_mem h0 x)
  have d := hC _ (cAt_mem h0 (x - 1))
  unfold bendP; omega
/-! ### Shafts that turn with the machine -/
end Go.Cams


/- Slopes, bases and wear of cams, in plain terms. -/
namespace Go.Cams
open Go Go.Fw
/-! ### Tracks -/
/-! ### Landings and wear -/
end Go.Cams


/- Slopes and bases, in plain terms. -/
namespace Go.Cams
open Go Go.Fw
abbrev Slp : Type := Int × (Int × Unit)
/-! ### Bases -/
/-! ### Bounds -/
end Go.Cams
namespace Go.Cams
open Go Go.Fw
/-- A slope that can be compared. -/
structure SlB (s : Slp) : Prop where
  p : -1000000000 ≤ s.1 ∧ s.1 ≤ 1000000000
  q : 1 ≤ s.2.1 ∧ s.2.1 ≤ 1000000000
theorem SlB.siz {s : Slp} (h : SlB s) : 0 ≤ Cams.siz s.1 ∧ Cams.siz s.1 ≤ 1000000000 := by
  have := h.p
  unfold Cams.siz; split <;> omega
end Go.Cams
namespace Go.Cams
open Go Go.Fw
end Go.Cams


/- Followers: flown steps, the hardest landing, springs that let go. In plain terms. -/
namespace Go.Cams
open Go Go.Fw
end Go.Cams


/- Texts cut at a byte, numbers read. In plain terms. -/
namespace Go.Cams
open Go Go.Fw
theorem mod48 {d : Nat} (h : d < 10) : (UInt8.ofNat (48 + d)).toNat = 48 + d := by
  rw [UInt8.toNat_ofNat']; omega
/-- A numeral's bytes are digits. -/
theorem dec_dig : ∀ (u : Nat) (c : UInt8), c ∈ Lib.decDigits u → 48 ≤ c.toNat ∧ c.toNat ≤ 57 := by
  intro u
  induction u using Nat.strongRecOn with
  | ind u ih =>
    intro c hc
    by_cases h : u < 10
    · rw [dec_small h] at hc
      rw [List.mem_singleton.1 hc, mod48 h]; omega
    · rw [dec_big h] at hc
      rcases List.mem_append.1 hc with hc | hc
      · exact ih (u / 10) (by omega) c hc
      · rw [List.mem_singleton.1 hc, mod48 (Nat.mod_lt _ (by omega))]; omega
theorem dec_ne (u : Nat) : Lib.decDigits u ≠ [] := by
  by_cases h : u < 10
  · rw [dec_small h]; simp
  · rw [dec_big h]; simp
theorem parse_dec {M : Nat} (hM : M ≤ 18446744073709551615) : ∀ (u : Nat), u ≤ M → ∀ r, Lib.parseUintM M 0 (Lib.decDigits u ++ r) = Lib.parseUintM M u r := by
  intro u
  induction u using Nat.strongRecOn with
  | ind u ih =>
    intro hu r
    by_cases h : u < 10
    · rw [dec_small h]
      simp only [List.cons_append, List.nil_append, Lib.parseUintM, mod48 h]
      rw [if_pos (by omega), if_neg (by omega), if_neg (by omega), show 0 * 10 + (48 + u - 48) = u by omega]
    · rw [dec_big h, List.append_assoc, ih (u / 10) (by omega) (by omega)]
      have hm : u % 10 < 10 := Nat.mod_lt _ (by omega)
      simp only [List.cons_append, List.nil_append, Lib.parseUintM, mod48 hm]
      rw [if_pos (by omega), if_neg (by omega), if_neg (by omega), show u / 10 * 10 + (48 + u % 10 - 48) = u by omega]
theorem parse_int {u : Nat} (h : u ≤ 9223372036854775807) : Lib.parseIntB 64 (Lib.decDigits u) = .ok (u : Int) := by
  have hp := parse_dec (M := 2 ^ 64 - 1) (by decide) u (by omega) []
  rw [List.append_nil] at hp
  have hd := dec_dig u
  have hn := dec_ne u
  generalize Lib.decDigits u = l at hp hd hn
  cases l with
  | nil => exact absurd rfl hn
  | cons c r =>
    have hc := hd c (by simp)
    unfold Lib.parseIntB
    simp only
    rw [if_neg (by omega)]
    unfold Lib.parseUintB
    rw [if_neg hn, hp]
    simp only [Lib.parseUintM]
    rw [if_neg (by omega), if_neg (by omega), if_neg (by omega)]
/-! ### Texts cut at a byte -/
theorem ix_hit {c : UInt8} {w : List UInt8} (h : c ∉ w) (r : List UInt8) : Lib.index (w ++ c :: r) [c] = (w.length : Nat) := by
  refine Lib.index_first (by simp) ?_ fun j hj => ?_
  · unfold Lib.occAt
    rw [List.drop_left' rfl]
    simp
  · cases ho : Lib.occAt (w ++ c :: r) [c] j with
    | false => rfl
    | true =>
      have := Lib.occAt_head (c := c) (t := []) rfl ho
      rw [List.getElem?_append_left hj] at this
      exact absurd (List.mem_of_getElem? this) h
theorem ix_miss {c : UInt8} {w : List UInt8} (h : c ∉ w) : Lib.index w [c] = -1 := by
  refine Lib.index_none fun j hj => ?_
  cases ho : Lib.occAt w [c] j with
  | false => rfl
  | true => exact absurd (List.mem_of_getElem? (Lib.occAt_head (c := c) (t := []) rfl ho)) h
theorem split_join {c : UInt8} : ∀ (w : List UInt8) (ws : List (List UInt8)), c ∉ w → (∀ v ∈ ws, c ∉ v) → Lib.splitK [c] 0 (Lib.count (Lib.join (w :: ws) [c]) [c]) (Lib.join (w :: ws) [c]) = w :: ws
  | w, [], h, _ => by
    show Lib.splitK [c] 0 (Lib.count (Lib.join [w] [c]) [c]) (Lib.join [w] [c]) = [w]
    have e : Lib.join [w] [c] = w := by simp [Lib.join]
    rw [e, Lib.count_miss (ix_miss h)]
    rfl
  | w, v :: ws, h, hs => by
    have e : Lib.join (w :: v :: ws) [c] = w ++ c :: Lib.join (v :: ws) [c] := by simp [Lib.join]
    have ix := ix_hit h (Lib.join (v :: ws) [c])
    rw [e, Lib.count_hit (by simp) ix, Nat.add_comm 1]
    have hd : (w ++ c :: Lib.join (v :: ws) [c]).drop (w.length + 1) = Lib.join (v :: ws) [c] := by simp
    have ih := split_join v ws (hs v (by simp)) fun u hu => hs u (by simp [hu])
    rw [List.length_singleton, hd]
    unfold Lib.splitK
    rw [if_neg (by rw [ix]; simp), ix, Int.toNat_natCast, List.length_singleton, hd, ih]
    simp
theorem tx_map : ∀ {l : List ByteArray} {ws : List (List UInt8)}, l.map (·.data.toList) = ws → l = ws.map tx := by
  intro l ws h
  subst h
  rw [List.map_map]
  exact ((List.map_congr_left fun a _ => rfl).trans (List.map_id l)).symm
theorem split_tx {c : UInt8} {w : List UInt8} {ws : List (List UInt8)} (h : c ∉ w) (hs : ∀ v ∈ ws, c ∉ v) : Lib.splitB (tx [c]) 0 (Lib.countB (tx (Lib.join (w :: ws) [c])) (tx [c])) (tx (Lib.join (w :: ws) [c])) = (w :: ws).map tx :=
  tx_map ((Lib.splitB_data _ _ _ _).trans (split_join w ws h hs))
end Go.Cams


/- Tracks of followers: on the cam or above it. In plain terms. -/
namespace Go.Cams
open Go Go.Fw
end Go.Cams


/- Texts cut at each byte of a kind; numerals read strictly and with a check. In plain terms. -/
namespace Go.Cams
open Go Go.Fw
theorem tx_toList (l : List UInt8) : (tx l).toList = l := by rw [ByteArray.toList_eq]; rfl
/-! ### Words between bytes of a kind -/
def splitC (c : UInt8) : List UInt8 → List (List UInt8)
  | [] => [[]]
  | x :: l => if x = c then [] :: splitC c l else match splitC c l with
    | [] => [[x]]
    | w :: ws => (x :: w) :: ws
theorem splitC_ne (c : UInt8) (l : List UInt8) : ∃ w ws, splitC c l = w :: ws := by
  cases l with
  | nil => exact ⟨_, _, rfl⟩
  | cons x l =>
    unfold splitC
    split
    · exact ⟨_, _, rfl⟩
    · split
      · exact ⟨_, _, rfl⟩
      · exact ⟨_, _, rfl⟩
theorem splitC_miss {c : UInt8} : ∀ {w : List UInt8}, c ∉ w → splitC c w = [w]
  | [], _ => rfl
  | x :: w, h => by
    simp only [List.mem_cons, not_or] at h
    unfold splitC
    rw [if_neg (fun e => h.1 e.symm), splitC_miss h.2]
theorem splitC_hit {c : UInt8} : ∀ {w : List UInt8}, c ∉ w → ∀ r, splitC c (w ++ c :: r) = w :: splitC c r
  | [], _, r => by
    show splitC c (c :: r) = _
    rw [splitC, if_pos rfl]
  | x :: w, h, r => by
    simp only [List.mem_cons, not_or] at h
    show splitC c (x :: (w ++ c :: r)) = _
    rw [splitC, if_neg (fun e => h.1 e.symm), splitC_hit h.2 r]
theorem splitC_spec (c : UInt8) : ∀ l : List UInt8, Lib.join (splitC c l) [c] = l ∧ ∀ w ∈ splitC c l, c ∉ w
  | [] => by simp [splitC, Lib.join]
  | x :: l => by
    obtain ⟨h1, h2⟩ := splitC_spec c l
    obtain ⟨w, ws, e⟩ := splitC_ne c l
    unfold splitC
    rw [e] at h1 h2 ⊢
    split
    · rename_i hx
      subst hx
      refine ⟨?_, ?_⟩
      · show Lib.join ([] :: w :: ws) [x] = _
        have : Lib.join ([] :: w :: ws) [x] = x :: Lib.join (w :: ws) [x] := by simp [Lib.join]
        rw [this, h1]
      · intro v hv
        rcases List.mem_cons.1 hv with rfl | hv
        · simp
        · exact h2 v hv
    · rename_i hx
      refine ⟨?_, ?_⟩
      · cases ws with
        | nil =>
          have h0 : Lib.join [w] [c] = w := by simp [Lib.join]
          rw [h0] at h1
          simp [Lib.join, h1]
        | cons v vs =>
          have h0 : Lib.join (w :: v :: vs) [c] = w ++ c :: Lib.join (v :: vs) [c] := by simp [Lib.join]
          have h3 : Lib.join ((x :: w) :: v :: vs) [c] = x :: (w ++ c :: Lib.join (v :: vs) [c]) := by simp [Lib.join]
          rw [h3, ← h0, h1]
      · intro v hv
        rcases List.mem_cons.1 hv with rfl | hv
        · intro hm
          rcases List.mem_cons.1 hm with e | hm
          · exact hx e.symm
          · exact h2 w (by simp) hm
        · exact h2 v (by simp [hv])
theorem splitC_join {c : UInt8} : ∀ (w : List UInt8) (ws : List (List UInt8)), c ∉ w → (∀ v ∈ ws, c ∉ v) → splitC c (Lib.join (w :: ws) [c]) = w :: ws
  | w, [], h, _ => by
    have e : Lib.join [w] [c] = w := by simp [Lib.join]
    rw [e, splitC_miss h]
  | w, v :: ws, h, hs => by
    have e : Lib.join (w :: v :: ws) [c] = w ++ c :: Lib.join (v :: ws) [c] := by simp [Lib.join]
    rw [e, splitC_hit h, splitC_join v ws (hs v (by simp)) fun u hu => hs u (by simp [hu])]
theorem split_all (c : UInt8) (l : List UInt8) : Lib.splitB (tx [c]) 0 (Lib.countB (tx l) (tx [c])) (tx l) = (splitC c l).map tx := by
  obtain ⟨h1, h2⟩ := splitC_spec c l
  obtain ⟨w, ws, e⟩ := splitC_ne c l
  have := split_tx (c := c) (w := w) (ws := ws) (h2 w (by rw [e]; simp)) fun v hv => h2 v (by rw [e]; simp [hv])
  rw [← e, h1] at this
  exact this
theorem cut_hit {c : UInt8} {w : List UInt8} (h : c ∉ w) (r : List UInt8) : Lib.cut (w ++ c :: r) [c] = (w, r, true) := by
  have ix := ix_hit h r
  unfold Lib.cut
  rw [if_pos (by omega), ix, Int.toNat_natCast]
  simp
theorem cut_miss {c : UInt8} {w : List UInt8} (h : c ∉ w) : Lib.cut w [c] = (w, [], false) := by
  have ix := ix_miss h
  unfold Lib.cut
  rw [if_neg (by omega)]
/-! ### Numerals -/
theorem dec_lenK : ∀ (k u : Nat), u < 10 ^ (k + 1) → (Lib.decDigits u).length ≤ k + 1
  | 0, u, h => by rw [dec_small (by simpa using h)]; simp
  | k + 1, u, h => by
    by_cases h10 : u < 10
    · rw [dec_small h10]; simp
    · rw [dec_big h10, List.length_append]
      have := dec_lenK k (u / 10) (by rw [Nat.pow_succ] at h; omega)
      simp; omega
/-- A number that is written as it is read. -/
def numI (l : List UInt8) : Int × Bool := match Lib.parseIntB 64 l with
  | .ok v => (v, Lib.itoa v == l)
  | .range => (Lib.intSat 64 l, false)
  | _ => (0, false)
theorem parse_bd {l : List UInt8} {v : Int} (h : Lib.parseIntB 64 l = .ok v) : -9223372036854775808 ≤ v ∧ v ≤ 9223372036854775807 := by
  unfold Lib.parseIntB at h
  cases l with
  | nil => cases h
  | cons c r =>
    simp only at h
    split at h
    · cases h
    · cases h
    · split at h
      · cases h
      · split at h
        · cases h
        · rename_i h1 h2
          injection h with h
          simp only [Nat.reducePow, Nat.reduceSub] at h1 h2
          split at h
          · rename_i hn
            have : ¬ 9223372036854775808 < _ := fun e => h2 ⟨hn, e⟩
            omega
          · rename_i hn
            have : ¬ 9223372036854775808 ≤ _ := fun e => h1 ⟨hn, e⟩
            omega
theorem numI_bd (l : List UInt8) : -9223372036854775808 ≤ (numI l).1 ∧ (numI l).1 ≤ 9223372036854775807 := by
  unfold numI
  rcases h : Lib.parseIntB 64 l with v | _ | _
  · exact parse_bd h
  · exact ⟨show -9223372036854775808 ≤ (0 : Int) by decide, show (0 : Int) ≤ 9223372036854775807 by decide⟩
  · show _ ≤ Lib.intSat 64 l ∧ Lib.intSat 64 l ≤ _
    unfold Lib.intSat
    split <;> simp
end Go.Cams
namespace Go.Cams
open Go Go.Fw
end Go.Cams


/- Programs read from their texts. In plain terms. -/
namespace Go.Cams
open Go Go.Fw
theorem dec_no' {c : UInt8} (h : c.toNat < 48 ∨ 57 < c.toNat) (u : Nat) : c ∉ Lib.decDigits u := fun hm => by
  have := dec_dig u c hm
  omega
end Go.Cams
namespace Go.Cams
open Go Go.Fw
end Go.Cams


/- Cams read from their texts. In plain terms. -/
namespace Go.Cams
open Go Go.Fw
/-! ### Runs -/
/-! ### Words of runs -/
/-- What is known of a cam as far as it is read. -/
def GoodC (c : List Int) : Prop := c.length ≤ 360 ∧ ∀ v ∈ c, 0 ≤ v ∧ v ≤ 10000
theorem GoodC.rng {c : List Int} (h : GoodC c) : Rng c := ⟨by have := h.1; omega, fun v hv => by have := h.2 v hv; omega⟩
end Go.Cams


/- Texts of shafts. In plain terms. -/
namespace Go.Cams
open Go Go.Fw
structure RngSf (s : Sft) : Prop where
  n : -32768 ≤ s.1 ∧ s.1 ≤ 32767
  d : -32768 ≤ s.2.1 ∧ s.2.1 ≤ 32767
  p : -32768 ≤ s.2.2.1 ∧ s.2.2.1 ≤ 32767
  c : Rng s.2.2.2.1
end Go.Cams


/- Shafts read from their texts. In plain terms. -/
namespace Go.Cams
open Go Go.Fw
theorem join_cons2 (w v : List UInt8) (ws : List (List UInt8)) (c : UInt8) : Lib.join (w :: v :: ws) [c] = w ++ c :: Lib.join (v :: ws) [c] := by simp [Lib.join]
/-! ### Lines -/
def linesT (ls : List (List UInt8)) : List UInt8 := (ls.map (· ++ [10])).flatten
theorem linesT_join : ∀ ls : List (List UInt8), Lib.join (ls ++ [[]]) [10] = linesT ls
  | [] => by simp [Lib.join, linesT]
  | [w] => by simp [Lib.join, linesT]
  | w :: v :: ls => by
    have ih := linesT_join (v :: ls)
    have e : (w :: v :: ls) ++ [[]] = w :: v :: (ls ++ [[]]) := rfl
    rw [e, join_cons2]
    have e2 : v :: (ls ++ [[]]) = (v :: ls) ++ [[]] := rfl
    rw [e2, ih]
    simp [linesT]
theorem lines_split {ls : List (List UInt8)} (h : ∀ w ∈ ls, (10 : UInt8) ∉ w) : splitC 10 (linesT ls) = ls ++ [[]] := by
  rw [← linesT_join]
  cases ls with
  | nil => simp [Lib.join, splitC]
  | cons w ls =>
    exact splitC_join w (ls ++ [[]]) (h w (by simp)) fun v hv => by
      rcases List.mem_append.1 hv with hv | hv
      · exact h v (by simp [hv])
      · rw [List.mem_singleton.1 hv]; simp
end Go.Cams


/- Cuts' texts, and what a list of cuts of one cutter does. In plain terms. -/
namespace Go.Cams
open Go Go.Fw
theorem OneK.okCt {m : Nat} {L : List Ct} (h : OneK m L) (hm : m ≤ 360) : okCt L 8 = true := by
  have hr := h.rng hm
  simp only [Go.Cams.okCt, Bool.and_eq_true, decide_eq_true_eq, List.all_eq_true]
  refine ⟨h.l, fun v hv => ?_⟩
  have := h.el v hv
  simp only [ctOk, Bool.and_eq_true, inR_iff]
  rw [hr.i1 hv, hr.i2 hv, hr.i3 hv, wrap_id (by simp) (by simp)]
  omega
/-! ### Sums -/
end Go.Cams


/- Shafts' periods, in plain terms. -/
namespace Go.Cams
open Go Go.Fw
def nN (s : Sft) : Nat := (wr .i64 s.1).toNat
def nD (s : Sft) : Nat := (wr .i64 s.2.1).toNat
def nL (s : Sft) : Nat := s.2.2.2.1.length
def nP (s : Sft) : Nat := (wr .i64 s.2.2.1).toNat
theorem Good.nn {s : Sft} (h : Good s) : (wr .i64 s.1 = (nN s : Int) ∧ 1 ≤ nN s ∧ nN s ≤ 60) ∧ (wr .i64 s.2.1 = (nD s : Int) ∧ 1 ≤ nD s ∧ nD s ≤ 60) ∧ (8 ≤ nL s ∧ nL s ≤ 360) ∧ (wr .i64 s.2.2.1 = (nP s : Int) ∧ nP s ≤ 360) := by
  have h1 := h.num
  have h2 := h.den
  have h3 := h.len
  have h4 := h.ph
  unfold nN nD nL nP
  omega
/-- A shaft that is drawn. -/
structure DrS (s : Sft) : Prop where
  n : 1 ≤ s.1 ∧ s.1 ≤ 3
  d : 1 ≤ s.2.1 ∧ s.2.1 ≤ 3
  l : 8 ≤ s.2.2.2.1.length ∧ s.2.2.2.1.length ≤ 16
  c : ∀ v ∈ s.2.2.2.1, 0 ≤ v ∧ v ≤ 9
  p : 0 ≤ s.2.2.1 ∧ s.2.2.1 < (s.2.2.2.1.length : Int)
theorem DrS.rng {s : Sft} (h : DrS s) : RngSf s := ⟨by have := h.n; omega, by have := h.d; omega, by have := h.p; have := h.l; omega, rng_bd (by have := h.l; omega) fun v hv => by have := h.c v hv; omega⟩
theorem DrS.ok {s : Sft} (h : DrS s) : okS s = true := by
  have h1 := h.n
  have h2 := h.d
  have h3 := h.l
  have h4 := h.p
  simp only [okS, okC, Bool.and_eq_true, inR_iff, List.all_eq_true]
  rw [wrap_id (x := s.1) (by omega) (by omega), wrap_id (x := s.2.1) (by omega) (by omega), wrap_id (x := s.2.2.1) (by omega) (by omega), wrap_id (by omega) (by omega)]
  refine ⟨⟨⟨by omega, by omega⟩, ⟨by omega, fun v hv => ?_⟩⟩, by omega⟩
  have := h.c v hv
  simp only [okV, inR_iff]
  rw [wrap_id (by omega) (by omega)]
  omega
end Go.Cams


/- Cams turned and mirrored, in plain terms. -/
namespace Go.Cams
open Go Go.Fw
/-! ### Mirrors -/
/-! ### Which of two turns comes first -/
def LexP (a b : Int → Int) (n : Nat) : Prop := ∃ i : Nat, i < n ∧ (∀ j : Nat, j < i → a j = b j) ∧ a i < b i
noncomputable instance lexD (a b : Int → Int) (n : Nat) : Decidable (LexP a b n) := Classical.propDecidable _
/-! ### Sums -/
/-! ### The greatest's place -/
end Go.Cams


/- Plates' texts in base 16, in plain terms. -/
namespace Go.Cams
open Go Go.Fw
def hxN : Nat → Nat → List UInt8
  | 0, _ => []
  | n + 1, u => hxN n (u / 16) ++ [Fw.hd (u % 16)]
theorem hxN_len : ∀ n u, (hxN n u).length = n
  | 0, _ => rfl
  | n + 1, u => by simp [hxN, hxN_len n]
theorem hxN_zero : ∀ n, hxN n 0 = List.replicate n 48
  | 0 => rfl
  | n + 1 => by
    have e : Fw.hd (0 % 16) = 48 := by decide
    rw [hxN, Nat.zero_div, hxN_zero n, e, List.replicate_succ']
theorem hex_pad : ∀ (n u : Nat), u < 16 ^ (n + 1) → (hexD u).length ≤ n + 1 ∧ List.replicate (n + 1 - (hexD u).length) 48 ++ hexD u = hxN (n + 1) u
  | 0, u, h => by
    have h : u < 16 := by simpa using h
    rw [hexD_lt h]
    refine ⟨by simp, ?_⟩
    simp [hxN, Nat.mod_eq_of_lt h]
  | n + 1, u, h => by
    by_cases hu : u < 16
    · rw [hexD_lt hu]
      refine ⟨by simp, ?_⟩
      rw [hxN, Nat.div_eq_of_lt hu, hxN_zero, Nat.mod_eq_of_lt hu]
      simp
    · have hd : u / 16 < 16 ^ (n + 1) := Nat.div_lt_of_lt_mul (by rw [Nat.mul_comm, ← Nat.pow_succ]; exact h)
      obtain ⟨h1, h2⟩ := hex_pad n (u / 16) hd
      rw [hexD_ge (by omega)]
      refine ⟨by simp; omega, ?_⟩
      rw [hxN, ← h2, List.length_append, List.length_singleton, show n + 1 + 1 - ((hexD (u / 16)).length + 1) = n + 1 - (hexD (u / 16)).length by omega, List.append_assoc]
theorem hex16 {u : Nat} (h : u < 18446744073709551616) : (hexD u).length ≤ 16 ∧ List.replicate (16 - (hexD u).length) 48 ++ hexD u = hxN 16 u := hex_pad 15 u (by simpa using h)
end Go.Cams


/- Plates read from their texts in base 16, in plain terms. -/
namespace Go.Cams
open Go Go.Fw
theorem hexVal_hd : ∀ k, k < 16 → hexVal (Fw.hd k) = some k := by decide
theorem pu16_cons (c : UInt8) (r : List UInt8) (n : Nat) : pu16 (c :: r) n = match hexVal c with
    | none => (0, 2)
    | some d => if 1152921504606846976 ≤ n then (18446744073709551615, 1) else pu16 r (n * 16 + d) := by rw [pu16]; rfl
theorem pu16_app : ∀ (l r : List UInt8) (n m : Nat), pu16 l n = (m, 0) → pu16 (l ++ r) n = pu16 r m
  | [], r, n, m, h => by
    injection h with h
    subst h
    rfl
  | c :: l, r, n, m, h => by
    show pu16 (c :: (l ++ r)) n = _
    rw [pu16_cons] at h ⊢
    cases hv : hexVal c with
    | none => rw [hv] at h; cases h
    | some d =>
      rw [hv] at h
      simp only at h ⊢
      split at h
      · cases h
      · rename_i h1
        rw [if_neg h1]
        exact pu16_app l r _ m h
theorem pu16_hx : ∀ (n : Nat), n ≤ 16 → ∀ u, u < 16 ^ n → pu16 (hxN n u) 0 = (u, 0)
  | 0, _, u, h => by
    have h : u = 0 := by simpa using h
    subst h
    rfl
  | n + 1, hn, u, h => by
    have hd : u / 16 < 16 ^ n := Nat.div_lt_of_lt_mul (by rw [Nat.mul_comm, ← Nat.pow_succ]; exact h)
    have hp : 16 ^ n ≤ 16 ^ 15 := Nat.pow_le_pow_right (by omega) (by omega)
    have hp2 : (16 : Nat) ^ 15 = 1152921504606846976 := by decide
    have ih := pu16_hx n (by omega) (u / 16) hd
    rw [hxN, pu16_app _ _ _ _ ih]
    unfold pu16
    rw [hexVal_hd _ (Nat.mod_lt _ (by omega))]
    simp only
    rw [if_neg (by omega)]
    show (u / 16 * 16 + u % 16, 0) = _
    rw [show u / 16 * 16 + u % 16 = u by omega]
/-- What impl.unhex answers. -/
def uhx (l : List UInt8) : Int := if (puT l).2 = 0 then ((puT l).1 : Int) else 0
theorem hxN_ne {n u : Nat} (h : 0 < n) : hxN n u ≠ [] := fun e => by have := hxN_len n u; rw [e] at this; simp at this; omega
theorem uhx_hx {u : Nat} (h : u < 18446744073709551616) : uhx (hxN 16 u) = u := by
  unfold uhx puT
  rw [if_neg (hxN_ne (by omega)), pu16_hx 16 (by omega) u (by simpa using h), if_pos rfl]
theorem hd_ne10 : ∀ k, k < 16 → Fw.hd k ≠ 10 := by decide
theorem hxN_no : ∀ n u, (10 : UInt8) ∉ hxN n u
  | 0, _ => by simp [hxN]
  | n + 1, u => by
    rw [hxN]
    intro h
    rcases List.mem_append.1 h with h | h
    · exact hxN_no n _ h
    · exact hd_ne10 _ (Nat.mod_lt _ (by omega)) (List.mem_singleton.1 h).symm
end Go.Cams


/- Grids' texts, in plain terms. -/
namespace Go.Cams
open Go Go.Fw
/-- The line of row r of a grid. -/
def grL (g : List Int) (r : Nat) : List UInt8 := Lib.decDigits r ++ 32 :: hxN 16 (g.getD r 0).toNat
/-- The first n rows of a grid that hold a pair. -/
def nzN (g : List Int) (n : Nat) : List Nat := (List.range n).filter fun r => decide (g.getD r 0 ≠ 0)
def grT (g : List Int) (n : Nat) : List UInt8 := linesT ((nzN g n).map (grL g))
theorem linesT_snoc (ls : List (List UInt8)) (w : List UInt8) : linesT (ls ++ [w]) = linesT ls ++ (w ++ [10]) := by simp [linesT]
theorem grT_yes {g : List Int} {n : Nat} (h : g.getD n 0 ≠ 0) : grT g (n + 1) = grT g n ++ (grL g n ++ [10]) := by
  unfold grT nzN
  rw [List.range_succ, List.filter_append, List.map_append]
  have e : List.filter (fun r => decide (g.getD r 0 ≠ 0)) [n] = [n] := by rw [List.filter_cons_of_pos (by simpa using h)]; rfl
  rw [e, List.map_singleton, linesT_snoc]
theorem grT_no {g : List Int} {n : Nat} (h : g.getD n 0 = 0) : grT g (n + 1) = grT g n := by
  unfold grT nzN
  rw [List.range_succ, List.filter_append, List.map_append]
  have e : List.filter (fun r => decide (g.getD r 0 ≠ 0)) [n] = [] := by rw [List.filter_cons_of_neg (by rw [h]; decide)]; rfl
  rw [e]
  simp
theorem grL_len {g : List Int} {r : Nat} (h : r < 64) : (grL g r).length ≤ 19 := by
  have := dec_lenK 1 r (by omega)
  unfold grL
  rw [List.length_append, List.length_cons, hxN_len]
  omega
theorem grT_len (g : List Int) : ∀ n, n ≤ 64 → (grT g n).length ≤ 20 * n
  | 0, _ => by simp [grT, nzN, linesT]
  | n + 1, h => by
    have ih := grT_len g n (by omega)
    by_cases hz : g.getD n 0 = 0
    · rw [grT_no hz]; omega
    · have := grL_len (g := g) (r := n) (by omega)
      rw [grT_yes hz, List.length_append, List.length_append, List.length_singleton]
      omega
theorem grL_no (g : List Int) (r : Nat) : (10 : UInt8) ∉ grL g r := by
  intro h
  unfold grL at h
  rcases List.mem_append.1 h with h | h
  · exact dec_no' (by decide) _ h
  · rcases List.mem_cons.1 h with h | h
    · revert h; decide
    · exact hxN_no _ _ h
theorem grL_cut (g : List Int) (r : Nat) : Lib.cut (grL g r) [32] = (Lib.decDigits r, hxN 16 (g.getD r 0).toNat, true) := cut_hit (dec_no' (by decide) _) _
theorem grT_split (g : List Int) (n : Nat) : splitC 10 (grT g n) = (nzN g n).map (grL g) ++ [[]] := lines_split fun w hw => by
  obtain ⟨r, _, rfl⟩ := List.mem_map.1 hw
  exact grL_no g r
theorem nzN_mem {g : List Int} {n r : Nat} (h : r ∈ nzN g n) : r < n ∧ g.getD r 0 ≠ 0 := by
  have := List.mem_filter.1 h
  exact ⟨List.mem_range.1 this.1, by simpa using this.2⟩
def setAll (g : List Int) (rs : List Nat) : List Int := rs.foldl (fun a r => a.set r (g.getD r 0)) (List.replicate 64 0)
theorem setAll_snoc (g : List Int) (rs : List Nat) (r : Nat) : setAll g (rs ++ [r]) = (setAll g rs).set r (g.getD r 0) := by simp [setAll]
theorem setAll_len (g : List Int) (rs : List Nat) : (setAll g rs).length = 64 := by
  have key : ∀ (rs : List Nat) (a : List Int), (rs.foldl (fun a r => a.set r (g.getD r 0)) a).length = a.length := by
    intro rs
    induction rs with
    | nil => intro a; rfl
    | cons r rs ih => intro a; rw [List.foldl_cons, ih, List.length_set]
  unfold setAll
  rw [key]
  simp
theorem setAll_at (g : List Int) : ∀ (rs : List Nat) (a : List Int) (j : Nat), j < a.length → (rs.foldl (fun a r => a.set r (g.getD r 0)) a).getD j 0 = if j ∈ rs then g.getD j 0 else a.getD j 0 := by
  intro rs
  induction rs with
  | nil => intro a j _; simp
  | cons r rs ih =>
    intro a j hj
    rw [List.foldl_cons, ih _ j (by simpa using hj)]
    by_cases h1 : j ∈ rs
    · rw [if_pos h1, if_pos (List.mem_cons_of_mem _ h1)]
    · rw [if_neg h1]
      by_cases h2 : j = r
      · subst h2
        rw [if_pos (by simp)]
        simp [hj]
      · rw [if_neg (by simp [h1, h2])]
        simp only [List.getD_eq_getElem?_getD]
        rw [List.getElem?_set_ne (fun e => h2 e.symm)]
theorem setAll_nz {g : List Int} (h : g.length = 64) : setAll g (nzN g 64) = g := by
  apply List.ext_getElem
  · rw [setAll_len, h]
  · intro j h1 h2
    have hl := setAll_len g (nzN g 64)
    have key := setAll_at g (nzN g 64) (List.replicate 64 0) j (by simp; omega)
    have e1 : (setAll g (nzN g 64)).getD j 0 = (setAll g (nzN g 64))[j] := by simp [List.getD_eq_getElem?_getD, h1]
    have e2 : g.getD j 0 = g[j] := by simp [List.getD_eq_getElem?_getD, h2]
    rw [← e1, ← e2]
    unfold setAll
    rw [key]
    by_cases hz : g.getD j 0 = 0
    · rw [hz]
      split
      · rfl
      · rw [List.getD_eq_getElem?_getD, List.getElem?_replicate]
        split <;> rfl
    · have hm : j ∈ nzN g 64 := List.mem_filter.2 ⟨List.mem_range.2 (by omega), decide_eq_true hz⟩
      rw [if_pos hm]
/-! ### Repairs -/
theorem rp_same {b lo : Int} {c : List Int} (h : ∀ i, i < c.length → siz (bendP c (i : Nat)) ≤ b) : ∀ k, k ≤ c.length → rp b lo c k = (c, [])
  | 0, _ => rfl
  | k + 1, hk => by
    unfold rp
    rw [rp_same h k (by omega)]
    unfold rpS
    exact if_pos (h k (by omega))
theorem rp_none {b lo : Int} {c : List Int} : ∀ k, (rp b lo c k).2 = [] → (rp b lo c k).1 = c
  | 0, _ => rfl
  | k + 1, h => by
    unfold rp at h ⊢
    unfold rpS at h ⊢
    by_cases h1 : siz (bendP (rp b lo c k).1 k) ≤ b
    · rw [if_pos h1] at h ⊢
      exact rp_none k h
    · rw [if_neg h1] at h ⊢
      split at h
      · simp at h
      · rename_i h2
        rw [if_neg h2]
        exact rp_none k h
theorem gr_bends (c : List Int) : ∀ i, i < c.length → siz (bendP c (i : Nat)) ≤ (gr (bends c)).2.1 := by
  intro i hi
  have h := (gr_le (bends c) (0, -1, 0) (gr (bends c)).2.1).1 (Int.le_refl _)
  refine h.2 _ ?_
  unfold bends tb
  exact List.mem_map.2 ⟨i, List.mem_range.2 hi, rfl⟩
theorem gr_bends_bd {c : List Int} (h0 : 0 < c.length) (hC : ∀ v ∈ c, 0 ≤ v ∧ v ≤ 10000) : 0 ≤ (gr (bends c)).2.1 ∧ (gr (bends c)).2.1 ≤ 20000 := by
  constructor
  · exact Int.le_trans (siz_nn _) (gr_bends c 0 h0)
  · refine (gr_le (bends c) (0, -1, 0) 20000).2 ⟨by decide, fun v hv => ?_⟩
    unfold bends tb at hv
    obtain ⟨i, _, rfl⟩ := List.mem_map.1 hv
    have := bends_bd h0 hC (i : Nat)
    exact siz_le this.1 this.2
/-- The bits of a row. -/
theorem row_bits (p : Nat → Bool) {y : Nat} (h : y < 64) : (mkN p 64 / 2 ^ y) % 2 = if p y = true then 1 else 0 := by
  have e := mkN_bit p 64 y
  rw [Nat.testBit_eq_decide_div_mod_eq] at e
  have hm := Nat.mod_lt (mkN p 64 / 2 ^ y) (show 0 < 2 by omega)
  cases hp : p y with
  | true =>
    rw [hp] at e
    simp [h] at e
    simpa using e
  | false =>
    rw [hp] at e
    simp at e
    simp
    omega
theorem bct_row (p : Nat → Bool) {y : Nat} (h : y < 64) : bct (mkN p 64) (y + 1) = if p y = true then bct (mkN p 64) y + 1 else bct (mkN p 64) y := by
  simp only [bct]
  rw [row_bits p h]
  split <;> rfl
end Go.Cams


/- Digits of base 16 gathered, in plain terms. -/
namespace Go.Cams
open Go Go.Fw
end Go.Cams


/- The greatest of numbers, as the reference finds it. -/
namespace Go.Cams
open Go Go.Fw
def gbS (l : List Int) (b i : Nat) : Nat := if siz (l.getD i 0) > siz (l.getD b 0) then i else b
def gb (l : List Int) : Nat → Nat
  | 0 => 0
  | j + 1 => gbS l (gb l j) j
theorem gb_lt (l : List Int) : ∀ j, j ≤ l.length → 0 < l.length → gb l j < l.length
  | 0, _, h => h
  | j + 1, h, h0 => by
    have := gb_lt l j (by omega) h0
    show gbS l (gb l j) j < _
    unfold gbS
    split <;> omega
theorem gb_one (l : List Int) : gb l 1 = 0 := by
  show gbS l 0 0 = 0
  unfold gbS
  split <;> rfl
theorem gb_max (l : List Int) : ∀ j i, i < j → siz (l.getD i 0) ≤ siz (l.getD (gb l j) 0)
  | 0, i, h => absurd h (by omega)
  | j + 1, i, h => by
    show _ ≤ siz (l.getD (gbS l (gb l j) j) 0)
    unfold gbS
    rcases Nat.lt_or_ge i j with h1 | h1
    · have := gb_max l j i h1
      split <;> omega
    · have e : i = j := by omega
      subst e
      split <;> omega
/-- The greatest size. -/
def gbM (l : List Int) : Int := siz (l.getD (gb l l.length) 0)
theorem getD_mem {l : List Int} {i : Nat} (h : i < l.length) : l.getD i 0 ∈ l := by
  rw [List.getD_eq_getElem?_getD, List.getElem?_eq_getElem h]
  exact List.getElem_mem h
theorem gbM_max {l : List Int} : ∀ v ∈ l, siz v ≤ gbM l := by
  intro v hv
  obtain ⟨i, hi, rfl⟩ := List.getElem_of_mem hv
  have := gb_max l l.length i hi
  rw [List.getD_eq_getElem?_getD, List.getElem?_eq_getElem hi] at this
  exact this
theorem gbM_at {l : List Int} (h : 0 < l.length) : ∃ v ∈ l, gbM l = siz v := ⟨_, getD_mem (gb_lt l _ (Nat.le_refl _) h), rfl⟩
theorem gbM_gr {l : List Int} (h : 0 < l.length) : gbM l = (gr l).2.1 := by
  obtain ⟨v, hv, e⟩ := gbM_at h
  have h1 := ((gr_le l (0, -1, 0) (gr l).2.1).1 (Int.le_refl _)).2 v hv
  have h2 := (gr_le l (0, -1, 0) (gbM l)).2 ⟨by rw [e]; have := siz_nn v; show (-1 : Int) ≤ _; omega, gbM_max⟩
  have h2 : (gr l).2.1 ≤ gbM l := h2
  omega
end Go.Cams

