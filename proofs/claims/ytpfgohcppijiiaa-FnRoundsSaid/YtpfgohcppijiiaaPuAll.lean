/- What the functions compute, in plain terms: definitions and laws of lists and numbers, no program in sight. -/
import Derived.Test.YtpfgohcppijiiaaFwC
import Derived.Lib.TrailingZeros
import Derived.Lib.ItoaLen
import Derived.Lib.ItoaMem
import Derived.Lib.Join
import Derived.Lib.ParseIntB
import Derived.Lib.Split
import Derived.Lib.SplitLaws
import Derived.Lib.ItoaNum
import Derived.Lib.Bytealg
import Derived.Lib.IndexMore
import Derived.Laws.Strings
/- What the functions of cams and shafts compute, in plain terms. -/
namespace Go.Cams
open Go Go.Fw
abbrev Sft : Type := Int × (Int × (Int × ((List Int) × Unit)))

def inR (a b c : Int) : Bool := decide (b ≤ a ∧ a ≤ c)
def okV (v : Int) : Bool := inR (wr .i64 v) 0 10000
def okC (l : List Int) : Bool := inR (l.length : Int) 8 360 && l.all okV

/-! ### Validity -/
def fi {α : Type} (p : α → Bool) : List α → Int → Int
  | [], _ => -1
  | v :: r, i => if p v = true then i else fi p r (i + 1)
theorem fi_any {α : Type} (p : α → Bool) : ∀ (l : List α) (i : Int), 0 ≤ i → decide (fi p l i ≥ 0) = l.any p
  | [], i, _ => by simp [fi]
  | v :: r, i, h => by
    unfold fi
    by_cases hp : p v = true
    · simp [hp, h]
    · have hp' : p v = false := by simpa using hp
      simp [hp', fi_any p r (i + 1) (by omega)]

/-- A shaft that is valid. -/
def okS (s : Sft) : Bool := inR (wr .i64 s.1) 1 60 && inR (wr .i64 s.2.1) 1 60 && okC s.2.2.2.1 && inR (wr .i64 s.2.2.1) 0 (wr .i64 ((s.2.2.2.1.length : Int) - 1))
/-- What is known of a list of shafts. -/
def Small (l : List Sft) : Prop := (l.length : Int) ≤ 140737488351232 ∧ ∀ s ∈ l, (s.2.2.2.1.length : Int) ≤ 140737488351232
theorem Small.get {l : List Sft} (h : Small l) {i : Nat} {s : Sft} (hs : l[i]? = some s) : (s.2.2.2.1.length : Int) ≤ 140737488351232 := h.2 s (List.mem_of_getElem? hs)

/-! ### The greatest common divisor -/
/-! ### Periods -/
def gg (a b : Int) : Int := ((Nat.gcd a.toNat b.toNat : Nat) : Int)
theorem bne_pos {a : Int} (h : 0 < a) : (a != 0) = true := by simp; omega
theorem inR_iff {a b c : Int} : inR a b c = true ↔ b ≤ a ∧ a ≤ c := by simp [inR]
structure Good (s : Sft) : Prop where
  num : 1 ≤ wr .i64 s.1 ∧ wr .i64 s.1 ≤ 60
  den : 1 ≤ wr .i64 s.2.1 ∧ wr .i64 s.2.1 ≤ 60
  len : 8 ≤ (s.2.2.2.1.length : Int) ∧ (s.2.2.2.1.length : Int) ≤ 360
  cam : ∀ v ∈ s.2.2.2.1, 0 ≤ wr .i64 v ∧ wr .i64 v ≤ 10000
  ph : 0 ≤ wr .i64 s.2.2.1 ∧ wr .i64 s.2.2.1 ≤ 360
def dl (s : Sft) : Int := wr .i64 (wr .i64 s.2.1 * (s.2.2.2.1.length : Int))
def own (s : Sft) : Int := wr .i64 (Int.tdiv (dl s) (gg (dl s) (wr .i64 s.1)))
/-! ### Codes -/
def fst0 : List Int → Int
  | [] => 0
  | v :: r => if v ≠ 0 then v else fst0 r
/-! ### Lifts -/
/-! ### Copies -/
/-! ### Equal to itself -/
/-! ### Sizes -/
/-! ### All lifts -/
/-! ### The search -/
end Go.Cams


/- Clashes of two shafts, in plain terms. -/
namespace Go.Cams
open Go Go.Fw
end Go.Cams


/- Marks on memory, and what holds them. -/
namespace Go.Cams
open Go Go.Fw
/-! ### Sizes -/
end Go.Cams
namespace Go.Cams
open Go Go.Fw
/-! ### Phases -/
end Go.Cams
namespace Go.Cams
open Go Go.Fw
end Go.Cams


/- Best phases and sums of lifts, in plain terms. -/
namespace Go.Cams
open Go Go.Fw
theorem wrap16 {x : Int} (h1 : -32768 ≤ x) (h2 : x ≤ 32767) : wr .i16 x = x := by
  show IntKind.i16.wrap x = x
  simp [IntKind.wrap, IntKind.bits, IntKind.signed]
  omega
end Go.Cams


/- Machines, turns, and greatest numbers, in plain terms. -/
namespace Go.Cams
open Go Go.Fw
/-- What is known of a list of int16. -/
structure Rng (l : List Int) : Prop where
  len : (l.length : Int) * 2 ≤ 140737488351232
  el : ∀ v ∈ l, -32768 ≤ v ∧ v ≤ 32767
theorem Rng.len' {l : List Int} (h : Rng l) : (l.length : Int) ≤ 70368744175616 := by have := h.len; omega
theorem Rng.id {l : List Int} (h : Rng l) {v : Int} (hv : v ∈ l) : wr .i64 v = v := by have := h.el v hv; exact wrap_id (by omega) (by omega)
def mxF (l : List Int) (a : Int) : Int := l.foldl (fun m v => max m v) a
def mnF (l : List Int) (a : Int) : Int := l.foldl (fun m v => min m v) a
theorem mxF_snoc (l : List Int) (a v : Int) : mxF (l ++ [v]) a = max (mxF l a) v := by simp [mxF]
theorem mnF_snoc (l : List Int) (a v : Int) : mnF (l ++ [v]) a = min (mnF l a) v := by simp [mnF]
def mxL (l : List Int) : Int := mxF l (l.headD 0)
def mnL (l : List Int) : Int := mnF l (l.headD 0)
theorem mxF_le : ∀ (l : List Int) (a b : Int), a ≤ b → (∀ v ∈ l, v ≤ b) → mxF l a ≤ b
  | [], a, b, h, _ => h
  | v :: r, a, b, h, hl => mxF_le r (max a v) b (by have := hl v (by simp); omega) (fun x hx => hl x (by simp [hx]))
theorem mxF_ge : ∀ (l : List Int) (a : Int), a ≤ mxF l a ∧ ∀ v ∈ l, v ≤ mxF l a
  | [], a => ⟨Int.le_refl _, fun _ h => by cases h⟩
  | v :: r, a => by
    have h := mxF_ge r (max a v)
    show a ≤ mxF r (max a v) ∧ ∀ x ∈ v :: r, x ≤ mxF r (max a v)
    refine ⟨by have := h.1; omega, fun x hx => ?_⟩
    rcases List.mem_cons.1 hx with rfl | hx
    · have := h.1; omega
    · exact h.2 x hx
theorem mnF_le : ∀ (l : List Int) (a b : Int), b ≤ a → (∀ v ∈ l, b ≤ v) → b ≤ mnF l a
  | [], a, b, h, _ => h
  | v :: r, a, b, h, hl => mnF_le r (min a v) b (by have := hl v (by simp); omega) (fun x hx => hl x (by simp [hx]))
theorem mnF_ge : ∀ (l : List Int) (a : Int), mnF l a ≤ a ∧ ∀ v ∈ l, mnF l a ≤ v
  | [], a => ⟨Int.le_refl _, fun _ h => by cases h⟩
  | v :: r, a => by
    have h := mnF_ge r (min a v)
    show mnF r (min a v) ≤ a ∧ ∀ x ∈ v :: r, mnF r (min a v) ≤ x
    refine ⟨by have := h.1; omega, fun x hx => ?_⟩
    rcases List.mem_cons.1 hx with rfl | hx
    · have := h.1; omega
    · exact h.2 x hx
theorem head_at {l : List Int} {v : Int} (h : At l 0 v) : l.headD 0 = v ∧ l.take 1 = [v] := by
  have := h.get
  cases l with
  | nil => simp at this
  | cons a r => simp at this; simp [this]
theorem okC_len {l : List Int} (h : okC l = true) : 8 ≤ (l.length : Int) ∧ (l.length : Int) ≤ 360 := by
  simp only [okC, Bool.and_eq_true, inR_iff] at h; exact h.1
theorem okC_el {l : List Int} (h : okC l = true) (hr : Rng l) : ∀ v ∈ l, 0 ≤ v ∧ v ≤ 10000 := by
  simp only [okC, Bool.and_eq_true, inR_iff, List.all_eq_true, okV] at h
  intro v hv
  have := h.2 v hv
  rw [hr.id hv] at this
  exact this
/-! ### Turns -/
/-- The place of a step of a turned cam. -/
theorem turn_at {x n : Int} (hn : 0 < n) (h1 : n ≤ 1000000) (hx : -4000000 ≤ x) (hx' : x ≤ 4000000) : Int.tmod (wr .i64 (Int.tmod x n + n)) n = x % n := by
  have h2 := Int.tmod_lt_of_pos x hn
  have h3 : -n < Int.tmod x n := by
    rcases Int.le_total 0 x with h | h
    · have := Int.tmod_nonneg n h; omega
    · have := Int.tmod_lt_of_pos (-x) hn
      rw [Int.neg_tmod] at this
      omega
  rw [wrap_id (by omega) (by omega), Int.tmod_eq_emod_of_nonneg (by omega), Int.add_emod_right]
  rcases Int.le_total 0 x with h | h
  · rw [Int.tmod_eq_emod_of_nonneg h, Int.emod_emod]
  · rw [Int.tmod_def, Int.sub_mul_emod_self_left]
theorem floorDiv_eq {a b : Int} (hb : 0 < b) : (if Int.tmod a b < 0 then Int.tdiv a b - 1 else Int.tdiv a b) = a / b := by
  have h1 := Int.tmod_lt_of_pos a hb
  have h2 := Int.tmod_def a b
  have h3 : -b < Int.tmod a b := by
    rcases Int.le_total 0 a with h | h
    · have := Int.tmod_nonneg b h; omega
    · have := Int.tmod_lt_of_pos (-a) hb
      rw [Int.neg_tmod] at this
      omega
  split
  · have := (Int.ediv_emod_unique (a := a) (b := b) (r := Int.tmod a b + b) (q := Int.tdiv a b - 1) hb).2 ⟨by rw [Int.mul_sub, Int.mul_one]; omega, by omega, by omega⟩
    exact this.1.symm
  · have := (Int.ediv_emod_unique (a := a) (b := b) (r := Int.tmod a b) (q := Int.tdiv a b) hb).2 ⟨by omega, by omega, by omega⟩
    exact this.1.symm
theorem ediv_bd {a b M : Int} (hb : 0 < b) (h1 : -M ≤ a) (h2 : a ≤ M) (h0 : 0 ≤ M) : -M ≤ a / b ∧ a / b ≤ M := by
  constructor
  · rw [Int.le_ediv_iff_mul_le hb]
    have : M * 1 ≤ M * b := Int.mul_le_mul_of_nonneg_left (by omega) h0
    rw [Int.neg_mul]
    omega
  · have := Int.ediv_le_ediv hb h2
    have := Int.ediv_le_self (a := M) b h0
    omega
end Go.Cams
namespace Go.Cams
open Go Go.Fw
end Go.Cams


/- Two machines in one, in plain terms. -/
namespace Go.Cams
open Go Go.Fw
end Go.Cams


/- Events, in plain terms. -/
namespace Go.Cams
open Go Go.Fw
/-! ### Marks on events -/
end Go.Cams
namespace Go.Cams
open Go Go.Fw
end Go.Cams


/- Cutters, tips, and what a cutter leaves, in plain terms. -/
namespace Go.Cams
open Go Go.Fw
/-- An element, 0 where there is none. -/
def g (l : List Int) (i : Nat) : Int := l.getD i 0
theorem g_at {l : List Int} {i v : Int} (h : At l i v) : g l i.toNat = v := by
  have := h.get
  unfold g
  rw [List.getD_eq_getElem?_getD, this]; rfl
theorem g_idx {l : List Int} {i : Int} (h0 : 0 ≤ i) (h1 : i < l.length) : At l i (g l i.toNat) := by
  obtain ⟨v, hv⟩ := at_of (l := l) h0 h1
  rw [g_at hv]; exact hv
theorem g_mem {l : List Int} {i : Nat} (h : i < l.length) : g l i ∈ l := by
  have := g_idx (l := l) (i := i) (by omega) (by omega)
  simpa using this.mem
def cAt (l : List Int) (x : Int) : Int := g l (x % l.length).toNat

/-! ### Validity -/
def kOne (k : List Int) (i : Nat) : Bool := inR (wr .i64 (g k i)) 0 10000 && (g k (k.length - 1 - i) == g k i) && (decide (i = 0) || !decide (g k (i - 1) < g k i))
def allTo (p : Nat → Bool) (n : Nat) : Bool := (List.range n).all p
def okK (k : List Int) : Bool := inR (k.length : Int) 1 31 && decide (k.length % 2 = 1) && (g k (k.length / 2) == 0) && allTo (kOne k) (k.length / 2 + 1)
/-! ### Tips -/
def half (k : List Int) : Int := (k.length / 2 : Nat)
def tipTo (c k : List Int) (s : Int) : Nat → Int
  | 0 => 0
  | i + 1 => max (tipTo c k s i) (cAt c (s + i - half k) - g k i)
def tip (c k : List Int) (s : Int) : Int := tipTo c k s k.length
theorem cAt_mem {c : List Int} (h : 0 < c.length) (x : Int) : cAt c x ∈ c := by
  have h1 := Int.emod_nonneg x (show (c.length : Int) ≠ 0 by omega)
  have h2 := Int.emod_lt_of_pos x (show 0 < (c.length : Int) by omega)
  exact g_mem (by omega)
/-! ### Cuts -/
def lfTo (c k : List Int) (p : Int) : Nat → Int
  | 0 => tip c k p
  | i + 1 => min (lfTo c k p i) (tip c k ((p + i - half k) % c.length) + g k i)
def lf (c k : List Int) (p : Int) : Int := lfTo c k p k.length
end Go.Cams
namespace Go.Cams
open Go Go.Fw
theorem rng_bd {l : List Int} (hl : (l.length : Int) ≤ 1000000) (h : ∀ v ∈ l, 0 ≤ v ∧ v ≤ 10000) : Rng l := ⟨by omega, fun v hv => by have := h v hv; omega⟩
end Go.Cams


/- Waste, and the best cutter, in plain terms. -/
namespace Go.Cams
open Go Go.Fw
structure RngS (K : List (List Int)) : Prop where
  len : (K.length : Int) * 24 ≤ 140737488351232
  el : ∀ k ∈ K, Rng k
theorem RngS.len' {K : List (List Int)} (h : RngS K) : (K.length : Int) ≤ 5864062014635 := by have := h.len; omega
def okKs (K : List (List Int)) : Bool := K.all okK
/-! ### What is left is not less -/
theorem getD_at {α : Type} {l : List α} {i : Int} {v d : α} (h : At l i v) : l.getD i.toNat d = v := by rw [List.getD_eq_getElem?_getD, h.get]; rfl
end Go.Cams


/- Cuts, in plain terms. -/
namespace Go.Cams
open Go Go.Fw
abbrev Ct : Type := Int × (Int × (Int × Unit))
structure RngC (L : List Ct) : Prop where
  len : (L.length : Int) * 6 ≤ 140737488351232
  el : ∀ v ∈ L, (-32768 ≤ v.1 ∧ v.1 ≤ 32767) ∧ (-32768 ≤ v.2.1 ∧ v.2.1 ≤ 32767) ∧ (-128 ≤ v.2.2.1 ∧ v.2.2.1 ≤ 127)
theorem RngC.len' {L : List Ct} (h : RngC L) : (L.length : Int) ≤ 23456248058538 := by have := h.len; omega
theorem RngC.i1 {L : List Ct} (h : RngC L) {v : Ct} (hv : v ∈ L) : wr .i64 v.1 = v.1 := by have := (h.el v hv).1; exact wrap_id (by omega) (by omega)
theorem RngC.i2 {L : List Ct} (h : RngC L) {v : Ct} (hv : v ∈ L) : wr .i64 v.2.1 = v.2.1 := by have := (h.el v hv).2.1; exact wrap_id (by omega) (by omega)
theorem RngC.i3 {L : List Ct} (h : RngC L) {v : Ct} (hv : v ∈ L) : wr .i64 v.2.2.1 = v.2.2.1 := by have := (h.el v hv).2.2; exact wrap_id (by omega) (by omega)
def ctOk (m : Int) (v : Ct) : Bool := inR (wr .i64 v.1) 0 359 && inR (wr .i64 v.2.1) 0 10000 && inR (wr .i64 v.2.2.1) 0 (wr .i64 (m - 1))
def okCt (L : List Ct) (m : Int) : Bool := decide ((L.length : Int) ≤ 400) && L.all (ctOk m)
def onCt (L : List Ct) (n : Int) : Bool := L.all fun v => !decide (wr .i64 v.1 ≥ n)
def okCuts (L : List Ct) (K : List (List Int)) : Bool := inR (K.length : Int) 1 8 && okKs K && okCt L K.length
def gvCode (c : List Int) (K : List (List Int)) (L : List Ct) : Int := if okC c = true then (if okCuts L K = true then (if onCt L c.length = true then 0 else 2) else 1) else 1
end Go.Cams


/- Machines that draw, in plain terms. -/
namespace Go.Cams
open Go Go.Fw
abbrev Mk : Type := List Int
abbrev Stp : Type := List Int × (Bool × Unit)
/-- A mark on the plate. -/
structure OnP (a : Mk) : Prop where
  len : a.length = 2
  x : 0 ≤ g a 0 ∧ g a 0 ≤ 63
  y : 0 ≤ g a 1 ∧ g a 1 ≤ 63
theorem OnP.eq {a : Mk} (h : OnP a) : a = [g a 0, g a 1] := by
  have hl := h.len
  match a, hl with
  | [x, y], _ => rfl
theorem onP_pair {x y : Int} (hx : 0 ≤ x ∧ x ≤ 63) (hy : 0 ≤ y ∧ y ≤ 63) : OnP [x, y] := ⟨rfl, hx, hy⟩
def siz (x : Int) : Int := if x < 0 then -x else x
def far (a b : Mk) : Int := max (siz (g a 0 - g b 0)) (siz (g a 1 - g b 1))
/-- The nearest whole number of a fraction. -/
def nr (x n : Int) : Int := (2 * x + n) / (2 * n)
def pt (a b : Mk) (k : Int) (i : Nat) : Int := g a i + nr (k * (g b i - g a i)) (far a b)
def ptM (a b : Mk) (k : Int) : Mk := [pt a b k 0, pt a b k 1]
def lineM (a b : Mk) : List Mk := if far a b = 0 then [a] else (List.range (far a b + 1).toNat).map fun k => ptM a b (k : Nat)
theorem far_bd {a b : Mk} (ha : OnP a) (hb : OnP b) : 0 ≤ far a b ∧ far a b ≤ 63 ∧ (∀ i : Nat, i = 0 ∨ i = 1 → -far a b ≤ g b i - g a i ∧ g b i - g a i ≤ far a b) := by
  have h1 := ha.x; have h2 := ha.y; have h3 := hb.x; have h4 := hb.y
  have e : far a b = max (siz (g a 0 - g b 0)) (siz (g a 1 - g b 1)) := rfl
  have e1 : siz (g a 0 - g b 0) = if g a 0 - g b 0 < 0 then -(g a 0 - g b 0) else g a 0 - g b 0 := rfl
  have e2 : siz (g a 1 - g b 1) = if g a 1 - g b 1 < 0 then -(g a 1 - g b 1) else g a 1 - g b 1 := rfl
  refine ⟨?_, ?_, fun i hi => ?_⟩
  · split at e1 <;> omega
  · split at e1 <;> split at e2 <;> omega
  · rcases hi with rfl | rfl
    · split at e1 <;> omega
    · split at e2 <;> omega
theorem nr_bd {k d n : Int} (hn : 0 < n) (k0 : 0 ≤ k) (k1 : k ≤ n) (h1 : -n ≤ d) (h2 : d ≤ n) : (0 ≤ d → 0 ≤ nr (k * d) n ∧ nr (k * d) n ≤ d) ∧ (d ≤ 0 → d ≤ nr (k * d) n ∧ nr (k * d) n ≤ 0) := by
  have hnn : (2 * (n * d) + n) / (2 * n) = d := by
    rw [show 2 * (n * d) + n = n + (2 * n) * d by rw [Int.mul_assoc]; omega, Int.add_mul_ediv_left _ _ (by omega)]
    rw [Int.ediv_eq_zero_of_lt (by omega) (by omega)]; omega
  have h00 : (2 * 0 + n) / (2 * n) = 0 := Int.ediv_eq_zero_of_lt (by omega) (by omega)
  unfold nr
  constructor
  · intro hd
    have a : 0 ≤ k * d := Int.mul_nonneg k0 hd
    have b : k * d ≤ n * d := Int.mul_le_mul_of_nonneg_right k1 hd
    have c := Int.ediv_le_ediv (c := 2 * n) (by omega) (show 2 * 0 + n ≤ 2 * (k * d) + n by omega)
    have e := Int.ediv_le_ediv (c := 2 * n) (by omega) (show 2 * (k * d) + n ≤ 2 * (n * d) + n by omega)
    omega
  · intro hd
    have a : k * d ≤ 0 := Int.mul_nonpos_of_nonneg_of_nonpos k0 hd
    have b : n * d ≤ k * d := Int.mul_le_mul_of_nonpos_right k1 hd
    have c := Int.ediv_le_ediv (c := 2 * n) (by omega) (show 2 * (k * d) + n ≤ 2 * 0 + n by omega)
    have e := Int.ediv_le_ediv (c := 2 * n) (by omega) (show 2 * (n * d) + n ≤ 2 * (k * d) + n by omega)
    omega
theorem pt_bd {a b : Mk} (ha : OnP a) (hb : OnP b) (hn : far a b ≠ 0) {k : Int} (k0 : 0 ≤ k) (k1 : k ≤ far a b) {i : Nat} (hi : i = 0 ∨ i = 1) : 0 ≤ pt a b k i ∧ pt a b k i ≤ 63 := by
  obtain ⟨f0, f1, f2⟩ := far_bd ha hb
  have hx := ha.x; have hy := ha.y; have kx := hb.x; have ky := hb.y
  obtain ⟨b1, b2⟩ := nr_bd (show 0 < far a b by omega) k0 k1 (f2 i hi).1 (f2 i hi).2
  have hga : 0 ≤ g a i ∧ g a i ≤ 63 := by rcases hi with rfl | rfl <;> assumption
  have hgb : 0 ≤ g b i ∧ g b i ≤ 63 := by rcases hi with rfl | rfl <;> assumption
  unfold pt
  rcases Int.le_total 0 (g b i - g a i) with h | h
  · have := b1 h; omega
  · have := b2 h; omega
theorem nr_zero {n : Int} (hn : 0 < n) : nr 0 n = 0 := by
  unfold nr
  exact Int.ediv_eq_zero_of_lt (by omega) (by omega)
theorem ptM_zero {a b : Mk} (ha : OnP a) (hb : OnP b) (hn : far a b ≠ 0) : ptM a b 0 = a := by
  obtain ⟨f0, _, _⟩ := far_bd ha hb
  have h : ∀ i, pt a b 0 i = g a i := fun i => by
    unfold pt
    rw [Int.zero_mul, nr_zero (by omega)]; omega
  unfold ptM
  rw [h, h]
  exact ha.eq.symm
theorem lineM_same {a : Mk} : lineM a a = [a] := by
  unfold lineM
  rw [if_pos]
  unfold far siz
  simp
end Go.Cams


/- Motions by laws, runs of a cam, and programs that are found, in plain terms. -/
namespace Go.Cams
open Go Go.Fw
theorem mulB {a b A B : Int} (a0 : 0 ≤ a) (a1 : a ≤ A) (b0 : 0 ≤ b) (b1 : b ≤ B) : 0 ≤ a * b ∧ a * b ≤ A * B := ⟨Int.mul_nonneg a0 b0, Int.mul_le_mul a1 b1 b0 (by omega)⟩
/-- How much of a change is done, as a fraction. -/
def shN (w k n : Int) : Int := if w = 1 then (if 2 * k ≤ n then 2 * k * k else n * n - 2 * (n - k) * (n - k)) else if w = 2 then 3 * k * k * n - 2 * k * k * k else if w = 3 then k * k * k * (10 * n * n - 15 * k * n + 6 * k * k) else k
def shD (w n : Int) : Int := if w = 1 then n * n else if w = 2 then n * n * n else if w = 3 then n * n * n * n * n else n
def liftP (f t w k n : Int) : Int := nr (f * shD w n + (t - f) * shN w k n) (shD w n)
theorem shD_bd {w n : Int} (n0 : 1 ≤ n) (n1 : n ≤ 360) : 1 ≤ shD w n ∧ shD w n ≤ 6046617600000 := by
  have p2 : 1 ≤ n * n := Int.mul_le_mul n0 n0 (by omega) (by omega)
  have q2 := (mulB (show 0 ≤ n by omega) n1 (show 0 ≤ n by omega) n1).2
  have p3 : 1 ≤ n * n * n := Int.mul_le_mul p2 n0 (by omega) (by omega)
  have q3 := (mulB (show 0 ≤ n * n by omega) q2 (show 0 ≤ n by omega) n1).2
  have p4 : 1 ≤ n * n * n * n := Int.mul_le_mul p3 n0 (by omega) (by omega)
  have q4 := (mulB (show 0 ≤ n * n * n by omega) q3 (show 0 ≤ n by omega) n1).2
  have p5 : 1 ≤ n * n * n * n * n := Int.mul_le_mul p4 n0 (by omega) (by omega)
  have q5 := (mulB (show 0 ≤ n * n * n * n by omega) q4 (show 0 ≤ n by omega) n1).2
  unfold shD
  split
  · omega
  split
  · omega
  split <;> omega
/-! ### Runs -/
def kdOf (x : Int) : Int := if x > 0 then 1 else if x < 0 then -1 else 0
def kd (c : List Int) (x : Int) : Int := kdOf (cAt c (x + 1) - cAt c x)
/-! ### Motions that are found -/
abbrev Prg : Type := Int × ((List Ct) × Unit)
/-! ### Marks of three numbers -/
end Go.Cams


/- Plans of cuts, in plain terms. -/
namespace Go.Cams
open Go Go.Fw
end Go.Cams


/- Stops that are planned, in plain terms. -/
namespace Go.Cams
open Go Go.Fw
abbrev Stk : Type := List Mk
def gM (L : List Mk) (i : Nat) : Mk := L.getD i []
theorem gM_idx {L : List Mk} {i : Int} (h0 : 0 ≤ i) (h1 : i < L.length) : At L i (gM L i.toNat) := by
  obtain ⟨v, hv⟩ := at_of (l := L) h0 h1
  have : gM L i.toNat = v := getD_at hv
  rw [this]; exact hv
theorem lineM_get {a b : Mk} (hn : far a b ≠ 0) {i : Nat} (h : i < (far a b + 1).toNat) : gM (lineM a b) i = ptM a b (i : Nat) := by
  unfold gM lineM
  rw [if_neg hn, List.getD_eq_getElem?_getD, List.getElem?_map, List.getElem?_range h]
  rfl
theorem lineM_length {a b : Mk} (ha : OnP a) (hb : OnP b) : ((lineM a b).length : Int) = far a b + 1 := by
  obtain ⟨f0, _, _⟩ := far_bd ha hb
  unfold lineM
  split
  · rename_i h; rw [h]; rfl
  · simp; omega
theorem far_zero {a b : Mk} (ha : OnP a) (hb : OnP b) (h : far a b = 0) : a = b := by
  obtain ⟨_, _, f2⟩ := far_bd ha hb
  have h0 := f2 0 (.inl rfl)
  have h1 := f2 1 (.inr rfl)
  rw [ha.eq, hb.eq]
  rw [show g a 0 = g b 0 by omega, show g a 1 = g b 1 by omega]
theorem nr_full {d n : Int} (hn : 0 < n) (k : Int) (hd : d = n ∨ d = -n) : nr (k * d) n = if d = n then k else -k := by
  unfold nr
  rcases hd with rfl | rfl
  · rw [if_pos rfl, show 2 * (k * d) + d = d + (2 * d) * k by rw [Int.mul_assoc, Int.mul_comm d k]; omega, Int.add_mul_ediv_left _ _ (by omega), Int.ediv_eq_zero_of_lt (by omega) (by omega)]; omega
  · rw [if_neg (by omega), show 2 * (k * -n) + n = n + (2 * n) * (-k) by rw [Int.mul_neg k n, Int.mul_neg 2 (k * n), Int.mul_neg (2 * n) k, Int.mul_assoc, Int.mul_comm n k]; omega, Int.add_mul_ediv_left _ _ (by omega), Int.ediv_eq_zero_of_lt (by omega) (by omega)]; omega
theorem nr_end {d n : Int} (hn : 0 < n) : nr (n * d) n = d := by
  unfold nr
  rw [show 2 * (n * d) + n = n + (2 * n) * d by rw [Int.mul_assoc]; omega, Int.add_mul_ediv_left _ _ (by omega), Int.ediv_eq_zero_of_lt (by omega) (by omega)]; omega
theorem nr_step {d n k : Int} (hn : 0 < n) (h1 : -n ≤ d) (h2 : d ≤ n) : -1 ≤ nr ((k + 1) * d) n - nr (k * d) n ∧ nr ((k + 1) * d) n - nr (k * d) n ≤ 1 := by
  unfold nr
  rw [Int.add_mul, Int.one_mul]
  obtain ⟨e, he⟩ : ∃ e, e = k * d := ⟨_, rfl⟩
  rw [← he]
  have a := Int.ediv_le_ediv (c := 2 * n) (by omega) (show 2 * (e + d) + n ≤ (2 * e + n) + 2 * n * 1 by omega)
  rw [Int.add_mul_ediv_left _ _ (by omega)] at a
  have b := Int.ediv_le_ediv (c := 2 * n) (by omega) (show (2 * e + n) + 2 * n * (-1) ≤ 2 * (e + d) + n by omega)
  rw [Int.add_mul_ediv_left _ _ (by omega)] at b
  omega
theorem ptM_end {a b : Mk} (ha : OnP a) (hb : OnP b) (hn : far a b ≠ 0) : ptM a b (far a b) = b := by
  obtain ⟨f0, _, _⟩ := far_bd ha hb
  have h : ∀ i, pt a b (far a b) i = g b i := fun i => by
    unfold pt
    rw [nr_end (by omega)]; omega
  unfold ptM
  rw [h, h]
  exact hb.eq.symm
theorem lineM_one {a b : Mk} (ha : OnP a) (hb : OnP b) (h : far a b = 1) : lineM a b = [a, b] := by
  have h0 := ptM_zero ha hb (by omega)
  have h1 := ptM_end ha hb (by omega)
  rw [h] at h1
  unfold lineM
  rw [if_neg (by omega), h]
  show [ptM a b ((0 : Nat) : Int), ptM a b ((1 : Nat) : Int)] = _
  rw [show ((0 : Nat) : Int) = 0 from rfl, show ((1 : Nat) : Int) = 1 from rfl, h0, h1]
theorem line_step {a b : Mk} (ha : OnP a) (hb : OnP b) {i : Nat} (h : (i : Int) < far a b) : lineM (gM (lineM a b) i) (gM (lineM a b) (i + 1)) = [gM (lineM a b) i, gM (lineM a b) (i + 1)] := by
  obtain ⟨f0, f1, f2⟩ := far_bd ha hb
  have hn : far a b ≠ 0 := by omega
  rw [lineM_get hn (by omega), lineM_get hn (by omega)]
  have p0 := onP_pair (pt_bd ha hb hn (k := (i : Nat)) (by omega) (by omega) (.inl rfl)) (pt_bd ha hb hn (k := (i : Nat)) (by omega) (by omega) (.inr rfl))
  have p1 := onP_pair (pt_bd ha hb hn (k := ((i + 1 : Nat) : Int)) (by omega) (by omega) (.inl rfl)) (pt_bd ha hb hn (k := ((i + 1 : Nat) : Int)) (by omega) (by omega) (.inr rfl))
  refine lineM_one p0 p1 ?_
  have s0 := nr_step (k := (i : Int)) (show 0 < far a b by omega) (f2 0 (.inl rfl)).1 (f2 0 (.inl rfl)).2
  have s1 := nr_step (k := (i : Int)) (show 0 < far a b by omega) (f2 1 (.inr rfl)).1 (f2 1 (.inr rfl)).2
  have e0 : pt a b ((i + 1 : Nat) : Int) 0 - pt a b (i : Int) 0 = nr (((i : Int) + 1) * (g b 0 - g a 0)) (far a b) - nr ((i : Int) * (g b 0 - g a 0)) (far a b) := by
    unfold pt
    rw [show ((i + 1 : Nat) : Int) = (i : Int) + 1 by omega]; omega
  have e1 : pt a b ((i + 1 : Nat) : Int) 1 - pt a b (i : Int) 1 = nr (((i : Int) + 1) * (g b 1 - g a 1)) (far a b) - nr ((i : Int) * (g b 1 - g a 1)) (far a b) := by
    unfold pt
    rw [show ((i + 1 : Nat) : Int) = (i : Int) + 1 by omega]; omega
  have full : ∀ d, d = far a b ∨ d = -far a b → nr (((i : Int) + 1) * d) (far a b) - nr ((i : Int) * d) (far a b) = 1 ∨ nr (((i : Int) + 1) * d) (far a b) - nr ((i : Int) * d) (far a b) = -1 := fun d hd => by
    rw [nr_full (by omega) _ hd, nr_full (by omega) _ hd]
    split <;> omega
  have ef : far a b = max (siz (g a 0 - g b 0)) (siz (g a 1 - g b 1)) := rfl
  have d0 : siz (g a 0 - g b 0) = if g a 0 - g b 0 < 0 then -(g a 0 - g b 0) else g a 0 - g b 0 := rfl
  have d1 : siz (g a 1 - g b 1) = if g a 1 - g b 1 < 0 then -(g a 1 - g b 1) else g a 1 - g b 1 := rfl
  show max (siz (pt a b (i : Int) 0 - pt a b ((i + 1 : Nat) : Int) 0)) (siz (pt a b (i : Int) 1 - pt a b ((i + 1 : Nat) : Int) 1)) = 1
  have h3 : ∀ x, siz x = if x < 0 then -x else x := fun _ => rfl
  rw [h3, h3]
  have hor : g b 0 - g a 0 = far a b ∨ g b 0 - g a 0 = -far a b ∨ g b 1 - g a 1 = far a b ∨ g b 1 - g a 1 = -far a b := by
    split at d0 <;> split at d1 <;> omega
  rcases hor with hh | hh | hh | hh
  · have := full _ (.inl hh)
    split <;> split <;> omega
  · have := full _ (.inr hh)
    split <;> split <;> omega
  · have := full _ (.inl hh)
    split <;> split <;> omega
  · have := full _ (.inr hh)
    split <;> split <;> omega
theorem seg_two {L : List Mk} {i : Nat} (h : i + 1 < L.length) : (L.take (i + 2)).drop i = [gM L i, gM L (i + 1)] := by
  have e0 : L[i]? = some (gM L i) := by unfold gM; rw [List.getD_eq_getElem?_getD, List.getElem?_eq_getElem (by omega)]; rfl
  have e1 : L[i + 1]? = some (gM L (i + 1)) := by unfold gM; rw [List.getD_eq_getElem?_getD, List.getElem?_eq_getElem (by omega)]; rfl
  rw [List.take_add_one, List.take_add_one, e0, e1]
  simp only [Option.toList_some, List.append_assoc]
  rw [List.drop_append_of_le_length (by simp; omega), List.drop_of_length_le (by simp; omega)]
  rfl
/-- The place to go to: as far as the line is the same. -/
def bkJ (L : List Mk) (i : Nat) : Nat → Nat
  | 0 => 0
  | j + 1 => if lineM (gM L i) (gM L (j + 1)) = (L.take (j + 2)).drop i then j + 1 else bkJ L i j
theorem bkJ_le (L : List Mk) (i : Nat) : ∀ j, bkJ L i j ≤ j
  | 0 => Nat.le_refl _
  | j + 1 => by
    unfold bkJ
    split
    · exact Nat.le_refl _
    · have := bkJ_le L i j; omega
theorem bkJ_gt {a b : Mk} (ha : OnP a) (hb : OnP b) {i : Nat} (h : (i : Int) < far a b) : ∀ j, i < j → j < (lineM a b).length → i < bkJ (lineM a b) i j
  | 0, hj, _ => by omega
  | j + 1, hj, hl => by
    unfold bkJ
    split
    · exact hj
    · rename_i hc
      by_cases e : i = j
      · subst e
        exact absurd (by rw [line_step ha hb h, seg_two hl]) hc
      · exact bkJ_gt ha hb h j (by omega) (by omega)
def toJ (most : Nat) (down : Bool) (L : List Mk) (i : Nat) : Nat := if down = true then bkJ L i (min (i + most) (L.length - 1)) else min (i + most) (L.length - 1)
def goF (most : Nat) (down : Bool) (L : List Mk) : Nat → Nat → List Stp
  | 0, _ => []
  | f + 1, i => if i < L.length - 1 then (gM L (toJ most down L i), down, ()) :: goF most down L f (toJ most down L i) else []
theorem toJ_bd {most : Nat} (hm : 1 ≤ most) (down : Bool) {a b : Mk} (ha : OnP a) (hb : OnP b) {i : Nat} (h : i < (lineM a b).length - 1) : i < toJ most down (lineM a b) i ∧ toJ most down (lineM a b) i ≤ (lineM a b).length - 1 := by
  have hl := lineM_length ha hb
  unfold toJ
  split
  · have h1 := bkJ_gt ha hb (i := i) (by omega) (min (i + most) ((lineM a b).length - 1)) (by omega) (by omega)
    have h2 := bkJ_le (lineM a b) i (min (i + most) ((lineM a b).length - 1))
    omega
  · omega
def goL (most : Nat) (down : Bool) (a b : Mk) : List Stp := goF most down (lineM a b) 64 0
theorem goF_last (most : Nat) (down : Bool) (L : List Mk) (f : Nat) {i : Nat} (h : ¬ i < L.length - 1) : goF most down L f i = [] := by
  cases f with
  | zero => rfl
  | succ f => unfold goF; rw [if_neg h]
theorem line_last {a b : Mk} (ha : OnP a) (hb : OnP b) : gM (lineM a b) ((lineM a b).length - 1) = b := by
  have hl := lineM_length ha hb
  obtain ⟨f0, _, _⟩ := far_bd ha hb
  by_cases hn : far a b = 0
  · have := far_zero ha hb hn
    subst this
    rw [lineM_same]; rfl
  · rw [lineM_get hn (by omega), show (((lineM a b).length - 1 : Nat) : Int) = far a b by omega, ptM_end ha hb hn]
/-! ### Strokes -/
structure RngT (K : List Stk) : Prop where
  len : (K.length : Int) * 24 ≤ 140737488351232
  el : ∀ s ∈ K, (s.length : Int) * 4 ≤ 140737488351232 ∧ ∀ m ∈ s, m.length = 2 ∧ ∀ v ∈ m, -32768 ≤ v ∧ v ≤ 32767
def drF (most : Nat) (st : Mk × List Stp) (m : Mk) : Mk × List Stp := (m, st.2 ++ goL most true st.1 m)
/-! ### Sizes and marks -/
theorem RngT.len' {K : List Stk} (h : RngT K) : (K.length : Int) ≤ 5864062014635 := by have := h.len; omega
end Go.Cams


/- Machines that are made of stops, in plain terms. -/
namespace Go.Cams
open Go Go.Fw
end Go.Cams


/- Stretches of cams, their grids of bits and their fillings, in plain terms. -/
namespace Go.Cams
open Go Go.Fw

/-! ### Lists told by a function -/
def tb {α : Type} (n : Nat) (G : Nat → α) : List α := (List.range n).map G
theorem tb_len {α : Type} (n : Nat) (G : Nat → α) : (tb n G).length = n := by simp [tb]
theorem tb_get {α : Type} {n : Nat} {G : Nat → α} {i : Nat} (h : i < n) : (tb n G)[i]? = some (G i) := by simp [tb, h]
theorem tb_ext {α : Type} {n : Nat} {G G' : Nat → α} (h : ∀ j, j < n → G j = G' j) : tb n G = tb n G' := List.map_congr_left fun j hj => h j (by simpa using hj)
theorem tb_set {α : Type} (n : Nat) (G : Nat → α) (i : Nat) (v : α) : (tb n G).set i v = tb n fun j => if j = i then v else G j := by
  apply List.ext_getElem?
  intro j
  by_cases h : j < n
  · rw [tb_get h, List.getElem?_set]
    by_cases e : i = j
    · subst e; simp [tb_len, h]
    · rw [if_neg e, tb_get h, if_neg (fun h => e h.symm)]
  · rw [List.getElem?_eq_none (by rw [List.length_set, tb_len]; omega), List.getElem?_eq_none (by rw [tb_len]; omega)]
theorem tb_snoc {α : Type} (n : Nat) (G : Nat → α) : tb n G ++ [G n] = tb (n + 1) G := by simp [tb, List.range_succ]

/-! ### Rows of bits -/
def mkN (p : Nat → Bool) : Nat → Nat
  | 0 => 0
  | n + 1 => 2 ^ n * (if p n = true then 1 else 0) + mkN p n
/-- A row of 64 bits, as the program has it. -/
def row (p : Nat → Bool) : Int := ((mkN p 64 : Nat) : Int)
theorem wrU {x : Int} (h0 : 0 ≤ x) (h1 : x < 18446744073709551616) : wr .u64 x = x := by
  show IntKind.u64.wrap x = x
  simp [IntKind.wrap, IntKind.signed, IntKind.bits]; omega
theorem ofInt_nat {a : Nat} (h : a < 18446744073709551616) : (BitVec.ofInt 64 (a : Int)).toNat = a := by
  rw [BitVec.ofInt_natCast, BitVec.toNat_ofNat]; exact Nat.mod_eq_of_lt (by omega)
theorem and_nat {a b : Nat} (ha : a < 18446744073709551616) (hb : b < 18446744073709551616) : bitsI .and .u64 (a : Int) (b : Int) = ((a &&& b : Nat) : Int) := by
  show IntKind.u64.wrap ((BitVec.ofInt 64 (a : Int) &&& BitVec.ofInt 64 (b : Int)).toNat : Int) = _
  rw [BitVec.toNat_and, ofInt_nat ha, ofInt_nat hb]
  have : a &&& b < 2 ^ 64 := Nat.and_lt_two_pow _ (by omega)
  exact wrU (by omega) (by omega)
theorem shr_nat {v y : Nat} (hy : y ≤ 64) : shr_ .u64 (v : Int) (y : Int) = ((v / 2 ^ y : Nat) : Int) := by
  show Int.fdiv (v : Int) (2 ^ (min (y : Int).toNat 64)) = _
  rw [Int.toNat_natCast, Nat.min_eq_left hy]
  rw [show (2 : Int) ^ y = ((2 ^ y : Nat) : Int) by simp]
  rw [Int.fdiv_eq_ediv_of_nonneg _ (Int.natCast_nonneg _)]
  exact (Int.natCast_ediv _ _).symm
end Go.Cams


/- Stretches: which heights may follow, what can be reached, and fillings, in plain terms. -/
namespace Go.Cams
open Go Go.Fw
def hgt (c : List Int) (lo s : Int) : Int := cAt c s - lo
/-- May the step k of a stretch have the height z? -/
def al (c : List Int) (f m lo : Int) (k z : Nat) : Bool := decide ((k : Int) < m) || decide ((z : Int) = hgt c lo (f + k))
structure GoodS (c : List Int) (f m lo b : Int) : Prop where
  ok : okC c = true
  hf : 0 ≤ f ∧ f < c.length
  hm : 1 ≤ m ∧ m ≤ 40
  hm2 : m ≤ c.length - 4
  hlo : 0 ≤ lo ∧ lo ≤ 9937
  hb : 0 ≤ b ∧ b ≤ 40000
  h1 : 0 ≤ hgt c lo (f - 2) ∧ hgt c lo (f - 2) ≤ 63
  h2 : 0 ≤ hgt c lo (f - 1) ∧ hgt c lo (f - 1) ≤ 63
  h3 : 0 ≤ hgt c lo (f + m) ∧ hgt c lo (f + m) ≤ 63
  h4 : 0 ≤ hgt c lo (f + m + 1) ∧ hgt c lo (f + m + 1) ≤ 63
theorem GoodS.len {c : List Int} {f m lo b : Int} (h : GoodS c f m lo b) : 8 ≤ (c.length : Int) ∧ (c.length : Int) ≤ 360 := okC_len h.ok
/-! ### The spans -/
/-! ### Grids that are being made -/
end Go.Cams
namespace Go.Cams
open Go Go.Fw
end Go.Cams
namespace Go.Cams
open Go Go.Fw
end Go.Cams


/- Fillings that are put into cams, and repairs, in plain terms. -/
namespace Go.Cams
open Go Go.Fw
/-- The bend at a step. -/
def bendP (c : List Int) (i : Int) : Int := cAt c (i + 1) - 2 * cAt c i + cAt c (i - 1)
end Go.Cams
namespace Go.Cams
open Go Go.Fw
end Go.Cams


/- Cuts that are done one behind another, in plain terms. -/
namespace Go.Cams
open Go Go.Fw
end Go.Cams


/- The number of bits of a word, in plain terms. -/
namespace Go.Cams
open Go Go.Fw
def b1 (a : Nat) : Nat := (a / 2 &&& 85) + (a &&& 85)
def b2 (a : Nat) : Nat := (a / 4 &&& 51) + (a &&& 51)
def b3 (a : Nat) : Nat := (a / 16 + a) &&& 15
end Go.Cams


/- Two plates compared, in plain terms. -/
namespace Go.Cams
open Go Go.Fw
theorem wrap_u64 (x : Int) : 0 ≤ wr .u64 x ∧ wr .u64 x < 18446744073709551616 := by
  show 0 ≤ IntKind.u64.wrap x ∧ IntKind.u64.wrap x < _
  simp [IntKind.wrap, IntKind.signed, IntKind.bits]; omega
end Go.Cams


/- Texts of cams, in plain terms. -/
namespace Go.Cams
open Go Go.Fw
end Go.Cams
namespace Go.Cams
open Go Go.Fw
end Go.Cams
namespace Go.Cams
open Go Go.Fw
end Go.Cams


/- Programs and their texts, in plain terms. -/
namespace Go.Cams
open Go Go.Fw
structure RngMo (L : List Ct) : Prop where
  len : (L.length : Int) * 6 ≤ 140737488351232
  el : ∀ v ∈ L, (-128 ≤ v.1 ∧ v.1 ≤ 127) ∧ (-32768 ≤ v.2.1 ∧ v.2.1 ≤ 32767) ∧ (-32768 ≤ v.2.2.1 ∧ v.2.2.1 ≤ 32767)
theorem RngMo.len' {L : List Ct} (h : RngMo L) : (L.length : Int) ≤ 23456248058538 := by have := h.len; omega
theorem RngMo.i1 {L : List Ct} (h : RngMo L) {v : Ct} (hv : v ∈ L) : wr .i64 v.1 = v.1 := by have := (h.el v hv).1; exact wrap_id (by omega) (by omega)
theorem RngMo.i2 {L : List Ct} (h : RngMo L) {v : Ct} (hv : v ∈ L) : wr .i64 v.2.1 = v.2.1 := by have := (h.el v hv).2.1; exact wrap_id (by omega) (by omega)
theorem RngMo.i3 {L : List Ct} (h : RngMo L) {v : Ct} (hv : v ∈ L) : wr .i64 v.2.2.1 = v.2.2.1 := by have := (h.el v hv).2.2; exact wrap_id (by omega) (by omega)
structure RngPg (p : Prg) : Prop where
  t : -32768 ≤ p.1 ∧ p.1 ≤ 32767
  m : RngMo p.2.1
def moOk (v : Ct) : Bool := inR (wr .i64 v.1) 0 3 && !decide (v.2.1 < 1) && inR (wr .i64 v.2.2.1) 0 10000
def sumM : List Ct → Int
  | [] => 0
  | v :: r => v.2.1 + sumM r
def lastT (L : List Ct) : Int := ((idx L ((L.length : Int) - 1)).map fun v => v.2.2.1).getD 0
def okPg (p : Prg) : Bool := inR (p.2.1.length : Int) 1 24 && inR (wr .i64 p.1) 0 10000 && p.2.1.all moOk && inR (sumM p.2.1) 8 360 && (lastT p.2.1 == p.1)
end Go.Cams


/- What is drawn out of bytes, and lifts between others, in plain terms. -/
namespace Go.Cams
open Go Go.Fw
theorem shN_in {w k n : Int} (w0 : 0 ≤ w) (w1 : w ≤ 3) (k0 : 0 ≤ k) (k1 : k ≤ n) (n0 : 1 ≤ n) : 0 ≤ shN w k n ∧ shN w k n ≤ shD w n := by
  have m0 : 0 ≤ n - k := by omega
  have nn : 0 ≤ n := by omega
  have kk := Int.mul_nonneg k0 k0
  have kn := Int.mul_nonneg k0 nn
  have mm := Int.mul_nonneg m0 m0
  rcases (show w = 0 ∨ w = 1 ∨ w = 2 ∨ w = 3 by omega) with rfl | rfl | rfl | rfl
  · unfold shN shD; simp; omega
  · unfold shN shD
    rw [if_pos rfl, if_pos rfl]
    split
    · rename_i h
      have a : n * n - 2 * k * k = n * (n - 2 * k) + 2 * (k * (n - k)) := by grind
      have b := Int.mul_nonneg nn (show 0 ≤ n - 2 * k by omega)
      have c := Int.mul_nonneg k0 m0
      have d : 2 * k * k = 2 * (k * k) := by grind
      omega
    · rename_i h
      have a : n * n - 2 * (n - k) * (n - k) = n * (n - 2 * (n - k)) + 2 * ((n - k) * k) := by grind
      have b := Int.mul_nonneg nn (show 0 ≤ n - 2 * (n - k) by omega)
      have c := Int.mul_nonneg m0 k0
      have d : 2 * (n - k) * (n - k) = 2 * ((n - k) * (n - k)) := by grind
      omega
  · unfold shN shD
    rw [if_neg (by decide), if_pos rfl, if_neg (by decide), if_pos rfl]
    have a : 3 * k * k * n - 2 * k * k * k = k * k * (3 * n - 2 * k) := by grind
    have b := Int.mul_nonneg kk (show 0 ≤ 3 * n - 2 * k by omega)
    have c : n * n * n - (3 * k * k * n - 2 * k * k * k) = (n - k) * (n - k) * (n + 2 * k) := by grind
    have d := Int.mul_nonneg mm (show 0 ≤ n + 2 * k by omega)
    omega
  · unfold shN shD
    rw [if_neg (by decide), if_neg (by decide), if_pos rfl, if_neg (by decide), if_neg (by decide), if_pos rfl]
    have a : 10 * n * n - 15 * k * n + 6 * k * k = 6 * ((n - k) * (n - k)) + n * (4 * n - 3 * k) := by grind
    have b := Int.mul_nonneg nn (show 0 ≤ 4 * n - 3 * k by omega)
    have c : 0 ≤ 10 * n * n - 15 * k * n + 6 * k * k := by omega
    have d := Int.mul_nonneg (Int.mul_nonneg kk k0) c
    have e : n * n * n * n * n - k * k * k * (10 * n * n - 15 * k * n + 6 * k * k) = (n - k) * (n - k) * (n - k) * (n * n + 3 * n * k + 6 * k * k) := by grind
    have nn2 := Int.mul_nonneg nn nn
    have f : 0 ≤ n * n + 3 * n * k + 6 * k * k := by
      have e1 : n * n + 3 * n * k + 6 * k * k = n * n + 3 * (k * n) + 6 * (k * k) := by grind
      omega
    have h := Int.mul_nonneg (Int.mul_nonneg mm m0) f
    omega
theorem nr_in {x d lo hi : Int} (hd : 0 < d) (h1 : lo * d ≤ x) (h2 : x ≤ hi * d) : lo ≤ nr x d ∧ nr x d ≤ hi := by
  unfold nr
  constructor
  · apply (Int.le_ediv_iff_mul_le (by omega)).2
    have : lo * (2 * d) = 2 * (lo * d) := by grind
    omega
  · have : (2 * x + d) / (2 * d) < hi + 1 := by
      apply (Int.ediv_lt_iff_lt_mul (by omega)).2
      have : (hi + 1) * (2 * d) = 2 * (hi * d) + 2 * d := by grind
      omega
    omega
/-- A lift of a motion lies between its ends. -/
theorem liftP_in {f t w k n lo hi : Int} (w0 : 0 ≤ w) (w1 : w ≤ 3) (k0 : 0 ≤ k) (k1 : k ≤ n) (n0 : 1 ≤ n) (n1 : n ≤ 360) (f0 : lo ≤ f) (f1 : f ≤ hi) (t0 : lo ≤ t) (t1 : t ≤ hi) : lo ≤ liftP f t w k n ∧ liftP f t w k n ≤ hi := by
  have hd := shD_bd (w := w) n0 n1
  obtain ⟨s0, s1⟩ := shN_in w0 w1 k0 k1 n0
  unfold liftP
  generalize shN w k n = s at *
  generalize shD w n = d at *
  have a1 := Int.mul_nonneg (show 0 ≤ f - lo by omega) (show 0 ≤ d - s by omega)
  have a2 := Int.mul_nonneg (show 0 ≤ t - lo by omega) s0
  have a3 := Int.mul_nonneg (show 0 ≤ hi - f by omega) (show 0 ≤ d - s by omega)
  have a4 := Int.mul_nonneg (show 0 ≤ hi - t by omega) s0
  have e1 : f * d + (t - f) * s - lo * d = (f - lo) * (d - s) + (t - lo) * s := by grind
  have e2 : hi * d - (f * d + (t - f) * s) = (hi - f) * (d - s) + (hi - t) * s := by grind
  exact nr_in (by omega) (by omega) (by omega)
/-- A source of numbers: the bytes, how many have been read, and its state. -/
abbrev Src : Type := List Int × (Int × (Int × Unit))
/-- A number of times that a source is still read. -/
def SrcAt (k : Int) (s : Src) : Prop := (∀ v ∈ s.1, 0 ≤ v ∧ v ≤ 255) ∧ (s.1.length : Int) ≤ 1000000 ∧ 0 ≤ s.2.1 ∧ s.2.1 ≤ k
theorem SrcAt.mono {k j : Int} {s : Src} (h : SrcAt k s) (hk : k ≤ j) : SrcAt j s := ⟨h.1, h.2.1, h.2.2.1, Int.le_trans h.2.2.2 hk⟩
theorem and_255 {a : Nat} (h : a < 18446744073709551616) : bitsI .and .u64 (a : Int) (255 : Int) = ((a % 256 : Nat) : Int) := by
  rw [show (255 : Int) = ((255 : Nat) : Int) from rfl, and_nat h (by omega), show (255 : Nat) = 2 ^ 8 - 1 from rfl, Nat.and_two_pow_sub_one_eq_mod]
end Go.Cams
namespace Go.Fw
/-- A loop whose result is not told beforehand. -/
theorem loop_ex {σ α : Type} {f : Nat → σ → (σ → Option α) → Option α} (I : σ → Prop) (μ : σ → Nat) (Q : α → Prop) {x : σ} (h : I x)
    (step : ∀ x, I x → (∃ y, Q y ∧ Round (fun n ag => f n x ag) y (fun _ => False)) ∨ (∃ x1, I x1 ∧ μ x1 < μ x ∧ ∀ y, Round (fun n ag => f n x ag) y (fun x' => x' = x1))) : ∃ y, Q y ∧ Evt (fun n => loopK (f n) n x) y := by
  have key : ∀ m x, I x → μ x ≤ m → ∃ y, Q y ∧ ∃ N, ∀ n, N ≤ n → ∀ k, m < k → loopK (f n) k x = some y := by
    intro m
    induction m with
    | zero =>
      intro x hx hm
      rcases step x hx with ⟨y, hy, hR⟩ | ⟨x1, _, h2, _⟩
      · rcases hR with ⟨N, hN⟩ | ⟨_, hF, _⟩
        · refine ⟨y, hy, N, fun n hn k hk => ?_⟩
          obtain ⟨k, rfl⟩ : ∃ j, k = j + 1 := ⟨k - 1, by omega⟩
          exact hN n hn _
        · exact hF.elim
      · omega
    | succ m ih =>
      intro x hx hm
      rcases step x hx with ⟨y, hy, hR⟩ | ⟨x1, h1, h2, hR⟩
      · rcases hR with ⟨N, hN⟩ | ⟨_, hF, _⟩
        · refine ⟨y, hy, N, fun n hn k hk => ?_⟩
          obtain ⟨k, rfl⟩ : ∃ j, k = j + 1 := ⟨k - 1, by omega⟩
          exact hN n hn _
        · exact hF.elim
      · obtain ⟨y, hy, M, hM⟩ := ih x1 h1 (by omega)
        rcases hR y with ⟨N, hN⟩ | ⟨x', rfl, N, hN⟩
        · refine ⟨y, hy, N, fun n hn k hk => ?_⟩
          obtain ⟨k, rfl⟩ : ∃ j, k = j + 1 := ⟨k - 1, by omega⟩
          exact hN n hn _
        · refine ⟨y, hy, N + M, fun n hn k hk => ?_⟩
          obtain ⟨k, rfl⟩ : ∃ j, k = j + 1 := ⟨k - 1, by omega⟩
          show f n x (loopK (f n) k) = _
          exact (hN n (by omega) _).trans (hM n (by omega) k (by omega))
  obtain ⟨y, hy, N, hN⟩ := key (μ x) x h (Nat.le_refl _)
  exact ⟨y, hy, N + μ x + 1, fun n hn => hN n (by omega) n (by omega)⟩
end Go.Fw
namespace Go.Cams
open Go Go.Fw
structure SmPg (p : Prg) : Prop where
  rng : RngPg p
  ok : okPg p = true
  n : (p.2.1.length : Int) ≤ 5
  sum : 8 ≤ sumM p.2.1 ∧ sumM p.2.1 ≤ 45
  t : 0 ≤ p.1 ∧ p.1 ≤ 59
  el : ∀ v ∈ p.2.1, (0 ≤ v.1 ∧ v.1 ≤ 3) ∧ (1 ≤ v.2.1 ∧ v.2.1 ≤ 45) ∧ (0 ≤ v.2.2.1 ∧ v.2.2.1 ≤ 59)
end Go.Cams
namespace Go.Fw
variable {α β σ : Type}
/-- A result of which something is told. -/
def EvtX (f : Nat → Option α) (Q : α → Prop) : Prop := ∃ y, Q y ∧ Evt f y
theorem EvtX.next {f g : Nat → Option α} {Q : α → Prop} (h : EvtX g Q) (e : ∀ n, f (n + 1) = g n) : EvtX f Q := by
  obtain ⟨y, hy, hE⟩ := h
  exact ⟨y, hy, hE.next e⟩
theorem EvtX.bind {f : Nat → Option β} {g : Nat → β → Option α} {x : β} {Q : α → Prop} (h : Evt f x) (k : EvtX (fun n => g n x) Q) : EvtX (fun n => (f n).bind (g n)) Q := by
  obtain ⟨y, hy, hE⟩ := k
  exact ⟨y, hy, Evt.bind h hE⟩
theorem EvtX.loop {f : Nat → σ → (σ → Option α) → Option α} (I : σ → Prop) (μ : σ → Nat) {Q : α → Prop} {x : σ} (h : I x)
    (step : ∀ x, I x → (∃ y, Q y ∧ Round (fun n ag => f n x ag) y (fun _ => False)) ∨ (∃ x1, I x1 ∧ μ x1 < μ x ∧ ∀ y, Round (fun n ag => f n x ag) y (fun x' => x' = x1))) : EvtX (fun n => loopK (f n) n x) Q := loop_ex I μ Q h step
end Go.Fw
namespace Go.Cams
open Go Go.Fw
/-- The lifts of a motion, and of several. -/
def seg (f : Int) (v : Ct) : List Int := (List.range v.2.1.toNat).map fun k => liftP f v.2.2.1 v.1 (k : Nat) v.2.1
def proF (f : Int) : List Ct → List Int
  | [] => []
  | v :: r => seg f v ++ proF v.2.2.1 r
theorem seg_len (f : Int) (v : Ct) : (seg f v).length = v.2.1.toNat := by simp [seg]
theorem seg_el {f : Int} {v : Ct} {lo hi : Int} (w0 : 0 ≤ v.1) (w1 : v.1 ≤ 3) (n0 : 1 ≤ v.2.1) (n1 : v.2.1 ≤ 360) (f0 : lo ≤ f) (f1 : f ≤ hi) (t0 : lo ≤ v.2.2.1) (t1 : v.2.2.1 ≤ hi) : ∀ x ∈ seg f v, lo ≤ x ∧ x ≤ hi := fun x hx => by
  unfold seg at hx
  obtain ⟨k, hk, rfl⟩ := List.mem_map.1 hx
  have := List.mem_range.1 hk
  exact liftP_in w0 w1 (by omega) (by omega) n0 n1 f0 f1 t0 t1
structure MoIn (lo hi : Int) (v : Ct) : Prop where
  w : 0 ≤ v.1 ∧ v.1 ≤ 3
  n : 1 ≤ v.2.1 ∧ v.2.1 ≤ 360
  t : lo ≤ v.2.2.1 ∧ v.2.2.1 ≤ hi
theorem proF_el {lo hi : Int} : ∀ (l : List Ct) {f : Int}, (∀ v ∈ l, MoIn lo hi v) → lo ≤ f → f ≤ hi → ∀ x ∈ proF f l, lo ≤ x ∧ x ≤ hi
  | [], _, _, _, _ => fun x hx => by cases hx
  | v :: r, f, h, f0, f1 => fun x hx => by
    have hv := h v (by simp)
    rcases List.mem_append.1 hx with hx | hx
    · exact seg_el hv.w.1 hv.w.2 hv.n.1 hv.n.2 f0 f1 hv.t.1 hv.t.2 x hx
    · exact proF_el r (fun u hu => h u (by simp [hu])) hv.t.1 hv.t.2 x hx
theorem proF_len : ∀ (l : List Ct) (f : Int), (∀ v ∈ l, 1 ≤ v.2.1) → ((proF f l).length : Int) = sumM l
  | [], _, _ => rfl
  | v :: r, f, h => by
    have h1 := h v (by simp)
    have h2 := proF_len r v.2.2.1 fun u hu => h u (by simp [hu])
    simp only [proF, sumM, List.length_append, seg_len]
    omega
theorem SmPg.ins {p : Prg} (S : SmPg p) : ∀ v ∈ p.2.1, MoIn 0 59 v := fun v hv => by
  have := S.el v hv
  exact ⟨this.1, ⟨this.2.1.1, by omega⟩, this.2.2⟩
/-- A cam as it is drawn. -/
structure SmC (c : List Int) : Prop where
  len : 8 ≤ (c.length : Int) ∧ (c.length : Int) ≤ 45
  el : ∀ v ∈ c, 0 ≤ v ∧ v ≤ 59
theorem SmPg.cam {p : Prg} (S : SmPg p) : SmC (proF p.1 p.2.1) := by
  have h := proF_len p.2.1 p.1 fun v hv => (S.ins v hv).n.1
  have := S.sum
  exact ⟨by omega, proF_el p.2.1 S.ins S.t.1 S.t.2⟩
theorem SmC.rng {c : List Int} (S : SmC c) : Rng c := rng_bd (by have := S.len; omega) fun v hv => by have := S.el v hv; omega
theorem SmC.ok {c : List Int} (S : SmC c) : okC c = true := by
  unfold okC
  have hl := S.len
  simp only [Bool.and_eq_true, inR_iff, List.all_eq_true]
  refine ⟨by omega, fun v hv => ?_⟩
  have := S.el v hv
  unfold okV
  rw [wrap_id (x := v) (by omega) (by omega), inR_iff]
  omega
end Go.Cams
namespace Go.Fw
variable {α β σ : Type}
theorem EvtX.no {c : Bool} {f g : Nat → Option α} {Q : α → Prop} (h : ¬ c = true) (k : EvtX g Q) : EvtX (fun n => if c = true then f n else g n) Q := by
  obtain ⟨y, hy, hE⟩ := k
  exact ⟨y, hy, Evt.no h hE⟩
theorem EvtX.yes {c : Bool} {f g : Nat → Option α} {Q : α → Prop} (h : c = true) (k : EvtX f Q) : EvtX (fun n => if c = true then f n else g n) Q := by
  obtain ⟨y, hy, hE⟩ := k
  exact ⟨y, hy, Evt.yes h hE⟩
theorem EvtX.chk {c : Bool} {f : Nat → Option α} {Q : α → Prop} (h : c = true) (k : EvtX f Q) : EvtX (fun n => chk c (f n)) Q := by
  obtain ⟨y, hy, hE⟩ := k
  exact ⟨y, hy, Evt.chk h hE⟩
end Go.Fw


/- Cutters as they are drawn, and which can replace which, in plain terms. -/
namespace Go.Cams
open Go Go.Fw
structure Ris (H : Nat) (h : Nat → Int) : Prop where
  zero : h 0 = 0
  up : ∀ a b, a ≤ b → b ≤ H → h a ≤ h b
  hi : ∀ a, a ≤ H → h a ≤ 1000
theorem Ris.lo {H : Nat} {h : Nat → Int} (R : Ris H h) {a : Nat} (ha : a ≤ H) : 0 ≤ h a := by
  have := R.up 0 a (by omega) ha
  rw [R.zero] at this; exact this
end Go.Cams


/- Which cutter can replace which, in plain terms. -/
namespace Go.Cams
open Go Go.Fw
/-- How high a cutter stands on another one. -/
def stTo (a b : List Int) (off : Nat) : Nat → Int
  | 0 => 0
  | i + 1 => max (stTo a b off i) (g b (off + i) - g a i)
def st (a b : List Int) (off : Nat) : Int := stTo a b off a.length
end Go.Cams
namespace Go.Cams
open Go Go.Fw
theorem byte_of {l : List Int} (h : Dom (.slc (.int .u8)) l) : ∀ v ∈ l, 0 ≤ v ∧ v ≤ 255 := fun v hv => by
  have h1 := h.2 v hv
  have h2 : IntKind.u8.min ≤ v := h1.1
  have h3 : v ≤ IntKind.u8.max := h1.2
  simp only [IntKind.min, IntKind.max, IntKind.signed, IntKind.bits] at h2 h3
  exact ⟨by simpa using h2, by simpa using h3⟩
end Go.Cams


/- A cam that is read as a program is made again by it, in plain terms. -/
namespace Go.Cams
open Go Go.Fw
/-- Stretches that follow each other. -/
def ChS (s : Int) : List Ct → Int → Prop
  | [], e => s = e
  | v :: r, e => v.2.1 = s ∧ 1 ≤ v.2.2.1 ∧ ChS (s + v.2.2.1) r e
theorem ChS.le : ∀ {L : List Ct} {s e : Int}, ChS s L e → s + L.length ≤ e
  | [], _, _, h => by rw [show _ = _ from h]; simp
  | v :: L, s, e, h => by
    have := ChS.le h.2.2
    have := h.2.1
    simp only [List.length_cons]; omega
end Go.Cams
namespace Go.Cams
open Go Go.Fw
end Go.Cams
namespace Go.Cams
end Go.Cams


/- The lifts of a motion rise evenly, in plain terms. -/
namespace Go.Cams
open Go Go.Fw
end Go.Cams
namespace Go.Cams
open Go Go.Fw
end Go.Cams


/- The least number of steps of a motion, its bends, and planned programs, in plain terms. -/
namespace Go.Cams
open Go Go.Fw
theorem tb_mem {α : Type} {n : Nat} {G : Nat → α} {v : α} (h : v ∈ tb n G) : ∃ i, i < n ∧ v = G i := by
  simp only [tb, List.mem_map, List.mem_range] at h
  obtain ⟨i, hi, e⟩ := h
  exact ⟨i, hi, e.symm⟩
/-! ### Bends of a motion -/
/-! ### Planned programs -/
def sumN (S : Nat → Int) : Nat → Int
  | 0 => 0
  | i + 1 => sumN S i + S i
theorem sumN_el {S : Nat → Int} (h : ∀ i, 1 ≤ S i) : ∀ {n i : Nat}, i < n → S i + (n : Int) - 1 ≤ sumN S n
  | 0, i, hi => by omega
  | n + 1, i, hi => by
    have h0 : ∀ n : Nat, (n : Int) ≤ sumN S n := fun n => by
      induction n with
      | zero => exact Int.le_refl _
      | succ n ih => unfold sumN; have := h n; omega
    unfold sumN
    by_cases e : i = n
    · subst e; have := h0 i; omega
    · have := sumN_el h (n := n) (i := i) (by omega)
      have := h n
      omega
structure GoodP2 (n k : Nat) (S : Nat → Int) : Prop where
  one : ∀ i, 1 ≤ S i
  sum : sumN S n = n + k
theorem GoodP2.le {n k : Nat} {S : Nat → Int} (h : GoodP2 n k S) {i : Nat} (hi : i < n) : 1 ≤ S i ∧ S i ≤ k + 1 := by
  have h1 := sumN_el h.one hi
  rw [h.sum] at h1
  exact ⟨h.one i, by omega⟩
end Go.Cams


/- Drawn cams, lag and feet, in plain terms. -/
namespace Go.Cams
open Go Go.Fw
/-- A cam as it is drawn. -/
structure SmD (c : List Int) : Prop where
  len : 8 ≤ (c.length : Int) ∧ (c.length : Int) ≤ 36
  el : ∀ v ∈ c, 0 ≤ v ∧ v ≤ 60
theorem SmD.rng {c : List Int} (S : SmD c) : Rng c := rng_bd (by have := S.len; omega) fun v hv => by have := S.el v hv; omega
theorem okC_of {c : List Int} (h : 8 ≤ (c.length : Int) ∧ (c.length : Int) ≤ 360) (he : ∀ v ∈ c, 0 ≤ v ∧ v ≤ 10000) : okC c = true := by
  unfold okC
  simp only [Bool.and_eq_true, inR_iff, List.all_eq_true]
  exact ⟨h, fun v hv => by
    have := he v hv
    unfold okV
    rw [inR_iff, wrap_id (by omega) (by omega)]
    exact this⟩
theorem SmD.ok {c : List Int} (S : SmD c) : okC c = true := okC_of (by have := S.len; omega) fun v hv => by have := S.el v hv; omega
def grow (b : Int) (m : Nat) : Nat → List Int × Int → List Int × Int
  | 0, s => s
  | k + 1, s => if s.1.length < m then grow b m k (s.1 ++ [max 0 (min 60 (s.2 + b))], max 0 (min 60 (s.2 + b))) else s
structure GoodG2 (m : Nat) (s : List Int × Int) : Prop where
  el : ∀ v ∈ s.1, 0 ≤ v ∧ v ≤ 60
  lf : 0 ≤ s.2 ∧ s.2 ≤ 60
  le : s.1.length ≤ m
theorem grow_one {b : Int} {m : Nat} {s : List Int × Int} (h : GoodG2 m s) (hl : s.1.length < m) : GoodG2 m (s.1 ++ [max 0 (min 60 (s.2 + b))], max 0 (min 60 (s.2 + b))) := by
  have hb : 0 ≤ max 0 (min 60 (s.2 + b)) ∧ max 0 (min 60 (s.2 + b)) ≤ 60 := by omega
  refine ⟨fun v hv => ?_, hb, by simp; omega⟩
  rcases List.mem_append.1 hv with hv | hv
  · exact h.el v hv
  · simp at hv; rw [hv]; exact hb
theorem grow_good {b : Int} {m : Nat} : ∀ k {s : List Int × Int}, GoodG2 m s → GoodG2 m (grow b m k s) ∧ s.1.length ≤ (grow b m k s).1.length
  | 0, s, h => ⟨h, Nat.le_refl _⟩
  | k + 1, s, h => by
    unfold grow
    by_cases hl : s.1.length < m
    · rw [if_pos hl]
      have := grow_good (b := b) k (grow_one (b := b) h hl)
      exact ⟨this.1, by have h2 := this.2; simp at h2; omega⟩
    · rw [if_neg hl]; exact ⟨h, Nat.le_refl _⟩
theorem grow_more {b : Int} {m : Nat} {k : Nat} {s : List Int × Int} (h : GoodG2 m s) (hl : s.1.length < m) (hk : 0 < k) : s.1.length < (grow b m k s).1.length := by
  obtain ⟨k, rfl⟩ : ∃ j, k = j + 1 := ⟨k - 1, by omega⟩
  unfold grow
  rw [if_pos hl]
  have := (grow_good (b := b) k (grow_one (b := b) h hl)).2
  simp at this
  omega
/-! ### What lies beside -/
/-! ### Lag -/
theorem mnL_ge {l : List Int} {v : Int} (h : v ∈ l) : mnL l ≤ v := (mnF_ge l _).2 v h
end Go.Cams
namespace Go.Cams
open Go Go.Fw
end Go.Cams


/- Cams that are made of cams, and runs, in plain terms. -/
namespace Go.Cams
open Go Go.Fw
theorem nr_mul (x z : Int) {t : Int} (ht : 0 < t) : nr (x * t + z) t = x + nr z t := by
  unfold nr
  rw [show 2 * (x * t + z) + t = (2 * z + t) + x * (2 * t) by grind, Int.add_mul_ediv_right _ _ (by omega)]
  omega
/-! ### Runs -/
def lenS : List Ct → Int
  | [] => 0
  | v :: r => v.2.2.1 + lenS r
def RunOk (c : List Int) : Int → List Ct → Prop
  | _, [] => True
  | s, v :: r => v.1 = kd c s ∧ v.2.1 = s % c.length ∧ 1 ≤ v.2.2.1 ∧ (∀ k : Int, 0 ≤ k → k < v.2.2.1 → kd c (s + k) = v.1) ∧ (r ≠ [] → kd c (s + v.2.2.1) ≠ v.1) ∧ RunOk c (s + v.2.2.1) r
structure RunAt (c : List Int) (s : Int) (L : List Ct) (i : Nat) (v : Ct) : Prop where
  kind : v.1 = kd c (s + lenS (L.take i))
  start : v.2.1 = (s + lenS (L.take i)) % c.length
  one : 1 ≤ v.2.2.1
  all : ∀ k : Int, 0 ≤ k → k < v.2.2.1 → kd c (s + lenS (L.take i) + k) = v.1
  next : i + 1 < L.length → kd c (s + lenS (L.take i) + v.2.2.1) ≠ v.1
theorem RunOk.at {c : List Int} : ∀ {L : List Ct} {s : Int} {i : Nat} {v : Ct}, RunOk c s L → L[i]? = some v → RunAt c s L i v
  | [], _, _, _, _, h => by simp at h
  | u :: r, s, 0, v, ⟨h1, h2, h3, h4, h5, _⟩, h => by
    simp at h
    subst h
    have e : s + lenS ((u :: r).take 0) = s := by simp [lenS]
    refine ⟨by rw [e]; exact h1, by rw [e]; exact h2, h3, by rw [e]; exact h4, fun hl => ?_⟩
    rw [e]
    exact h5 fun e => by rw [e] at hl; simp at hl
  | u :: r, s, i + 1, v, ⟨_, _, _, _, _, h6⟩, h => by
    simp at h
    have A := RunOk.at h6 h
    have e : s + lenS ((u :: r).take (i + 1)) = s + u.2.2.1 + lenS (r.take i) := by rw [List.take_succ_cons, lenS]; omega
    exact ⟨by rw [e]; exact A.kind, by rw [e]; exact A.start, A.one, by rw [e]; exact A.all, fun hl => by rw [e]; exact A.next (by simp at hl; omega)⟩
end Go.Cams


/- Plans of cuts leave what a cutter leaves at best, in plain terms. -/
namespace Go.Cams
open Go Go.Fw
/-- Cuts of one cutter alone. -/
structure OneK (m : Nat) (L : List Ct) : Prop where
  l : (L.length : Int) ≤ 400
  el : ∀ v ∈ L, (0 ≤ v.1 ∧ v.1 < (m : Int)) ∧ (0 ≤ v.2.1 ∧ v.2.1 ≤ 10000) ∧ v.2.2.1 = 0
theorem OneK.rng {m : Nat} {L : List Ct} (h : OneK m L) (hm : m ≤ 360) : RngC L := ⟨by have := h.l; omega, fun v hv => by have := h.el v hv; omega⟩
theorem OneK.cuts {m : Nat} {L : List Ct} (h : OneK m L) (hm : m ≤ 360) {k : List Int} (hk : okK k = true) : okCuts L [k] = true := by
  have hr := h.rng hm
  simp only [okCuts, okCt, Bool.and_eq_true, inR_iff, decide_eq_true_eq, List.all_eq_true]
  refine ⟨⟨by simp, by simp [okKs, hk]⟩, h.l, fun v hv => ?_⟩
  have := h.el v hv
  simp only [ctOk, Bool.and_eq_true, inR_iff]
  rw [hr.i1 hv, hr.i2 hv, hr.i3 hv, wrap_id (by simp) (by simp)]
  simp only [List.length_cons, List.length_nil]
  omega
theorem OneK.on {m : Nat} {L : List Ct} (h : OneK m L) (hm : m ≤ 360) : onCt L (m : Int) = true := by
  have hr := h.rng hm
  simp only [onCt, List.all_eq_true]
  intro v hv
  have := h.el v hv
  rw [hr.i1 hv]
  simp
  omega
theorem OneK.code {c : List Int} {L : List Ct} (h : OneK c.length L) (ok : okC c = true) {k : List Int} (hk : okK k = true) : gvCode c [k] L = 0 := by
  have := okC_len ok
  unfold gvCode
  rw [if_pos ok, if_pos (h.cuts (by omega) hk), if_pos (h.on (by omega))]
theorem fi_none {α : Type} {p : α → Bool} {l : List α} (h : ∀ v ∈ l, p v = false) : fi p l 0 < 0 := by
  have := fi_any p l 0 (Int.le_refl _)
  rw [List.any_eq_false.2 fun v hv => by simp [h v hv]] at this
  have := of_decide_eq_false this
  omega
/-! ### Cuts without those that take nothing -/
end Go.Cams


/- Fillings keep within their bounds, least bounds are least, and what is reached proves it, in plain terms. -/
namespace Go.Cams
open Go Go.Fw
/-- The heights of a cam from two steps ahead of a stretch on. -/
def hN (c : List Int) (f lo : Int) (j : Nat) : Nat := (hgt c lo (f - 2 + j)).toNat
/-! ### What a filling is -/
/-! ### What is reached -/
end Go.Cams


/- What strokes a machine's stops draw: traced with a stroke at hand, and by lengthening the last one. -/
namespace Go.Cams
open Go Go.Fw
def lastM (s : Stk) : Mk := s.getLastD []
def trS (p : List Stk × Stk) (s : Stp) : List Stk × Stk :=
  if s.2.1 = false then (if p.2 = [] then p.1 else p.1 ++ [p.2], [])
  else if p.2.length = 60 then (p.1 ++ [p.2], [lastM p.2, s.1]) else (p.1, p.2 ++ [s.1])
structure TrOk (p : List Stk × Stk) (n : Nat) : Prop where
  len : p.1.length + (if p.2 = [] then 0 else 1) ≤ n
  el : ∀ s ∈ p.1, s.length ≤ 60 ∧ ∀ m ∈ s, OnP m
  now : p.2.length ≤ 60 ∧ ∀ m ∈ p.2, OnP m
theorem lastM_mem {s : Stk} (h : s ≠ []) : lastM s ∈ s := by
  unfold lastM
  rw [List.getLastD_eq_getLast?, List.getLast?_eq_some_getLast h]
  simp
theorem TrOk.step {p : List Stk × Stk} {n : Nat} {s : Stp} (h : TrOk p n) (hs : OnP s.1) : TrOk (trS p s) (n + 1) := by
  have h1 := h.len
  unfold trS
  split
  · split
    · rename_i e
      rw [if_pos e] at h1
      exact ⟨by simp; omega, h.el, by simp⟩
    · rename_i e
      rw [if_neg e] at h1
      refine ⟨by simp; omega, fun t ht => ?_, by simp⟩
      rcases List.mem_append.1 ht with ht | ht
      · exact h.el t ht
      · rw [List.mem_singleton.1 ht]; exact h.now
  · split
    · rename_i e
      have hne : p.2 ≠ [] := fun e' => by rw [e'] at e; simp at e
      rw [if_neg hne] at h1
      refine ⟨by simp; omega, fun t ht => ?_, by simp, fun m hm => ?_⟩
      · rcases List.mem_append.1 ht with ht | ht
        · exact h.el t ht
        · rw [List.mem_singleton.1 ht]; exact h.now
      · simp only [List.mem_cons, List.not_mem_nil, or_false] at hm
        rcases hm with rfl | rfl
        · exact h.now.2 _ (lastM_mem hne)
        · exact hs
    · rename_i e
      refine ⟨?_, h.el, by simp; have := h.now.1; omega, fun m hm => ?_⟩
      · rw [if_neg (by simp)]
        show p.1.length + 1 ≤ n + 1
        split at h1 <;> omega
      · rcases List.mem_append.1 hm with hm | hm
        · exact h.now.2 m hm
        · rw [List.mem_singleton.1 hm]; exact hs
theorem trS_nil (p : List Stk × Stk) (s : Stp) : (trS p s).2 = [] ↔ s.2.1 = false := by
  unfold trS
  split
  · rename_i h; simp [h]
  · rename_i h
    split <;> simp [h]
theorem getLastD_snoc {α : Type} (l : List α) (x d : α) : (l ++ [x]).getLastD d = x := by
  rw [List.getLastD_eq_getLast?]; simp
theorem onP_rng {m : Mk} (h : OnP m) : ∀ v ∈ m, -32768 ≤ v ∧ v ≤ 32767 := by
  have hx := h.x; have hy := h.y; have hl := h.len
  match m, hl with
  | [a, b], _ =>
    have hx : 0 ≤ a ∧ a ≤ 63 := hx
    have hy : 0 ≤ b ∧ b ≤ 63 := hy
    intro v hv
    simp only [List.mem_cons, List.not_mem_nil, or_false] at hv
    rcases hv with rfl | rfl <;> omega
end Go.Cams


/- What is drawn, as a set of marks: by stops, by strokes, by strokes that are traced, by stops that are planned. -/
namespace Go.Cams
open Go Go.Fw
theorem rev_ind {α : Type} {P : List α → Prop} (h0 : P []) (h1 : ∀ l a, P l → P (l ++ [a])) (l : List α) : P l := by
  rw [← List.reverse_reverse l]
  induction l.reverse with
  | nil => exact h0
  | cons a r ih => rw [List.reverse_cons]; exact h1 _ _ ih
/-! ### Plates of marks -/
/-! ### Marks that stops draw -/
def onk (a : Stp) : List Mk := if a.2.1 = true then [a.1] else []
def sgm (a b : Stp) : List Mk := if a.2.1 = true ∧ b.2.1 = true then lineM a.1 b.1 else []
def drw : List Stp → List Mk
  | [] => []
  | [a] => onk a
  | a :: b :: r => onk a ++ (sgm a b ++ drw (b :: r))
theorem drw_snoc : ∀ (l : List Stp) (a b : Stp) (x : Mk), x ∈ drw (l ++ [a] ++ [b]) ↔ x ∈ drw (l ++ [a]) ∨ x ∈ sgm a b ∨ x ∈ onk b
  | [], a, b, x => by simp [drw]
  | [c], a, b, x => by
    simp only [drw, List.cons_append, List.nil_append, List.mem_append]
    constructor <;> intro h
    · rcases h with h | h | h | h | h <;> simp [h]
    · rcases h with (h | h | h) | h | h <;> simp [h]
  | c :: d :: l, a, b, x => by
    have ih := drw_snoc (d :: l) a b x
    simp only [List.cons_append] at ih
    simp only [List.cons_append, drw, List.mem_append, ih]
    constructor <;> intro h
    · rcases h with h | h | h | h | h <;> simp [h]
    · rcases h with (h | h | h) | h | h <;> simp [h]
theorem drw_mem : ∀ (l : List Stp) (s : Stp), s ∈ l → s.2.1 = true → s.1 ∈ drw l
  | [], _, h, _ => by simp at h
  | [a], s, h, hd => by
    simp only [List.mem_singleton] at h
    subst h
    simp [drw, onk, hd]
  | a :: b :: r, s, h, hd => by
    simp only [drw, List.mem_append]
    rcases List.mem_cons.1 h with h | h
    · subst h; simp [onk, hd]
    · exact .inr (.inr (drw_mem (b :: r) s h hd))
theorem drw_up (l : List Stp) {b : Stp} (hb : b.2.1 = false) (x : Mk) : x ∈ drw (l ++ [b]) ↔ x ∈ drw l := by
  rcases List.eq_nil_or_concat l with rfl | ⟨l, a, rfl⟩
  · simp [drw, onk, hb]
  · rw [List.concat_eq_append, drw_snoc]; simp [sgm, onk, hb]
theorem drw_ups (l : List Stp) : ∀ (m : List Stp), (∀ b ∈ m, b.2.1 = false) → ∀ x, x ∈ drw (l ++ m) ↔ x ∈ drw l := by
  intro m
  refine rev_ind (P := fun m => (∀ b ∈ m, b.2.1 = false) → ∀ x, x ∈ drw (l ++ m) ↔ x ∈ drw l) (fun _ x => by simp) (fun m b ih h x => ?_) m
  · rw [← List.append_assoc, drw_up _ (h b (by simp)), ih fun c hc => h c (by simp [hc])]
/-! ### Marks that strokes draw -/
def dwn (m : Mk) : Stp := (m, true, ())
def drs (s : Stk) : List Mk := drw (s.map dwn)
def drK (K : List Stk) : List Mk := K.flatMap drs
theorem drs_snoc (s : Stk) (a b : Mk) (x : Mk) : x ∈ drs (s ++ [a] ++ [b]) ↔ x ∈ drs (s ++ [a]) ∨ x ∈ lineM a b ∨ x = b := by
  unfold drs
  simp only [List.map_append, List.map_cons, List.map_nil]
  rw [drw_snoc]
  simp [sgm, onk, dwn]
theorem lastM_snoc (s : Stk) (a : Mk) : lastM (s ++ [a]) = a := by unfold lastM; rw [getLastD_snoc]
/-! ### Strokes that are traced draw what the stops draw -/
structure TrD (l : List Stp) (p : List Stk × Stk) : Prop where
  same : ∀ x, x ∈ drw l ↔ x ∈ drK p.1 ∨ x ∈ drs p.2
  last : ∀ k a, l = k ++ [a] → (p.2 ≠ [] → a.1 = lastM p.2 ∧ a.2.1 = true) ∧ (p.2 = [] → a.2.1 = false)
  nil : l = [] → p = ([], [])
theorem TrD.step {l : List Stp} {p : List Stk × Stk} (h : TrD l p) (s : Stp) : TrD (l ++ [s]) (trS p s) := by
  have hnil := trS_nil p s
  refine ⟨fun x => ?_, fun k a e => ?_, fun e => by simp at e⟩
  · cases hs : s.2.1 with
    | false =>
      rw [drw_up l hs, h.same]
      unfold trS
      rw [if_pos hs]
      by_cases e : p.2 = []
      · simp [e]
      · simp [e, drK, drs, drw]
    | true =>
      by_cases e : p.2 = []
      · have h1 : x ∈ drw (l ++ [s]) ↔ x ∈ drw l ∨ x = s.1 := by
          rcases List.eq_nil_or_concat l with rfl | ⟨k, a, rfl⟩
          · simp [drw, onk, hs]
          · rw [List.concat_eq_append, drw_snoc]
            have := (h.last k a (by simp)).2 e
            simp [sgm, onk, hs, this]
        rw [h1, h.same]
        unfold trS
        simp [hs, e, drs, drw, dwn, onk]
      · rcases List.eq_nil_or_concat l with rfl | ⟨k, a, rfl⟩
        · have := h.nil rfl
          rw [this] at e
          exact absurd rfl e
        rw [List.concat_eq_append] at *
        have ha := (h.last k a rfl).1 e
        rw [drw_snoc, h.same]
        obtain ⟨q, b, hq⟩ : ∃ q b, p.2 = q ++ [b] := by
          rcases List.eq_nil_or_concat p.2 with h | ⟨q, b, h⟩
          · exact absurd h e
          · exact ⟨q, b, by rw [h, List.concat_eq_append]⟩
        have hb : lastM p.2 = b := by rw [hq, lastM_snoc]
        have h2 : x ∈ sgm a s ↔ x ∈ lineM b s.1 := by simp [sgm, ha.2, hs, ha.1, hb]
        have h3 : x ∈ onk s ↔ x = s.1 := by simp [onk, hs]
        rw [h2, h3]
        have hbm : b ∈ drs p.2 := by
          rw [hq]
          exact drw_mem _ (dwn b) (by simp [dwn]) rfl
        unfold trS
        rw [if_neg (by simp [hs])]
        split
        · rw [hb]
          have h4 : x ∈ drs [b, s.1] ↔ x = b ∨ x ∈ lineM b s.1 ∨ x = s.1 := by
            have := drs_snoc [] b s.1 x
            simp only [List.nil_append, List.cons_append] at this
            rw [this]
            simp [drs, drw, onk, dwn]
          simp only [drK, List.flatMap_append, List.flatMap_cons, List.flatMap_nil, List.append_nil, List.mem_append, h4]
          constructor <;> intro h
          · rcases h with (h | h) | h | h <;> simp [h]
          · rcases h with (h | h) | h | h | h
            · simp [h]
            · simp [h]
            · subst h; simp [hbm]
            · simp [h]
            · simp [h]
        · rw [hq, drs_snoc]
          constructor <;> intro h
          · rcases h with (h | h) | h | h <;> simp [h]
          · rcases h with h | h | h | h <;> simp [h]
  · have e : l = k ∧ s = a := by
      have := List.append_inj' e rfl
      exact ⟨this.1, by simpa using this.2⟩
    obtain ⟨rfl, rfl⟩ := e
    refine ⟨fun h2 => ?_, fun h2 => hnil.1 h2⟩
    have hs : s.2.1 = true := by
      cases hs : s.2.1 with
      | true => rfl
      | false => exact absurd (hnil.2 hs) h2
    refine ⟨?_, hs⟩
    unfold trS
    rw [if_neg (by simp [hs])]
    split
    · rfl
    · rw [lastM_snoc]
end Go.Cams


/- Stops that are planned draw what the strokes draw, and are not far apart, in plain terms. -/
namespace Go.Cams
open Go Go.Fw
/-! ### Machines -/
/-! ### Plans -/
theorem bkJ_spec (L : List Mk) (i : Nat) : ∀ j, bkJ L i j = 0 ∨ lineM (gM L i) (gM L (bkJ L i j)) = (L.take (bkJ L i j + 1)).drop i
  | 0 => .inl rfl
  | j + 1 => by
    unfold bkJ
    split
    · rename_i h; exact .inr h
    · exact bkJ_spec L i j
theorem goF_down {most : Nat} (hm : 1 ≤ most) {a b : Mk} (ha : OnP a) (hb : OnP b) : ∀ (f i : Nat) (A : List Stp), i < (lineM a b).length → (lineM a b).length ≤ f + i → (∀ x, x ∈ drw (A ++ [dwn (gM (lineM a b) i)] ++ goF most true (lineM a b) f i) ↔ x ∈ drw (A ++ [dwn (gM (lineM a b) i)]) ∨ x ∈ (lineM a b).drop i) ∧ ∃ B, A ++ [dwn (gM (lineM a b) i)] ++ goF most true (lineM a b) f i = B ++ [dwn b]
  | 0, i, A, hi, hf => by omega
  | f + 1, i, A, hi, hf => by
    have hl := line_last ha hb
    unfold goF
    by_cases h : i < (lineM a b).length - 1
    · rw [if_pos h]
      have hj := toJ_bd hm true ha hb h
      obtain ⟨j, ej⟩ : ∃ j, j = toJ most true (lineM a b) i := ⟨_, rfl⟩
      rw [← ej] at hj ⊢
      have hline : lineM (gM (lineM a b) i) (gM (lineM a b) j) = ((lineM a b).take (j + 1)).drop i := by
        have := bkJ_spec (lineM a b) i (min (i + most) ((lineM a b).length - 1))
        have e : toJ most true (lineM a b) i = bkJ (lineM a b) i (min (i + most) ((lineM a b).length - 1)) := by unfold toJ; rw [if_pos rfl]
        rw [← e, ← ej] at this
        rcases this with h | h
        · omega
        · exact h
      obtain ⟨ih1, ih2⟩ := goF_down hm ha hb f j (A ++ [dwn (gM (lineM a b) i)]) (by omega) (by omega)
      have e : A ++ [dwn (gM (lineM a b) i)] ++ (gM (lineM a b) j, true, ()) :: goF most true (lineM a b) f j = A ++ [dwn (gM (lineM a b) i)] ++ [dwn (gM (lineM a b) j)] ++ goF most true (lineM a b) f j := by simp [dwn]
      rw [e]
      refine ⟨fun x => ?_, ih2⟩
      rw [ih1, drw_snoc]
      have h2 : x ∈ sgm (dwn (gM (lineM a b) i)) (dwn (gM (lineM a b) j)) ↔ x ∈ ((lineM a b).take (j + 1)).drop i := by
        unfold sgm
        rw [if_pos ⟨rfl, rfl⟩, ← hline]; rfl
      have h3 : x ∈ onk (dwn (gM (lineM a b) j)) ↔ x = gM (lineM a b) j := by simp [onk, dwn]
      rw [h2, h3]
      have h4 : (lineM a b).drop i = ((lineM a b).take (j + 1)).drop i ++ (lineM a b).drop (j + 1) := by
        conv => lhs; rw [← List.take_append_drop (j + 1) (lineM a b)]
        rw [List.drop_append_of_le_length (by simp; omega)]
      have h5 : x ∈ (lineM a b).drop j ↔ x = gM (lineM a b) j ∨ x ∈ (lineM a b).drop (j + 1) := by
        have hg := gM_idx (L := lineM a b) (i := (j : Int)) (by omega) (by omega)
        have := hg.drop
        rw [Int.toNat_natCast] at this
        rw [this, List.mem_cons]
        have : ((j : Int) + 1).toNat = j + 1 := by omega
        rw [this]
      have h6 : gM (lineM a b) j ∈ ((lineM a b).take (j + 1)).drop i := by
        have hg := (gM_idx (L := lineM a b) (i := (j : Int)) (by omega) (by omega)).get
        rw [Int.toNat_natCast] at hg
        have : (((lineM a b).take (j + 1)).drop i)[j - i]? = some (gM (lineM a b) j) := by
          rw [List.getElem?_drop, List.getElem?_take, if_pos (by omega), show i + (j - i) = j by omega, hg]
        exact List.mem_of_getElem? this
      rw [h5, h4, List.mem_append]
      constructor <;> intro h
      · rcases h with (h | h | h) | h | h
        · simp [h]
        · simp [h]
        · subst h; simp [h6]
        · subst h; simp [h6]
        · simp [h]
      · rcases h with h | h | h <;> simp [h]
    · rw [if_neg h]
      have hi2 : i = (lineM a b).length - 1 := by omega
      refine ⟨fun x => ?_, A, by rw [hi2, hl]; simp⟩
      have hd : (lineM a b).drop i = [gM (lineM a b) i] := by
        have hg := gM_idx (L := lineM a b) (i := (i : Int)) (by omega) (by omega)
        have := hg.drop
        rw [Int.toNat_natCast, show ((i : Int) + 1).toNat = i + 1 by omega, List.drop_of_length_le (i := i + 1) (by omega)] at this
        exact this
      rw [hd, List.append_nil, List.mem_singleton]
      constructor
      · exact .inl
      · rintro (h | rfl)
        · exact h
        · exact drw_mem _ (dwn (gM (lineM a b) i)) (by simp) rfl
theorem goF_ups (most : Nat) (L : List Mk) : ∀ f i, ∀ b ∈ goF most false L f i, b.2.1 = false
  | 0, _, b, h => by simp [goF] at h
  | f + 1, i, b, h => by
    unfold goF at h
    split at h
    · rcases List.mem_cons.1 h with rfl | h
      · rfl
      · exact goF_ups most L f _ b h
    · simp at h
/-- What is known of the stops that are planned so far: where the last is, and what they draw. -/
structure PlD (st : Mk × List Stp) (S : Mk → Prop) : Prop where
  at_ : OnP st.1
  draws : ∀ x, x ∈ drw st.2 ↔ S x
  last : ∀ k a, st.2 = k ++ [a] → a.1 = st.1
theorem gM_zero_line {a b : Mk} (ha : OnP a) (hb : OnP b) : gM (lineM a b) 0 = a := by
  by_cases h : far a b = 0
  · unfold lineM; rw [if_pos h]; rfl
  · obtain ⟨f0, _, _⟩ := far_bd ha hb
    rw [lineM_get h (by omega)]
    exact ptM_zero ha hb h
theorem goF_end {most : Nat} (hm : 1 ≤ most) (down : Bool) {a b : Mk} (ha : OnP a) (hb : OnP b) : ∀ (f i : Nat), i < (lineM a b).length → (lineM a b).length ≤ f + i → ∀ k v, goF most down (lineM a b) f i = k ++ [v] → v.1 = b
  | 0, i, hi, hf => by omega
  | f + 1, i, hi, hf => by
    intro k v e
    unfold goF at e
    split at e
    · rename_i h
      have hj := toJ_bd hm down ha hb h
      by_cases h2 : toJ most down (lineM a b) i < (lineM a b).length - 1
      · cases k with
        | nil =>
          exfalso
          have hne : goF most down (lineM a b) f (toJ most down (lineM a b) i) ≠ [] := by
            cases f with
            | zero => omega
            | succ f => unfold goF; rw [if_pos h2]; simp
          simp at e
          exact hne e.2
        | cons c k =>
          simp only [List.cons_append, List.cons.injEq] at e
          exact goF_end hm down ha hb f _ (by omega) (by omega) k v e.2
      · rw [goF_last most down (lineM a b) f h2] at e
        have e2 : k = [] ∧ (gM (lineM a b) (toJ most down (lineM a b) i), down, ()) = v := by
          have := List.append_inj' (s₁ := []) (t₁ := [(gM (lineM a b) (toJ most down (lineM a b) i), down, ())]) (s₂ := k) (t₂ := [v]) e rfl
          exact ⟨this.1.symm, by simpa using this.2⟩
        rw [← e2.2]
        have : toJ most down (lineM a b) i = (lineM a b).length - 1 := by omega
        show gM (lineM a b) (toJ most down (lineM a b) i) = b
        rw [this, line_last ha hb]
    · simp at e
theorem goL_nil {most : Nat} {down : Bool} {a b : Mk} (ha : OnP a) (hb : OnP b) (h : goL most down a b = []) : a = b := by
  have hl := lineM_length ha hb
  obtain ⟨f0, _, _⟩ := far_bd ha hb
  unfold goL goF at h
  split at h
  · simp at h
  · exact far_zero ha hb (by omega)
theorem PlD.up {most : Nat} (hm : 1 ≤ most) {st : Mk × List Stp} {S : Mk → Prop} (h : PlD st S) {b : Mk} (hb : OnP b) : PlD (b, st.2 ++ goL most false st.1 b) S := by
  have hl := lineM_length h.at_ hb
  obtain ⟨f0, f1, _⟩ := far_bd h.at_ hb
  refine ⟨hb, fun x => ?_, fun k v e => ?_⟩
  · show x ∈ drw (st.2 ++ goL most false st.1 b) ↔ _
    unfold goL
    rw [drw_ups _ _ (goF_ups most _ _ _), h.draws]
  · rcases List.eq_nil_or_concat (goL most false st.1 b) with h2 | ⟨q, w, h2⟩
    · have e : st.2 ++ goL most false st.1 b = k ++ [v] := e
      rw [h2, List.append_nil] at e
      rw [h.last k v e]
      exact goL_nil h.at_ hb h2
    · rw [List.concat_eq_append] at h2
      have e : st.2 ++ goL most false st.1 b = k ++ [v] := e
      rw [h2, ← List.append_assoc] at e
      have e2 : w = v := by have := (List.append_inj' e rfl).2; simpa using this
      rw [← e2]
      exact goF_end hm false h.at_ hb 64 0 (by omega) (by omega) q w h2
theorem PlD.down {most : Nat} (hm : 1 ≤ most) {st : Mk × List Stp} {S : Mk → Prop} (h : PlD st S) (hd : ∃ k, st.2 = k ++ [dwn st.1]) {b : Mk} (hb : OnP b) : PlD (drF most st b) (fun x => S x ∨ x ∈ lineM st.1 b) ∧ ∃ k, (drF most st b).2 = k ++ [dwn (drF most st b).1] := by
  have hl := lineM_length h.at_ hb
  obtain ⟨f0, f1, _⟩ := far_bd h.at_ hb
  obtain ⟨k, hk⟩ := hd
  have h0 := gM_zero_line h.at_ hb
  obtain ⟨h1, B, h2⟩ := goF_down hm h.at_ hb 64 0 k (by omega) (by omega)
  rw [h0, ← hk] at h1 h2
  have e : (drF most st b).2 = st.2 ++ goF most true (lineM st.1 b) 64 0 := rfl
  refine ⟨⟨hb, fun x => ?_, fun q v ev => ?_⟩, B, by rw [e, h2]; rfl⟩
  · rw [e, h1, h.draws, List.drop_zero]
  · rw [e, h2] at ev
    have e2 : dwn b = v := by have := (List.append_inj' ev rfl).2; simpa using this
    rw [← e2]; rfl
end Go.Cams


/- Machines that are compiled of strokes, in plain terms. -/
namespace Go.Cams
open Go Go.Fw
/-! ### Near -/
def Ch (most : Int) (a : Mk) : List Stp → Prop
  | [] => True
  | s :: r => far a s.1 ≤ most ∧ Ch most s.1 r
/-! ### The machine -/
end Go.Cams


/- Inner loops with untold results; drawn strokes. -/
namespace Go.Fw
variable {α β σ τ : Type}
end Go.Fw
namespace Go.Cams
open Go Go.Fw
/-- Strokes as they are drawn. -/
def SmT (K : List Stk) : Prop := K.length ≤ 4 ∧ ∀ s ∈ K, (1 ≤ s.length ∧ s.length ≤ 4) ∧ ∀ m ∈ s, OnP m
theorem SmT.rng {K : List Stk} (h : SmT K) : RngT K := ⟨by have := h.1; omega, fun s hs => ⟨by have := (h.2 s hs).1; omega, fun m hm => ⟨((h.2 s hs).2 m hm).len, onP_rng ((h.2 s hs).2 m hm)⟩⟩⟩
/-- No move is longer than told. -/
theorem Ch.get {most : Int} : ∀ {l : List Stp} {a : Mk}, Ch most a l → ∀ {i : Nat} {s t : Stp}, l[i]? = some s → l[i + 1]? = some t → far s.1 t.1 ≤ most
  | [], _, _, i, s, t, h, _ => by simp at h
  | [c], _, _, i, s, t, _, h => by simp at h
  | c :: d :: r, a, h, 0, s, t, h1, h2 => by
    simp at h1 h2
    subst h1; subst h2
    exact h.2.1
  | c :: d :: r, a, h, i + 1, s, t, h1, h2 => Ch.get (l := d :: r) (a := c.1) h.2 (i := i) (by simpa using h1) (by simpa using h2)
theorem Ch.first {most : Int} {l : List Stp} {a : Mk} {t : Stp} (h : Ch most a l) (h2 : l[0]? = some t) : far a t.1 ≤ most := by
  cases l with
  | nil => simp at h2
  | cons c r => simp at h2; subst h2; exact h.1
end Go.Cams
namespace Go.Cams
open Go Go.Fw
end Go.Cams


/- Flat cutters and feet; springs that keep a follower on its cam; shafts that turn with the machine, in plain terms. -/
namespace Go.Cams
open Go Go.Fw
/-! ### Flat cutters -/
/-! ### Springs -/
def bends (c : List Int) : List Int := tb c.length fun i => bendP c (i : Nat)
theorem bends_bd {c : List Int} (h0 : 0 < c.length) (hC : ∀ v ∈ c, 0 ≤ v ∧ v ≤ 10000) (x : Int) : -20000 ≤ bendP c x ∧ bendP c x ≤ 20000 := by
  have a := hC _ (cAt_mem h0 (x + 1))
  have b := hC _ (cAt_mem h0 x)
  have d := hC _ (cAt_mem h0 (x - 1))
  unfold bendP; omega
theorem mnL_bd {l : List Int} (h : l ≠ []) {A B : Int} (hb : ∀ v ∈ l, A ≤ v ∧ v ≤ B) : A ≤ mnL l ∧ mnL l ≤ B := by
  cases l with
  | nil => exact absurd rfl h
  | cons a r =>
    have h1 := mnF_le (a :: r) a A (hb a (by simp)).1 (fun v hv => (hb v hv).1)
    have h2 := (mnF_ge (a :: r) a).2 a (by simp)
    have h3 := (hb a (by simp)).2
    exact ⟨h1, by show mnF (a :: r) a ≤ B; omega⟩
/-! ### Shafts that turn with the machine -/
end Go.Cams


/- Slopes, bases and wear of cams, in plain terms. -/
namespace Go.Cams
open Go Go.Fw
/-! ### Tracks -/
/-! ### Landings and wear -/
end Go.Cams


/- Slopes and bases, in plain terms. -/
namespace Go.Cams
open Go Go.Fw
abbrev Slp : Type := Int × (Int × Unit)
/-! ### Bases -/
/-! ### Bounds -/
end Go.Cams
namespace Go.Cams
open Go Go.Fw
/-- A slope that can be compared. -/
structure SlB (s : Slp) : Prop where
  p : -1000000000 ≤ s.1 ∧ s.1 ≤ 1000000000
  q : 1 ≤ s.2.1 ∧ s.2.1 ≤ 1000000000
theorem SlB.siz {s : Slp} (h : SlB s) : 0 ≤ Cams.siz s.1 ∧ Cams.siz s.1 ≤ 1000000000 := by
  have := h.p
  unfold Cams.siz; split <;> omega
end Go.Cams
namespace Go.Cams
open Go Go.Fw
end Go.Cams


/- Followers: flown steps, the hardest landing, springs that let go. In plain terms. -/
namespace Go.Cams
open Go Go.Fw
theorem fi_first {α : Type} {p : α → Bool} : ∀ {l : List α} {i : Int} {j : Nat}, 0 ≤ i → (∃ v, l[j]? = some v ∧ p v = true) → ∃ m : Nat, m ≤ j ∧ fi p l i = i + m ∧ ∃ v, l[m]? = some v ∧ p v = true
  | [], _, j, _, h => by obtain ⟨v, h, _⟩ := h; simp at h
  | a :: r, i, j, hi, h => by
    unfold fi
    by_cases ha : p a = true
    · rw [if_pos ha]; exact ⟨0, by omega, by omega, a, rfl, ha⟩
    · rw [if_neg ha]
      cases j with
      | zero => obtain ⟨v, h, hv⟩ := h; simp at h; subst h; exact absurd hv ha
      | succ j =>
        obtain ⟨m, h1, h2, h3⟩ := fi_first (l := r) (i := i + 1) (j := j) (by omega) (by simpa using h)
        exact ⟨m + 1, by omega, by rw [h2]; omega, by simpa using h3⟩
end Go.Cams


/- Texts cut at a byte, numbers read. In plain terms. -/
namespace Go.Cams
open Go Go.Fw
/-! ### Texts cut at a byte -/
end Go.Cams


/- Tracks of followers: on the cam or above it. In plain terms. -/
namespace Go.Cams
open Go Go.Fw
end Go.Cams


/- Texts cut at each byte of a kind; numerals read strictly and with a check. In plain terms. -/
namespace Go.Cams
open Go Go.Fw
/-! ### Words between bytes of a kind -/
/-! ### Numerals -/
end Go.Cams
namespace Go.Cams
open Go Go.Fw
end Go.Cams


/- Programs read from their texts. In plain terms. -/
namespace Go.Cams
open Go Go.Fw
end Go.Cams
namespace Go.Cams
open Go Go.Fw
end Go.Cams


/- Cams read from their texts. In plain terms. -/
namespace Go.Cams
open Go Go.Fw
/-! ### Runs -/
/-! ### Words of runs -/
/-- What is known of a cam as far as it is read. -/
def GoodC (c : List Int) : Prop := c.length ≤ 360 ∧ ∀ v ∈ c, 0 ≤ v ∧ v ≤ 10000
theorem GoodC.rng {c : List Int} (h : GoodC c) : Rng c := ⟨by have := h.1; omega, fun v hv => by have := h.2 v hv; omega⟩
end Go.Cams


/- Texts of shafts. In plain terms. -/
namespace Go.Cams
open Go Go.Fw
structure RngSf (s : Sft) : Prop where
  n : -32768 ≤ s.1 ∧ s.1 ≤ 32767
  d : -32768 ≤ s.2.1 ∧ s.2.1 ≤ 32767
  p : -32768 ≤ s.2.2.1 ∧ s.2.2.1 ≤ 32767
  c : Rng s.2.2.2.1
end Go.Cams


/- Shafts read from their texts. In plain terms. -/
namespace Go.Cams
open Go Go.Fw
/-! ### Lines -/
end Go.Cams


/- Cuts' texts, and what a list of cuts of one cutter does. In plain terms. -/
namespace Go.Cams
open Go Go.Fw
theorem OneK.okCt {m : Nat} {L : List Ct} (h : OneK m L) (hm : m ≤ 360) : okCt L 8 = true := by
  have hr := h.rng hm
  simp only [Go.Cams.okCt, Bool.and_eq_true, decide_eq_true_eq, List.all_eq_true]
  refine ⟨h.l, fun v hv => ?_⟩
  have := h.el v hv
  simp only [ctOk, Bool.and_eq_true, inR_iff]
  rw [hr.i1 hv, hr.i2 hv, hr.i3 hv, wrap_id (by simp) (by simp)]
  omega
/-! ### Sums -/
end Go.Cams


/- Shafts' periods, in plain terms. -/
namespace Go.Cams
open Go Go.Fw
def nN (s : Sft) : Nat := (wr .i64 s.1).toNat
def nD (s : Sft) : Nat := (wr .i64 s.2.1).toNat
def nL (s : Sft) : Nat := s.2.2.2.1.length
def nP (s : Sft) : Nat := (wr .i64 s.2.2.1).toNat
theorem Good.nn {s : Sft} (h : Good s) : (wr .i64 s.1 = (nN s : Int) ∧ 1 ≤ nN s ∧ nN s ≤ 60) ∧ (wr .i64 s.2.1 = (nD s : Int) ∧ 1 ≤ nD s ∧ nD s ≤ 60) ∧ (8 ≤ nL s ∧ nL s ≤ 360) ∧ (wr .i64 s.2.2.1 = (nP s : Int) ∧ nP s ≤ 360) := by
  have h1 := h.num
  have h2 := h.den
  have h3 := h.len
  have h4 := h.ph
  unfold nN nD nL nP
  omega
/-- A shaft that is drawn. -/
structure DrS (s : Sft) : Prop where
  n : 1 ≤ s.1 ∧ s.1 ≤ 3
  d : 1 ≤ s.2.1 ∧ s.2.1 ≤ 3
  l : 8 ≤ s.2.2.2.1.length ∧ s.2.2.2.1.length ≤ 16
  c : ∀ v ∈ s.2.2.2.1, 0 ≤ v ∧ v ≤ 9
  p : 0 ≤ s.2.2.1 ∧ s.2.2.1 < (s.2.2.2.1.length : Int)
theorem DrS.rng {s : Sft} (h : DrS s) : RngSf s := ⟨by have := h.n; omega, by have := h.d; omega, by have := h.p; have := h.l; omega, rng_bd (by have := h.l; omega) fun v hv => by have := h.c v hv; omega⟩
theorem DrS.ok {s : Sft} (h : DrS s) : okS s = true := by
  have h1 := h.n
  have h2 := h.d
  have h3 := h.l
  have h4 := h.p
  simp only [okS, okC, Bool.and_eq_true, inR_iff, List.all_eq_true]
  rw [wrap_id (x := s.1) (by omega) (by omega), wrap_id (x := s.2.1) (by omega) (by omega), wrap_id (x := s.2.2.1) (by omega) (by omega), wrap_id (by omega) (by omega)]
  refine ⟨⟨⟨by omega, by omega⟩, ⟨by omega, fun v hv => ?_⟩⟩, by omega⟩
  have := h.c v hv
  simp only [okV, inR_iff]
  rw [wrap_id (by omega) (by omega)]
  omega
end Go.Cams


/- Cams turned and mirrored, in plain terms. -/
namespace Go.Cams
open Go Go.Fw
def Per (c : List Int) (k : Int) : Prop := ∀ x, cAt c (x + k) = cAt c x
theorem Per.neg {c : List Int} {k : Int} (h : Per c k) : Per c (-k) := fun x => by
  have := h (x + -k)
  rw [← this]
  congr 1
  omega
/-! ### Mirrors -/
/-! ### Which of two turns comes first -/
def LexP (a b : Int → Int) (n : Nat) : Prop := ∃ i : Nat, i < n ∧ (∀ j : Nat, j < i → a j = b j) ∧ a i < b i
noncomputable instance lexD (a b : Int → Int) (n : Nat) : Decidable (LexP a b n) := Classical.propDecidable _
/-! ### Sums -/
/-! ### The greatest's place -/
end Go.Cams


/- Plates' texts in base 16, in plain terms. -/
namespace Go.Cams
open Go Go.Fw
end Go.Cams


/- Plates read from their texts in base 16, in plain terms. -/
namespace Go.Cams
open Go Go.Fw
end Go.Cams


/- Grids' texts, in plain terms. -/
namespace Go.Cams
open Go Go.Fw
/-! ### Repairs -/
end Go.Cams


/- Digits of base 16 gathered, in plain terms. -/
namespace Go.Cams
open Go Go.Fw
end Go.Cams


/- The greatest of numbers, as the reference finds it. -/
namespace Go.Cams
open Go Go.Fw
end Go.Cams


/- Free stretches of steps, in plain terms. -/
namespace Go.Cams
open Go Go.Fw
def hF (h : List Bool) (j : Nat) : Bool := h.getD (j % h.length) false
theorem hF_per (h : List Bool) (j : Nat) : hF h (j + h.length) = hF h j := by unfold hF; rw [Nat.add_mod_right]
theorem hF_mod (h : List Bool) (j : Nat) : hF h (j % h.length) = hF h j := by unfold hF; rw [Nat.mod_mod]
/-- The steps from i on that are not held, f at most. -/
def frl (h : List Bool) : Nat → Nat → Nat
  | _, 0 => 0
  | i, f + 1 => if hF h i = true then 0 else 1 + frl h (i + 1) f
theorem frl_eq {h : List Bool} : ∀ {f i k : Nat}, (∀ j, j < k → hF h (i + j) = false) → hF h (i + k) = true → k ≤ f → frl h i f = k
  | 0, i, k, _, _, hk => by
    have e : k = 0 := by omega
    subst e; rfl
  | f + 1, i, 0, _, h2, _ => by unfold frl; exact if_pos h2
  | f + 1, i, k + 1, h1, h2, hk => by
    unfold frl
    rw [if_neg (by rw [show i = i + 0 by omega, h1 0 (by omega)]; simp), frl_eq (i := i + 1) (k := k) (fun j hj => by rw [show i + 1 + j = i + (j + 1) by omega]; exact h1 (j + 1) (by omega)) (by rw [show i + 1 + k = i + (k + 1) by omega]; exact h2) (by omega)]
    omega
theorem frl_le (h : List Bool) : ∀ (f i : Nat), frl h i f ≤ f
  | 0, _ => Nat.le_refl _
  | f + 1, i => by
    unfold frl
    have := frl_le h f (i + 1)
    split <;> omega
theorem frl_free (h : List Bool) : ∀ (f i j : Nat), j < frl h i f → hF h (i + j) = false
  | 0, _, _, hj => absurd hj (by simp [frl])
  | f + 1, i, j, hj => by
    unfold frl at hj
    split at hj
    · omega
    · rename_i h1
      cases j with
      | zero => simpa using h1
      | succ j =>
        have := frl_free h f (i + 1) j (by omega)
        rwa [show i + 1 + j = i + (j + 1) by omega] at this
/-- Before the end a run goes on. -/
theorem frl_stop (h : List Bool) : ∀ (f i : Nat), frl h i f < f → hF h (i + frl h i f) = true
  | 0, _, hj => absurd hj (by omega)
  | f + 1, i, hj => by
    unfold frl at hj ⊢
    split
    · rename_i h1; exact h1
    · rename_i h1
      rw [if_neg h1] at hj
      have := frl_stop h f (i + 1) (by omega)
      rwa [show i + 1 + frl h (i + 1) f = i + (1 + frl h (i + 1) f) by omega] at this
theorem frl_per (h : List Bool) : ∀ (f i : Nat), frl h (i + h.length) f = frl h i f
  | 0, _ => rfl
  | f + 1, i => by
    unfold frl
    rw [hF_per, show i + h.length + 1 = i + 1 + h.length by omega, frl_per h f (i + 1)]
theorem frl_lt {h : List Bool} {f i k : Nat} (hk : hF h (i + k) = true) (h2 : k < f) : frl h i f ≤ k := by
  apply Classical.byContradiction
  intro hn
  have := frl_free h f i k (by omega)
  rw [this] at hk
  cases hk
/-- A step at which a free stretch begins. -/
def begF (h : List Bool) (i : Nat) : Bool := !hF h i && hF h (i + h.length - 1)
def prF (h : List Bool) (i : Nat) : List Int := [((i % h.length : Nat) : Int), ((frl h i h.length : Nat) : Int)]
def frI (h : List Bool) (s m : Nat) : List (List Int) := ((List.range' s m).filter (begF h)).map (prF h)
theorem begF_per {h : List Bool} (h0 : 0 < h.length) (i : Nat) : begF h (i + h.length) = begF h i := by
  unfold begF
  rw [hF_per, show i + h.length + h.length - 1 = i + h.length - 1 + h.length by omega, hF_per]
theorem prF_per {h : List Bool} (i : Nat) : prF h (i + h.length) = prF h i := by
  unfold prF
  rw [Nat.add_mod_right, frl_per]
theorem frI_app (h : List Bool) (s a b : Nat) : frI h s (a + b) = frI h s a ++ frI h (s + a) b := by
  unfold frI
  rw [← List.range'_append (s := s) (m := a) (n := b) (step := 1), List.filter_append, List.map_append, Nat.one_mul]
theorem frI_one (h : List Bool) (s : Nat) : frI h s 1 = if begF h s = true then [prF h s] else [] := by
  unfold frI
  rw [List.range'_one]
  by_cases hb : begF h s = true
  · rw [List.filter_cons_of_pos hb, if_pos hb]; rfl
  · rw [List.filter_cons_of_neg hb, if_neg hb]; rfl
theorem frI_none {h : List Bool} {s m : Nat} (hn : ∀ i, s ≤ i → i < s + m → begF h i = false) : frI h s m = [] := by
  unfold frI
  rw [List.filter_eq_nil_iff.2 fun i hi => by
    have := List.mem_range'_1.1 hi
    rw [hn i this.1 this.2]; simp]
  rfl
theorem frI_per {h : List Bool} (h0 : 0 < h.length) : ∀ (m s : Nat), frI h (s + h.length) m = frI h s m
  | 0, _ => rfl
  | m + 1, s => by
    rw [frI_app h s m 1, frI_app h (s + h.length) m 1, frI_per h0 m s, frI_one, frI_one, show s + h.length + m = s + m + h.length by omega, begF_per h0, prF_per]
theorem prev_per {h : List Bool} {i : Nat} (hi : 1 ≤ i) : hF h (i + h.length - 1) = hF h (i - 1) := by
  rw [show i + h.length - 1 = i - 1 + h.length by omega, hF_per]
/-- One round: from s a run of k free steps, then a held one. -/
theorem frI_run {h : List Bool} {s k : Nat} (hs : 1 ≤ s ∨ k = 0) (hp : k = 0 ∨ hF h (s - 1) = true) (hf : ∀ j, j < k → hF h (s + j) = false) (hh : hF h (s + k) = true) : frI h s (k + 1) = if 0 < k then [prF h s] else [] := by
  have hlast : begF h (s + k) = false := by unfold begF; rw [hh]; rfl
  by_cases hk : 0 < k
  · rw [if_pos hk, show k + 1 = 1 + k by omega, frI_app, frI_one, frI_none (s := s + 1)]
    · have hb : begF h s = true := by
        unfold begF
        have := hf 0 hk
        rw [Nat.add_zero] at this
        rw [this, prev_per (by omega), hp.resolve_left (by omega)]
        rfl
      rw [if_pos hb]; rfl
    · intro i h1 h2
      by_cases e : i = s + k
      · rw [e]; exact hlast
      · unfold begF
        rw [prev_per (by omega), show i - 1 = s + (i - 1 - s) by omega, hf (i - 1 - s) (by omega)]
        simp
  · have e : k = 0 := by omega
    subst e
    rw [if_neg (by omega), frI_one, if_neg (by rw [Nat.add_zero] at hlast; rw [hlast]; simp)]
/-! ### Sorted -/
theorem insK_perm (p : List Int) : ∀ l : List (List Int), (insK p l).Perm (p :: l)
  | [] => List.Perm.refl _
  | q :: l => by
    unfold insK
    split
    · exact List.Perm.refl _
    · exact ((insK_perm p l).cons q).trans (List.Perm.swap p q l)
theorem sortK_perm : ∀ l : List (List Int), (sortK l).Perm l
  | [] => List.Perm.refl _
  | p :: l => by
    show (insK p (sortK l)).Perm _
    exact (insK_perm p _).trans ((sortK_perm l).cons p)
abbrev keyLt (a b : List Int) : Prop := a.headD 0 < b.headD 0
theorem insK_pw {p : List Int} : ∀ {l : List (List Int)}, l.Pairwise keyLt → (∀ q ∈ l, p.headD 0 ≠ q.headD 0) → (insK p l).Pairwise keyLt
  | [], _, _ => by simp [insK]
  | q :: l, h, hn => by
    have h' := List.pairwise_cons.1 h
    unfold insK
    split
    · rename_i h1
      refine List.pairwise_cons.2 ⟨fun x hx => ?_, h⟩
      rcases List.mem_cons.1 hx with e | hx
      · rw [e]; exact h1
      · exact Int.lt_trans h1 (h'.1 x hx)
    · rename_i h1
      refine List.pairwise_cons.2 ⟨fun x hx => ?_, insK_pw h'.2 fun x hx => hn x (List.mem_cons_of_mem _ hx)⟩
      rcases List.mem_cons.1 ((insK_perm p l).mem_iff.1 hx) with e | hx
      · rw [e]
        have := hn q (by simp)
        show q.headD 0 < p.headD 0
        omega
      · exact h'.1 x hx
theorem sortK_pw : ∀ {l : List (List Int)}, (l.map (·.headD 0)).Nodup → (sortK l).Pairwise keyLt
  | [], _ => List.Pairwise.nil
  | p :: l, h => by
    have h' := List.nodup_cons.1 (by simpa using h : ((p.headD 0) :: l.map (·.headD 0)).Nodup)
    refine insK_pw (sortK_pw h'.2) fun q hq e => h'.1 ?_
    rw [e]
    exact List.mem_map.2 ⟨q, (sortK_perm l).mem_iff.1 hq, rfl⟩
theorem pw_nodup {l : List (List Int)} (h : l.Pairwise keyLt) : (l.map (·.headD 0)).Nodup := by
  unfold List.Nodup
  rw [List.pairwise_map]
  exact h.imp fun hab e => by
    have hab : _ < _ := hab
    omega
theorem pw_eq {l l' : List (List Int)} (h : l.Pairwise keyLt) (h' : l'.Pairwise keyLt) (hp : l.Perm l') : l = l' :=
  List.Perm.eq_of_pairwise (le := keyLt) (fun a b _ _ h1 h2 => by
    have h1 : a.headD 0 < b.headD 0 := h1
    have h2 : b.headD 0 < a.headD 0 := h2
    omega) h h' hp
theorem sortK_of {l l' : List (List Int)} (hp : l.Perm l') (h : l'.Pairwise keyLt) : sortK l = l' := by
  have hn : (l.map (·.headD 0)).Nodup := ((hp.map (·.headD 0)).nodup_iff).2 (pw_nodup h)
  exact pw_eq (sortK_pw hn) h ((sortK_perm l).trans hp)
theorem frI_pw {h : List Bool} : ∀ (m : Nat), m ≤ h.length → (frI h 0 m).Pairwise keyLt
  | m, hm => by
    unfold frI
    rw [List.pairwise_map]
    have h1 : (List.range' 0 m).Pairwise (· < ·) := List.pairwise_lt_range'
    have h2 : ((List.range' 0 m).filter (begF h)).Pairwise (· < ·) := h1.filter _
    refine List.Pairwise.imp_of_mem (fun ha hb hab => ?_) h2
    have ma := List.mem_range'_1.1 (List.mem_filter.1 ha).1
    have mb := List.mem_range'_1.1 (List.mem_filter.1 hb).1
    show ((_ % h.length : Nat) : Int) < ((_ % h.length : Nat) : Int)
    rw [Nat.mod_eq_of_lt (by omega), Nat.mod_eq_of_lt (by omega)]
    omega
/-- From the first held step on, then sorted: the same stretches. -/
theorem frI_sort {h : List Bool} {s : Nat} (hs : s < h.length) : sortK (frI h s h.length) = frI h 0 h.length := by
  refine sortK_of ?_ (frI_pw _ (Nat.le_refl _))
  have e1 : frI h s h.length = frI h s (h.length - s) ++ frI h 0 s := by
    have e := frI_app h s (h.length - s) s
    rw [show h.length - s + s = h.length by omega, show s + (h.length - s) = 0 + h.length by omega, frI_per (by omega)] at e
    exact e
  have e2 : frI h 0 h.length = frI h 0 s ++ frI h s (h.length - s) := by
    have e := frI_app h 0 s (h.length - s)
    rw [show s + (h.length - s) = h.length by omega, Nat.zero_add] at e
    exact e
  rw [e1, e2]
  exact List.perm_append_comm
theorem frI_mem {h : List Bool} {s m : Nat} {p : List Int} (hp : p ∈ frI h s m) : ∃ i, s ≤ i ∧ i < s + m ∧ begF h i = true ∧ p = prF h i := by
  obtain ⟨i, hi, rfl⟩ := List.mem_map.1 hp
  have := List.mem_filter.1 hi
  have h2 := List.mem_range'_1.1 this.1
  exact ⟨i, h2.1, h2.2, this.2, rfl⟩
theorem frI_len (h : List Bool) (s m : Nat) : (frI h s m).length ≤ m := by
  unfold frI
  rw [List.length_map]
  exact Nat.le_trans (List.length_filter_le _ _) (by simp)
theorem frI_ok {h : List Bool} {s : Nat} (hs : s < h.length) (hl : h.length ≤ 1000000) : sortOk (frI h s h.length) = true := by
  unfold sortOk
  simp only [Bool.and_eq_true, decide_eq_true_eq, List.all_eq_true]
  refine ⟨⟨fun p hp => ?_, ?_⟩, Nat.le_trans (frI_len _ _ _) hl⟩
  · obtain ⟨i, _, _, _, rfl⟩ := frI_mem hp
    have := Nat.mod_lt i (show 0 < h.length by omega)
    refine ⟨rfl, ?_, ?_⟩
    · show (-1000000000000 : Int) ≤ ((i % h.length : Nat) : Int)
      omega
    · show ((i % h.length : Nat) : Int) ≤ 1000000000000
      omega
  · have e := frI_sort hs
    have hp := sortK_perm (frI h s h.length)
    rw [e] at hp
    exact ((hp.map (·.headD 0)).nodup_iff).1 (pw_nodup (frI_pw _ (Nat.le_refl _)))
/-- Where a step is held and no stretch begins, the first step is held. -/
theorem frI_first {h : List Bool} {j : Nat} (hj : j < h.length) (hh : hF h j = true) (hn : frI h 0 h.length = []) : hF h 0 = true := by
  apply Classical.byContradiction
  intro h0
  have h0 : hF h 0 = false := by simpa using h0
  have nb : ∀ i, i < h.length → begF h i = false := fun i hi => by
    apply Classical.byContradiction
    intro hb
    have hb : begF h i = true := by simpa using hb
    have : prF h i ∈ frI h 0 h.length := List.mem_map.2 ⟨i, List.mem_filter.2 ⟨List.mem_range'_1.2 ⟨by omega, by omega⟩, hb⟩, rfl⟩
    rw [hn] at this
    cases this
  have key : ∀ d, hF h (j + d) = true := by
    intro d
    induction d with
    | zero => exact hh
    | succ d ih =>
      apply Classical.byContradiction
      intro hc
      have hc : hF h (j + (d + 1)) = false := by simpa using hc
      have h1 := nb ((j + (d + 1)) % h.length) (Nat.mod_lt _ (by omega))
      have e1 : begF h ((j + (d + 1)) % h.length) = begF h (j + (d + 1)) := by
        unfold begF
        rw [hF_mod]
        congr 1
        unfold hF
        congr 1
        rw [show (j + (d + 1)) % h.length + h.length - 1 = (j + (d + 1)) % h.length + (h.length - 1) by omega, Nat.mod_add_mod, show j + (d + 1) + h.length - 1 = j + (d + 1) + (h.length - 1) by omega]
      rw [e1] at h1
      unfold begF at h1
      rw [hc, prev_per (by omega), show j + (d + 1) - 1 = j + d by omega, ih] at h1
      cases h1
  have := key (h.length - j)
  rw [show j + (h.length - j) = 0 + h.length by omega, hF_per, h0] at this
  cases this
/-- All free stretches. -/
def frA (h : List Bool) : List (List Int) := if h.any (fun v => true == v) = true then frI h 0 h.length else [[0, (h.length : Int)]]
theorem any_hF {h : List Bool} (ha : h.any (fun v => true == v) = true) : ∃ j, j < h.length ∧ hF h j = true := by
  obtain ⟨v, hv, e⟩ := List.any_eq_true.1 ha
  obtain ⟨j, hj, rfl⟩ := List.getElem_of_mem hv
  refine ⟨j, hj, ?_⟩
  unfold hF
  rw [Nat.mod_eq_of_lt hj, List.getD_eq_getElem?_getD, List.getElem?_eq_getElem hj]
  simpa using e
theorem none_hF {h : List Bool} (ha : ¬ h.any (fun v => true == v) = true) (j : Nat) : hF h j = false := by
  apply Classical.byContradiction
  intro hc
  have hc : hF h j = true := by simpa using hc
  refine ha (List.any_eq_true.2 ⟨true, ?_, rfl⟩)
  unfold hF at hc
  rw [List.getD_eq_getElem?_getD] at hc
  cases hg : h[j % h.length]? with
  | none => rw [hg] at hc; cases hc
  | some v =>
    rw [hg] at hc
    have : v = true := hc
    rw [← this]
    exact List.mem_of_getElem? hg
theorem frA_lt {h : List Bool} (ha : h.any (fun v => true == v) = true) (i : Nat) : frl h i h.length < h.length := by
  obtain ⟨j, hj, hh⟩ := any_hF ha
  have h0 : 0 < h.length := by omega
  -- a held step among the next ones
  have hk : ∃ k, k < h.length ∧ hF h (i + k) = true := by
    refine ⟨(j + (h.length - i % h.length)) % h.length, Nat.mod_lt _ h0, ?_⟩
    rw [← hF_mod, Nat.add_mod_mod, ← Nat.mod_add_mod]
    have hm := Nat.mod_lt i h0
    rw [show i % h.length + (j + (h.length - i % h.length)) = j + h.length by omega, hF_mod, hF_per]
    exact hh
  obtain ⟨k, hk1, hk2⟩ := hk
  exact Nat.lt_of_le_of_lt (frl_lt hk2 hk1) hk1
end Go.Cams


/- Even fillings, in plain terms. -/
namespace Go.Cams
open Go Go.Fw
def feV (c : List Int) (f m k : Int) : Int := wr .i16 (nr (cAt c (f - 1) * (m + 1) + (cAt c (f + m) - cAt c (f - 1)) * k) (m + 1))
/-- The first k steps of a stretch, filled. -/
def feS (c : List Int) (f m : Int) (o : List Int) : Nat → List Int
  | 0 => o
  | k + 1 => (feS c f m o k).set ((f + ((k : Nat) : Int)) % c.length).toNat (feV c f m (((k : Nat) : Int) + 1))
theorem feS_len (c : List Int) (f m : Int) (o : List Int) : ∀ k, (feS c f m o k).length = o.length
  | 0 => rfl
  | k + 1 => by
    show ((feS c f m o k).set _ _).length = _
    rw [List.length_set, feS_len c f m o k]
def feP (c : List Int) (o : List Int) (p : List Int) : List Int := feS c (g p 0) (g p 1) o (g p 1).toNat
def feA (c : List Int) (L : List (List Int)) : List Int := L.foldl (feP c) c
theorem feL_len (c : List Int) : ∀ (L : List (List Int)) (o : List Int), (L.foldl (feP c) o).length = o.length
  | [], _ => rfl
  | p :: L, o => by
    show (L.foldl (feP c) (feP c o p)).length = _
    rw [feL_len c L, feP, feS_len]
theorem feA_len (c : List Int) (L : List (List Int)) : (feA c L).length = c.length := feL_len c L c
theorem feA_snoc (c : List Int) (L : List (List Int)) (p : List Int) : feA c (L ++ [p]) = feP c (feA c L) p := by simp [feA]
/-- The code of a cam and of held steps. -/
def hcode (c : List Int) (h : List Bool) : Int := if okC c = false then 1 else if h.length ≠ c.length then 2 else 0
def feR (c : List Int) (h : List Bool) : List Int × Int × Unit := if hcode c h ≠ 0 then ([], hcode c h, ()) else if h.any (fun v => true == v) = true then (feA c (frA h), 0, ()) else ([], 4, ())
theorem hcode_zero {c : List Int} {h : List Bool} (e : hcode c h = 0) : okC c = true ∧ h.length = c.length := by
  unfold hcode at e
  split at e
  · cases e
  · rename_i h1
    split at e
    · cases e
    · rename_i h2
      exact ⟨by simpa using h1, by omega⟩
theorem mulS_bd {x y X Y : Int} (h1 : -X ≤ x) (h2 : x ≤ X) (h3 : 0 ≤ y) (h4 : y ≤ Y) (hX : 0 ≤ X) : -(X * Y) ≤ x * y ∧ x * y ≤ X * Y := by
  have a := Int.mul_le_mul_of_nonneg_right h2 h3
  have b := Int.mul_le_mul_of_nonneg_right h1 h3
  have d := Int.mul_le_mul_of_nonneg_left h4 hX
  have e : -X * y = -(X * y) := Int.neg_mul X y
  omega
/-- The elements of all stretches. -/
theorem frA_mem {h : List Bool} (h0 : 0 < h.length) {p : List Int} (hp : p ∈ frA h) : ∃ i m : Nat, p = [(i : Int), (m : Int)] ∧ i < h.length ∧ 1 ≤ m ∧ m ≤ h.length ∧ ∀ k, k < m → hF h (i + k) = false := by
  unfold frA at hp
  split at hp
  · rename_i ha
    obtain ⟨i, _, hi, hb, rfl⟩ := frI_mem hp
    have hi : i < h.length := by omega
    refine ⟨i, frl h i h.length, ?_, hi, ?_, frl_le _ _ _, fun k hk => frl_free h _ i k hk⟩
    · unfold prF
      rw [Nat.mod_eq_of_lt hi]
    · apply Classical.byContradiction
      intro hn
      have e : frl h i h.length = 0 := by omega
      have := frl_stop h h.length i (by omega)
      rw [e, Nat.add_zero] at this
      unfold begF at hb
      rw [this] at hb
      cases hb
  · rename_i ha
    have e := List.mem_singleton.1 hp
    exact ⟨0, h.length, e, h0, by omega, Nat.le_refl _, fun k _ => none_hF ha _⟩
theorem frA_len (h : List Bool) : (frA h).length ≤ h.length + 1 := by
  unfold frA
  split
  · have := frI_len h 0 h.length; omega
  · simp
/-- One stretch of the whole only where nothing is held. -/
theorem frA_whole {h : List Bool} (h0 : 0 < h.length) : ((frA h).length = 1 ∧ ∃ p, (frA h)[0]? = some p ∧ g p 1 = (h.length : Int)) ↔ ¬ h.any (fun v => true == v) = true := by
  constructor
  · intro ⟨_, p, hp, hg⟩ ha
    have hm := List.mem_of_getElem? hp
    unfold frA at hm
    rw [if_pos ha] at hm
    obtain ⟨i, _, hi, hb, rfl⟩ := frI_mem hm
    have := frA_lt ha i
    have hg : ((frl h i h.length : Nat) : Int) = h.length := hg
    omega
  · intro ha
    unfold frA
    rw [if_neg ha]
    exact ⟨rfl, _, rfl, rfl⟩
end Go.Cams


/- Rounds, dwells, even fillings within a cam's range, in plain terms. -/
namespace Go.Cams
open Go Go.Fw
theorem wr16_id {x : Int} (h0 : -32768 ≤ x) (h1 : x ≤ 32767) : wr .i16 x = x := by
  show IntKind.i16.wrap x = x
  simp [IntKind.wrap, IntKind.signed, IntKind.bits]
  omega
def rndV (c : List Int) (h : List Bool) (i : Nat) : Int := if hF h i = true then cAt c (i : Nat) else nr (cAt c ((i : Nat) - 1) + 2 * cAt c (i : Nat) + cAt c ((i : Nat) + 1)) 4
def rnd (c : List Int) (h : List Bool) : List Int := tb c.length (rndV c h)
theorem rnd_len (c : List Int) (h : List Bool) : (rnd c h).length = c.length := tb_len _ _
theorem rndV_bd {c : List Int} {h : List Bool} {lo hi : Int} (hb : ∀ x, lo ≤ cAt c x ∧ cAt c x ≤ hi) (i : Nat) : lo ≤ rndV c h i ∧ rndV c h i ≤ hi := by
  unfold rndV
  split
  · exact hb _
  · have h1 := hb ((i : Nat) - 1)
    have h2 := hb (i : Nat)
    have h3 := hb ((i : Nat) + 1)
    exact nr_in (by omega) (by omega) (by omega)
theorem rnd_el {c : List Int} {h : List Bool} {lo hi : Int} (hb : ∀ x, lo ≤ cAt c x ∧ cAt c x ≤ hi) : ∀ v ∈ rnd c h, lo ≤ v ∧ v ≤ hi := fun v hv => by
  obtain ⟨i, _, rfl⟩ := tb_mem hv
  exact rndV_bd hb i
theorem cAt_g {c : List Int} {i : Nat} (hi : i < c.length) : cAt c (i : Nat) = g c i := by
  unfold cAt
  rw [Int.emod_eq_of_lt (by omega) (by omega), Int.toNat_natCast]
theorem g_tb' {n i : Nat} {G : Nat → Int} (hi : i < n) : g (tb n G) i = G i := by
  unfold g
  rw [List.getD_eq_getElem?_getD, tb_get hi]
  rfl
theorem rnd_held {c : List Int} {h : List Bool} {i : Nat} (hi : i < c.length) (hh : hF h i = true) : g (rnd c h) i = g c i := by
  unfold rnd
  rw [g_tb' hi]
  unfold rndV
  rw [if_pos hh, cAt_g hi]
/-- What is kept: the steps, the range, the held lifts. -/
structure KpC (c : List Int) (h : List Bool) (lo hi : Int) (d : List Int) : Prop where
  len : d.length = c.length
  el : ∀ v ∈ d, lo ≤ v ∧ v ≤ hi
  held : ∀ i, i < c.length → hF h i = true → g d i = g c i
theorem KpC.at {c d : List Int} {h : List Bool} {lo hi : Int} (K : KpC c h lo hi d) (h0 : 0 < c.length) (x : Int) : lo ≤ cAt d x ∧ cAt d x ≤ hi := K.el _ (cAt_mem (by rw [K.len]; exact h0) x)
theorem KpC.rnd {c d : List Int} {h : List Bool} {lo hi : Int} (K : KpC c h lo hi d) (h0 : 0 < c.length) : KpC c h lo hi (rnd d h) :=
  ⟨by rw [rnd_len]; exact K.len, rnd_el (K.at h0), fun i hi hh => by rw [rnd_held (by rw [K.len]; exact hi) hh]; exact K.held i hi hh⟩
/-- Rounds until nothing changes, f more at most. -/
def smR (h : List Bool) : Nat → List Int → Nat → List Int × Nat
  | 0, c, n => (c, n)
  | f + 1, c, n => if rnd c h = c then (c, n) else smR h f (rnd c h) (n + 1)
theorem smR_kp {c : List Int} {h : List Bool} {lo hi : Int} (h0 : 0 < c.length) : ∀ (f : Nat) (d : List Int) (n : Nat), KpC c h lo hi d → KpC c h lo hi (smR h f d n).1 ∧ (smR h f d n).2 ≤ n + f
  | 0, d, n, K => ⟨K, Nat.le_refl _⟩
  | f + 1, d, n, K => by
    unfold smR
    split
    · exact ⟨K, by show n ≤ _; omega⟩
    · have := smR_kp h0 f (Go.Cams.rnd d h) (n + 1) (K.rnd h0)
      exact ⟨this.1, by omega⟩
def dwB (c : List Int) (i : Nat) : Bool := decide (cAt c ((i : Nat) + 1) = cAt c (i : Nat)) || decide (cAt c (i : Nat) = cAt c ((i : Nat) - 1))
def dwL (c : List Int) : List Bool := tb c.length (dwB c)
theorem dwL_len (c : List Int) : (dwL c).length = c.length := tb_len _ _
theorem hF_tb {n i : Nat} {G : Nat → Bool} (hi : i < n) : hF (tb n G) i = G i := by
  unfold hF
  rw [tb_len, Nat.mod_eq_of_lt hi, List.getD_eq_getElem?_getD, tb_get hi]
  rfl
/-! ### Fillings -/
theorem feV_bd {c : List Int} {lo hi : Int} (hb : ∀ x, lo ≤ cAt c x ∧ cAt c x ≤ hi) (h0 : 0 ≤ lo) (h1 : hi ≤ 10000) {f m k : Int} (k0 : 0 ≤ k) (k1 : k ≤ m + 1) (m0 : 0 ≤ m) : lo ≤ feV c f m k ∧ feV c f m k ≤ hi := by
  unfold feV
  have ha := hb (f - 1)
  have hbb := hb (f + m)
  generalize cAt c (f - 1) = a at *
  generalize cAt c (f + m) = b at *
  have p1 := Int.mul_nonneg (show 0 ≤ a - lo by omega) (show 0 ≤ m + 1 - k by omega)
  have p2 := Int.mul_nonneg (show 0 ≤ b - lo by omega) k0
  have p3 := Int.mul_nonneg (show 0 ≤ hi - a by omega) (show 0 ≤ m + 1 - k by omega)
  have p4 := Int.mul_nonneg (show 0 ≤ hi - b by omega) k0
  have e1 : a * (m + 1) + (b - a) * k - lo * (m + 1) = (a - lo) * (m + 1 - k) + (b - lo) * k := by grind
  have e2 : hi * (m + 1) - (a * (m + 1) + (b - a) * k) = (hi - a) * (m + 1 - k) + (hi - b) * k := by grind
  have hn := nr_in (x := a * (m + 1) + (b - a) * k) (d := m + 1) (lo := lo) (hi := hi) (by omega) (by omega) (by omega)
  rw [wr16_id (by omega) (by omega)]
  exact hn
theorem g_set_ne {l : List Int} {i j : Nat} {v : Int} (h : j ≠ i) : g (l.set j v) i = g l i := by
  unfold g
  rw [List.getD_eq_getElem?_getD, List.getD_eq_getElem?_getD, List.getElem?_set_ne h]
theorem feS_kp {c o : List Int} {h : List Bool} {lo hi : Int} (hb : ∀ x, lo ≤ cAt c x ∧ cAt c x ≤ hi) (h0 : 0 ≤ lo) (h1 : hi ≤ 10000) (hl : h.length = c.length) (hc : 0 < c.length) {f m : Nat} (hf : ∀ k, k < m → hF h (f + k) = false) (K : KpC c h lo hi o) : ∀ k, k ≤ m → KpC c h lo hi (feS c f m o k)
  | 0, _ => K
  | k + 1, hk => by
    have ih := feS_kp hb h0 h1 hl hc hf K k (by omega)
    refine ⟨by rw [feS_len]; exact K.len, fun v hv => ?_, fun i hi hh => ?_⟩
    · rcases List.mem_or_eq_of_mem_set hv with hv | hv
      · exact ih.el v hv
      · rw [hv]
        exact feV_bd hb h0 h1 (by omega) (by omega) (by omega)
    · show g ((feS c f m o k).set _ _) i = _
      rw [g_set_ne, ih.held i hi hh]
      intro e
      have e2 : (((f : Int) + ((k : Nat) : Int)) % c.length).toNat = (f + k) % h.length := by rw [hl, ← Int.natCast_add, ← Int.natCast_emod, Int.toNat_natCast]
      rw [e2] at e
      have := hf k (by omega)
      rw [← hF_mod, e, hh] at this
      cases this
theorem feA_kp {c : List Int} {h : List Bool} {lo hi : Int} (hb : ∀ x, lo ≤ cAt c x ∧ cAt c x ≤ hi) (h0 : 0 ≤ lo) (h1 : hi ≤ 10000) (hl : h.length = c.length) (hc : 0 < c.length) (K : KpC c h lo hi c) : KpC c h lo hi (feA c (frA h)) := by
  have key : ∀ (L : List (List Int)) (o : List Int), (∀ p ∈ L, p ∈ frA h) → KpC c h lo hi o → KpC c h lo hi (L.foldl (feP c) o) := by
    intro L
    induction L with
    | nil => intro o _ K; exact K
    | cons p L ih =>
      intro o hL K
      refine ih _ (fun q hq => hL q (List.mem_cons_of_mem _ hq)) ?_
      obtain ⟨f, m, rfl, _, _, _, hf⟩ := frA_mem (by omega) (hL p (by simp))
      exact feS_kp hb h0 h1 hl hc hf K m (Nat.le_refl _)
  exact key (frA h) c (fun _ hp => hp) K
/-! ### Free steps, counted -/
def cntF (h : List Bool) : Nat → Nat
  | 0 => 0
  | k + 1 => cntF h k + if hF h k = true then 0 else 1
theorem cntF_run {h : List Bool} {s : Nat} : ∀ k, (∀ j, j < k → hF h (s + j) = false) → cntF h (s + k) = cntF h s + k
  | 0, _ => rfl
  | k + 1, hf => by
    show cntF h (s + k) + (if hF h (s + k) = true then 0 else 1) = _
    rw [cntF_run k fun j hj => hf j (by omega), hf k (by omega), if_neg (by simp)]
    omega
theorem cntF_le (h : List Bool) : ∀ k, cntF h k ≤ k
  | 0 => Nat.le_refl _
  | k + 1 => by
    have := cntF_le h k
    show cntF h k + _ ≤ _
    split <;> omega
def sumP (L : List (List Int)) : Int := L.foldl (fun s p => s + g p 1) 0
theorem sumP_snoc (L : List (List Int)) (p : List Int) : sumP (L ++ [p]) = sumP L + g p 1 := by simp [sumP]
theorem back_run (h : List Bool) : ∀ e, ∃ m, m ≤ e ∧ (∀ j, j < m → hF h (e - m + j) = false) ∧ (e - m = 0 ∨ hF h (e - m - 1) = true)
  | 0 => ⟨0, by omega, fun j hj => absurd hj (by omega), .inl rfl⟩
  | e + 1 => by
    by_cases hh : hF h e = true
    · exact ⟨0, by omega, fun j hj => absurd hj (by omega), .inr hh⟩
    · obtain ⟨m, hm, hf, hs⟩ := back_run h e
      refine ⟨m + 1, by omega, fun j hj => ?_, ?_⟩
      · rw [show e + 1 - (m + 1) = e - m by omega]
        by_cases e2 : j = m
        · rw [e2, show e - m + m = e by omega]; simpa using hh
        · exact hf j (by omega)
      · rw [show e + 1 - (m + 1) = e - m by omega]; exact hs
theorem sum_run {h : List Bool} (h0 : 0 < h.length) (hh0 : hF h 0 = true) : ∀ (k : Nat), k ≤ h.length + 1 → (k = 0 ∨ hF h (k - 1) = true) → sumP (frI h 0 k) = (cntF h k : Nat)
  | k, hk, hb => by
    rcases hb with e | hb
    · subst e; rfl
    by_cases hk0 : k = 0
    · subst hk0; rfl
    obtain ⟨m, hm, hf, hs⟩ := back_run h (k - 1)
    have ih := sum_run h0 hh0 (k - 1 - m) (by omega) hs
    have hend : hF h (k - 1 - m + m) = true := by rw [show k - 1 - m + m = k - 1 by omega]; exact hb
    have hz : m = 0 ∨ (1 ≤ k - 1 - m ∧ hF h (k - 1 - m - 1) = true) := by
      by_cases e : m = 0
      · exact .inl e
      · rcases hs with hs | hs
        · have := hf 0 (by omega)
          rw [hs, Nat.add_zero, hh0] at this
          cases this
        · refine .inr ⟨?_, hs⟩
          apply Classical.byContradiction
          intro hc
          have := hf 0 (by omega)
          rw [show k - 1 - m + 0 = 0 by omega, hh0] at this
          cases this
    have hrun := frI_run (h := h) (s := k - 1 - m) (k := m) (by rcases hz with e | e; exact .inr e; exact .inl e.1) (by rcases hz with e | e; exact .inl e; exact .inr e.2) hf hend
    have happ := frI_app h 0 (k - 1 - m) (m + 1)
    rw [show k - 1 - m + (m + 1) = k by omega, Nat.zero_add, hrun] at happ
    have hc1 : cntF h k = cntF h (k - 1) := by
      rw [show k = (k - 1) + 1 by omega]
      show cntF h (k - 1) + _ = cntF h (k - 1 + 1 - 1)
      rw [hb, if_pos rfl]
      rfl
    have hc2 := cntF_run (s := k - 1 - m) m hf
    rw [show k - 1 - m + m = k - 1 by omega] at hc2
    rw [happ, hc1, hc2]
    by_cases e : 0 < m
    · rw [if_pos e, sumP_snoc, ih]
      have hl : g (prF h (k - 1 - m)) 1 = (m : Int) := by
        show ((frl h (k - 1 - m) h.length : Nat) : Int) = m
        rw [frl_eq hf hend (by omega)]
      rw [hl]
      omega
    · rw [if_neg e, List.append_nil, ih, show m = 0 by omega]
      rfl
  termination_by k => k
theorem sum_free {h : List Bool} (h0 : 0 < h.length) (hh0 : hF h 0 = true) : sumP (frI h 0 h.length) = (cntF h h.length : Nat) := by
  have hn : hF h h.length = true := by have := hF_per h 0; rw [Nat.zero_add] at this; rw [this]; exact hh0
  have h1 := sum_run h0 hh0 (h.length + 1) (Nat.le_refl _) (.inr hn)
  have hb : begF h h.length = false := by unfold begF; rw [hn]; rfl
  have e := frI_app h 0 h.length 1
  rw [frI_one, Nat.zero_add, hb, if_neg (by simp), List.append_nil] at e
  rw [e] at h1
  rw [h1]
  show ((cntF h h.length + _ : Nat) : Int) = _
  rw [hn, if_pos rfl]
  rfl
/-! ### Sums -/
def sqF (l : List Int) : Int := l.foldl (fun s v => wr .i64 (s + wr .i64 (v * v))) 0
theorem sqF_snoc (l : List Int) (v : Int) : sqF (l ++ [v]) = wr .i64 (sqF l + wr .i64 (v * v)) := by simp [sqF]
def cOv (b : Int) (l : List Int) : Nat := (l.filter fun v => decide (siz v > b)).length
theorem cOv_yes {b : Int} (l : List Int) {v : Int} (h : siz v > b) : cOv b (l ++ [v]) = cOv b l + 1 := by simp [cOv, h]
theorem cOv_no {b : Int} (l : List Int) {v : Int} (h : ¬ siz v > b) : cOv b (l ++ [v]) = cOv b l := by
  unfold cOv
  rw [List.filter_append, List.length_append, List.filter_cons_of_neg (by simpa using h)]
  rfl
theorem cOv_le (b : Int) (l : List Int) : cOv b l ≤ l.length := List.length_filter_le _ _
theorem tb_own (c : List Int) : tb c.length (g c) = c := by
  apply List.ext_getElem?
  intro i
  by_cases hi : i < c.length
  · rw [tb_get hi, List.getElem?_eq_getElem hi]
    unfold g
    rw [List.getD_eq_getElem?_getD, List.getElem?_eq_getElem hi]
    rfl
  · rw [List.getElem?_eq_none (by rw [tb_len]; omega), List.getElem?_eq_none (by omega)]
/-- Rounds, the first i steps of them. -/
def rndM (c : List Int) (h : List Bool) (i : Nat) : List Int := tb c.length fun j => if j < i then rndV c h j else g c j
theorem rndM_zero (c : List Int) (h : List Bool) : rndM c h 0 = c := by
  have : rndM c h 0 = tb c.length (g c) := tb_ext fun j _ => if_neg (by omega)
  rw [this, tb_own]
theorem rndM_all (c : List Int) (h : List Bool) : rndM c h c.length = rnd c h := tb_ext fun j hj => if_pos hj
theorem rndM_len (c : List Int) (h : List Bool) (i : Nat) : (rndM c h i).length = c.length := tb_len _ _
theorem rndM_set {c : List Int} {h : List Bool} {i : Nat} (_ : i < c.length) : (rndM c h i).set i (rndV c h i) = rndM c h (i + 1) := by
  unfold rndM
  rw [tb_set]
  refine tb_ext fun j _ => ?_
  by_cases e : j = i
  · subst e; simp
  · by_cases hlt : j < i
    · simp [e, hlt, show j < i + 1 by omega]
    · simp [e, hlt, show ¬ j < i + 1 by omega]
theorem rndM_held {c : List Int} {h : List Bool} {i : Nat} (hi : i < c.length) (hh : hF h i = true) : rndM c h (i + 1) = rndM c h i := by
  unfold rndM
  refine tb_ext fun j _ => ?_
  by_cases e : j = i
  · subst e
    rw [if_pos (by omega), if_neg (by omega)]
    unfold rndV
    rw [if_pos hh, cAt_g hi]
  · by_cases hlt : j < i
    · rw [if_pos hlt, if_pos (by omega)]
    · rw [if_neg hlt, if_neg (by omega)]
theorem sumP_bd {B : Int} : ∀ (L : List (List Int)), (∀ p ∈ L, 0 ≤ g p 1 ∧ g p 1 ≤ B) → 0 ≤ sumP L ∧ sumP L ≤ B * L.length := by
  have key : ∀ (L : List (List Int)) (s : Int), (∀ p ∈ L, 0 ≤ g p 1 ∧ g p 1 ≤ B) → s ≤ L.foldl (fun s p => s + g p 1) s ∧ L.foldl (fun s p => s + g p 1) s ≤ s + B * L.length := by
    intro L
    induction L with
    | nil => intro s _; simp
    | cons p L ih =>
      intro s h
      have h1 := h p (by simp)
      have h2 := ih (s + g p 1) fun q hq => h q (List.mem_cons_of_mem _ hq)
      have e : B * ((p :: L).length : Int) = B * (L.length : Int) + B := by rw [List.length_cons, Int.natCast_add, Int.mul_add]; simp
      show s ≤ L.foldl _ (s + g p 1) ∧ L.foldl _ (s + g p 1) ≤ _
      rw [e]
      omega
  intro L h
  have := key L 0 h
  unfold sumP
  omega
end Go.Cams

