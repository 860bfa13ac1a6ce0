/- What the functions compute, in plain terms: definitions and laws of lists and numbers, no program in sight. -/
import Derived.Test.YtipjblnjaicbfaaGreatDoorFwC
import Derived.Lib.TrailingZeros
import Derived.Lib.ItoaLen
import Derived.Lib.ItoaMem
import Derived.Lib.Join
import Derived.Lib.ParseIntB
import Derived.Lib.Split
import Derived.Lib.SplitLaws
import Derived.Lib.ItoaNum
import Derived.Lib.Bytealg
import Derived.Lib.IndexMore
import Derived.Laws.Strings
/- What the functions of cams and shafts compute, in plain terms. -/
namespace Go.Cams
open Go Go.Fw
abbrev Sft : Type := Int × (Int × (Int × ((List Int) × Unit)))

def inR (a b c : Int) : Bool := decide (b ≤ a ∧ a ≤ c)
def okV (v : Int) : Bool := inR (wr .i64 v) 0 10000
def okC (l : List Int) : Bool := inR (l.length : Int) 8 360 && l.all okV

/-! ### Validity -/
def fi {α : Type} (p : α → Bool) : List α → Int → Int
  | [], _ => -1
  | v :: r, i => if p v = true then i else fi p r (i + 1)
theorem fi_any {α : Type} (p : α → Bool) : ∀ (l : List α) (i : Int), 0 ≤ i → decide (fi p l i ≥ 0) = l.any p
  | [], i, _ => by simp [fi]
  | v :: r, i, h => by
    unfold fi
    by_cases hp : p v = true
    · simp [hp, h]
    · have hp' : p v = false := by simpa using hp
      simp [hp', fi_any p r (i + 1) (by omega)]

/-- A shaft that is valid. -/
def okS (s : Sft) : Bool := inR (wr .i64 s.1) 1 60 && inR (wr .i64 s.2.1) 1 60 && okC s.2.2.2.1 && inR (wr .i64 s.2.2.1) 0 (wr .i64 ((s.2.2.2.1.length : Int) - 1))
/-- What is known of a list of shafts. -/
def Small (l : List Sft) : Prop := (l.length : Int) ≤ 140737488351232 ∧ ∀ s ∈ l, (s.2.2.2.1.length : Int) ≤ 140737488351232
theorem Small.get {l : List Sft} (h : Small l) {i : Nat} {s : Sft} (hs : l[i]? = some s) : (s.2.2.2.1.length : Int) ≤ 140737488351232 := h.2 s (List.mem_of_getElem? hs)

/-! ### The greatest common divisor -/
/-! ### Periods -/
def gg (a b : Int) : Int := ((Nat.gcd a.toNat b.toNat : Nat) : Int)
theorem bne_pos {a : Int} (h : 0 < a) : (a != 0) = true := by simp; omega
theorem inR_iff {a b c : Int} : inR a b c = true ↔ b ≤ a ∧ a ≤ c := by simp [inR]
structure Good (s : Sft) : Prop where
  num : 1 ≤ wr .i64 s.1 ∧ wr .i64 s.1 ≤ 60
  den : 1 ≤ wr .i64 s.2.1 ∧ wr .i64 s.2.1 ≤ 60
  len : 8 ≤ (s.2.2.2.1.length : Int) ∧ (s.2.2.2.1.length : Int) ≤ 360
  cam : ∀ v ∈ s.2.2.2.1, 0 ≤ wr .i64 v ∧ wr .i64 v ≤ 10000
  ph : 0 ≤ wr .i64 s.2.2.1 ∧ wr .i64 s.2.2.1 ≤ 360
def dl (s : Sft) : Int := wr .i64 (wr .i64 s.2.1 * (s.2.2.2.1.length : Int))
def own (s : Sft) : Int := wr .i64 (Int.tdiv (dl s) (gg (dl s) (wr .i64 s.1)))
/-! ### Codes -/
/-! ### Lifts -/
/-! ### Copies -/
/-! ### Equal to itself -/
/-! ### Sizes -/
def sz1 (l : List Int) (a : Int) : Int := if wr .i64 (a - (l.length : Int)) < 0 then -1 else wr .i64 (a - (l.length : Int))
def sz (s : Sft) (a : Int) : Int := if sz1 s.2.2.2.1 a < 0 then -1 else sz1 s.2.2.2.1 a
/-! ### All lifts -/
/-! ### The search -/
end Go.Cams


/- Clashes of two shafts, in plain terms. -/
namespace Go.Cams
open Go Go.Fw
end Go.Cams


/- Marks on memory, and what holds them. -/
namespace Go.Cams
open Go Go.Fw
/-! ### Sizes -/
end Go.Cams
namespace Go.Cams
open Go Go.Fw
/-! ### Phases -/
end Go.Cams
namespace Go.Cams
open Go Go.Fw
end Go.Cams


/- Best phases and sums of lifts, in plain terms. -/
namespace Go.Cams
open Go Go.Fw
theorem wrap16 {x : Int} (h1 : -32768 ≤ x) (h2 : x ≤ 32767) : wr .i16 x = x := by
  show IntKind.i16.wrap x = x
  simp [IntKind.wrap, IntKind.bits, IntKind.signed]
  omega
end Go.Cams


/- Machines, turns, and greatest numbers, in plain terms. -/
namespace Go.Cams
open Go Go.Fw
abbrev Mch : Type := List Int × (List Int × (List Int × Unit))
/-- What is known of a list of int16. -/
structure Rng (l : List Int) : Prop where
  len : (l.length : Int) * 2 ≤ 140737488351232
  el : ∀ v ∈ l, -32768 ≤ v ∧ v ≤ 32767
theorem Rng.len' {l : List Int} (h : Rng l) : (l.length : Int) ≤ 70368744175616 := by have := h.len; omega
theorem Rng.id {l : List Int} (h : Rng l) {v : Int} (hv : v ∈ l) : wr .i64 v = v := by have := h.el v hv; exact wrap_id (by omega) (by omega)
theorem rng_of {l : List Int} (h : Dom (.slc (.int .i16)) l) : Rng l :=
  ⟨Int.ofNat_le.2 h.1, fun v hv => by
    have := h.2 v hv
    have e1 : IntKind.i16.min = -32768 := rfl
    have e2 : IntKind.i16.max = 32767 := rfl
    simp only [Dom] at this
    rw [e1, e2] at this
    exact this⟩
structure RngM (m : Mch) : Prop where
  x : Rng m.1
  y : Rng m.2.1
  p : Rng m.2.2.1
def mxF (l : List Int) (a : Int) : Int := l.foldl (fun m v => max m v) a
def mxL (l : List Int) : Int := mxF l (l.headD 0)
theorem mxF_le : ∀ (l : List Int) (a b : Int), a ≤ b → (∀ v ∈ l, v ≤ b) → mxF l a ≤ b
  | [], a, b, h, _ => h
  | v :: r, a, b, h, hl => mxF_le r (max a v) b (by have := hl v (by simp); omega) (fun x hx => hl x (by simp [hx]))
theorem mxF_ge : ∀ (l : List Int) (a : Int), a ≤ mxF l a ∧ ∀ v ∈ l, v ≤ mxF l a
  | [], a => ⟨Int.le_refl _, fun _ h => by cases h⟩
  | v :: r, a => by
    have h := mxF_ge r (max a v)
    show a ≤ mxF r (max a v) ∧ ∀ x ∈ v :: r, x ≤ mxF r (max a v)
    refine ⟨by have := h.1; omega, fun x hx => ?_⟩
    rcases List.mem_cons.1 hx with rfl | hx
    · have := h.1; omega
    · exact h.2 x hx
def mv (c : List Int) : Bool := okC c && decide (mxL c < 64)
def okM (m : Mch) : Bool := mv m.1 && mv m.2.1 && okC m.2.2.1 && ((m.1.length : Int) == (m.2.1.length : Int)) && ((m.1.length : Int) == (m.2.2.1.length : Int))
theorem okC_len {l : List Int} (h : okC l = true) : 8 ≤ (l.length : Int) ∧ (l.length : Int) ≤ 360 := by
  simp only [okC, Bool.and_eq_true, inR_iff] at h; exact h.1
theorem okC_el {l : List Int} (h : okC l = true) (hr : Rng l) : ∀ v ∈ l, 0 ≤ v ∧ v ≤ 10000 := by
  simp only [okC, Bool.and_eq_true, inR_iff, List.all_eq_true, okV] at h
  intro v hv
  have := h.2 v hv
  rw [hr.id hv] at this
  exact this
structure GoodM (m : Mch) : Prop where
  x : okC m.1 = true
  y : okC m.2.1 = true
  p : okC m.2.2.1 = true
  mx : mxL m.1 < 64
  my : mxL m.2.1 < 64
  xy : m.1.length = m.2.1.length
  xp : m.1.length = m.2.2.1.length
theorem goodM {m : Mch} (h : okM m = true) : GoodM m := by
  simp only [okM, mv, Bool.and_eq_true, decide_eq_true_eq, beq_iff_eq] at h
  obtain ⟨⟨⟨⟨⟨h1, h2⟩, h3, h4⟩, h5⟩, h6⟩, h7⟩ := h
  exact ⟨h1, h3, h5, h2, h4, by omega, by omega⟩

/-! ### Turns -/
/-- The place of a step of a turned cam. -/
theorem turn_at {x n : Int} (hn : 0 < n) (h1 : n ≤ 1000000) (hx : -4000000 ≤ x) (hx' : x ≤ 4000000) : Int.tmod (wr .i64 (Int.tmod x n + n)) n = x % n := by
  have h2 := Int.tmod_lt_of_pos x hn
  have h3 : -n < Int.tmod x n := by
    rcases Int.le_total 0 x with h | h
    · have := Int.tmod_nonneg n h; omega
    · have := Int.tmod_lt_of_pos (-x) hn
      rw [Int.neg_tmod] at this
      omega
  rw [wrap_id (by omega) (by omega), Int.tmod_eq_emod_of_nonneg (by omega), Int.add_emod_right]
  rcases Int.le_total 0 x with h | h
  · rw [Int.tmod_eq_emod_of_nonneg h, Int.emod_emod]
  · rw [Int.tmod_def, Int.sub_mul_emod_self_left]
theorem floorDiv_eq {a b : Int} (hb : 0 < b) : (if Int.tmod a b < 0 then Int.tdiv a b - 1 else Int.tdiv a b) = a / b := by
  have h1 := Int.tmod_lt_of_pos a hb
  have h2 := Int.tmod_def a b
  have h3 : -b < Int.tmod a b := by
    rcases Int.le_total 0 a with h | h
    · have := Int.tmod_nonneg b h; omega
    · have := Int.tmod_lt_of_pos (-a) hb
      rw [Int.neg_tmod] at this
      omega
  split
  · have := (Int.ediv_emod_unique (a := a) (b := b) (r := Int.tmod a b + b) (q := Int.tdiv a b - 1) hb).2 ⟨by rw [Int.mul_sub, Int.mul_one]; omega, by omega, by omega⟩
    exact this.1.symm
  · have := (Int.ediv_emod_unique (a := a) (b := b) (r := Int.tmod a b) (q := Int.tdiv a b) hb).2 ⟨by omega, by omega, by omega⟩
    exact this.1.symm
theorem ediv_bd {a b M : Int} (hb : 0 < b) (h1 : -M ≤ a) (h2 : a ≤ M) (h0 : 0 ≤ M) : -M ≤ a / b ∧ a / b ≤ M := by
  constructor
  · rw [Int.le_ediv_iff_mul_le hb]
    have : M * 1 ≤ M * b := Int.mul_le_mul_of_nonneg_left (by omega) h0
    rw [Int.neg_mul]
    omega
  · have := Int.ediv_le_ediv hb h2
    have := Int.ediv_le_self (a := M) b h0
    omega
end Go.Cams
namespace Go.Cams
open Go Go.Fw
end Go.Cams


/- Two machines in one, in plain terms. -/
namespace Go.Cams
open Go Go.Fw
end Go.Cams


/- Events, in plain terms. -/
namespace Go.Cams
open Go Go.Fw
/-! ### Marks on events -/
end Go.Cams
namespace Go.Cams
open Go Go.Fw
end Go.Cams


/- Cutters, tips, and what a cutter leaves, in plain terms. -/
namespace Go.Cams
open Go Go.Fw
/-- An element, 0 where there is none. -/
def g (l : List Int) (i : Nat) : Int := l.getD i 0
theorem g_at {l : List Int} {i v : Int} (h : At l i v) : g l i.toNat = v := by
  have := h.get
  unfold g
  rw [List.getD_eq_getElem?_getD, this]; rfl
theorem g_idx {l : List Int} {i : Int} (h0 : 0 ≤ i) (h1 : i < l.length) : At l i (g l i.toNat) := by
  obtain ⟨v, hv⟩ := at_of (l := l) h0 h1
  rw [g_at hv]; exact hv
theorem g_mem {l : List Int} {i : Nat} (h : i < l.length) : g l i ∈ l := by
  have := g_idx (l := l) (i := i) (by omega) (by omega)
  simpa using this.mem
def cAt (l : List Int) (x : Int) : Int := g l (x % l.length).toNat

/-! ### Validity -/
def kOne (k : List Int) (i : Nat) : Bool := inR (wr .i64 (g k i)) 0 10000 && (g k (k.length - 1 - i) == g k i) && (decide (i = 0) || !decide (g k (i - 1) < g k i))
def allTo (p : Nat → Bool) (n : Nat) : Bool := (List.range n).all p
def okK (k : List Int) : Bool := inR (k.length : Int) 1 31 && decide (k.length % 2 = 1) && (g k (k.length / 2) == 0) && allTo (kOne k) (k.length / 2 + 1)
/-! ### Tips -/
theorem cAt_mem {c : List Int} (h : 0 < c.length) (x : Int) : cAt c x ∈ c := by
  have h1 := Int.emod_nonneg x (show (c.length : Int) ≠ 0 by omega)
  have h2 := Int.emod_lt_of_pos x (show 0 < (c.length : Int) by omega)
  exact g_mem (by omega)
/-! ### Cuts -/
end Go.Cams
namespace Go.Cams
open Go Go.Fw
theorem rng_bd {l : List Int} (hl : (l.length : Int) ≤ 1000000) (h : ∀ v ∈ l, 0 ≤ v ∧ v ≤ 10000) : Rng l := ⟨by omega, fun v hv => by have := h v hv; omega⟩
end Go.Cams


/- Waste, and the best cutter, in plain terms. -/
namespace Go.Cams
open Go Go.Fw
structure RngS (K : List (List Int)) : Prop where
  len : (K.length : Int) * 24 ≤ 140737488351232
  el : ∀ k ∈ K, Rng k
theorem RngS.len' {K : List (List Int)} (h : RngS K) : (K.length : Int) ≤ 5864062014635 := by have := h.len; omega
def okKs (K : List (List Int)) : Bool := K.all okK
/-! ### What is left is not less -/
theorem getD_at {α : Type} {l : List α} {i : Int} {v d : α} (h : At l i v) : l.getD i.toNat d = v := by rw [List.getD_eq_getElem?_getD, h.get]; rfl
end Go.Cams


/- Cuts, in plain terms. -/
namespace Go.Cams
open Go Go.Fw
abbrev Ct : Type := Int × (Int × (Int × Unit))
structure RngC (L : List Ct) : Prop where
  len : (L.length : Int) * 6 ≤ 140737488351232
  el : ∀ v ∈ L, (-32768 ≤ v.1 ∧ v.1 ≤ 32767) ∧ (-32768 ≤ v.2.1 ∧ v.2.1 ≤ 32767) ∧ (-128 ≤ v.2.2.1 ∧ v.2.2.1 ≤ 127)
theorem RngC.len' {L : List Ct} (h : RngC L) : (L.length : Int) ≤ 23456248058538 := by have := h.len; omega
theorem RngC.i1 {L : List Ct} (h : RngC L) {v : Ct} (hv : v ∈ L) : wr .i64 v.1 = v.1 := by have := (h.el v hv).1; exact wrap_id (by omega) (by omega)
theorem RngC.i2 {L : List Ct} (h : RngC L) {v : Ct} (hv : v ∈ L) : wr .i64 v.2.1 = v.2.1 := by have := (h.el v hv).2.1; exact wrap_id (by omega) (by omega)
theorem RngC.i3 {L : List Ct} (h : RngC L) {v : Ct} (hv : v ∈ L) : wr .i64 v.2.2.1 = v.2.2.1 := by have := (h.el v hv).2.2; exact wrap_id (by omega) (by omega)
def ctOk (m : Int) (v : Ct) : Bool := inR (wr .i64 v.1) 0 359 && inR (wr .i64 v.2.1) 0 10000 && inR (wr .i64 v.2.2.1) 0 (wr .i64 (m - 1))
def okCt (L : List Ct) (m : Int) : Bool := decide ((L.length : Int) ≤ 400) && L.all (ctOk m)
def onCt (L : List Ct) (n : Int) : Bool := L.all fun v => !decide (wr .i64 v.1 ≥ n)
def okCuts (L : List Ct) (K : List (List Int)) : Bool := inR (K.length : Int) 1 8 && okKs K && okCt L K.length
def gvCode (c : List Int) (K : List (List Int)) (L : List Ct) : Int := if okC c = true then (if okCuts L K = true then (if onCt L c.length = true then 0 else 2) else 1) else 1
end Go.Cams


/- Machines that draw, in plain terms. -/
namespace Go.Cams
open Go Go.Fw
abbrev Mk : Type := List Int
abbrev Stp : Type := List Int × (Bool × Unit)
/-- A mark on the plate. -/
structure OnP (a : Mk) : Prop where
  len : a.length = 2
  x : 0 ≤ g a 0 ∧ g a 0 ≤ 63
  y : 0 ≤ g a 1 ∧ g a 1 ≤ 63
theorem OnP.eq {a : Mk} (h : OnP a) : a = [g a 0, g a 1] := by
  have hl := h.len
  match a, hl with
  | [x, y], _ => rfl
theorem onP_pair {x y : Int} (hx : 0 ≤ x ∧ x ≤ 63) (hy : 0 ≤ y ∧ y ≤ 63) : OnP [x, y] := ⟨rfl, hx, hy⟩
def siz (x : Int) : Int := if x < 0 then -x else x
def far (a b : Mk) : Int := max (siz (g a 0 - g b 0)) (siz (g a 1 - g b 1))
/-- The nearest whole number of a fraction. -/
def nr (x n : Int) : Int := (2 * x + n) / (2 * n)
def pt (a b : Mk) (k : Int) (i : Nat) : Int := g a i + nr (k * (g b i - g a i)) (far a b)
def ptM (a b : Mk) (k : Int) : Mk := [pt a b k 0, pt a b k 1]
def lineM (a b : Mk) : List Mk := if far a b = 0 then [a] else (List.range (far a b + 1).toNat).map fun k => ptM a b (k : Nat)
theorem far_bd {a b : Mk} (ha : OnP a) (hb : OnP b) : 0 ≤ far a b ∧ far a b ≤ 63 ∧ (∀ i : Nat, i = 0 ∨ i = 1 → -far a b ≤ g b i - g a i ∧ g b i - g a i ≤ far a b) := by
  have h1 := ha.x; have h2 := ha.y; have h3 := hb.x; have h4 := hb.y
  have e : far a b = max (siz (g a 0 - g b 0)) (siz (g a 1 - g b 1)) := rfl
  have e1 : siz (g a 0 - g b 0) = if g a 0 - g b 0 < 0 then -(g a 0 - g b 0) else g a 0 - g b 0 := rfl
  have e2 : siz (g a 1 - g b 1) = if g a 1 - g b 1 < 0 then -(g a 1 - g b 1) else g a 1 - g b 1 := rfl
  refine ⟨?_, ?_, fun i hi => ?_⟩
  · split at e1 <;> omega
  · split at e1 <;> split at e2 <;> omega
  · rcases hi with rfl | rfl
    · split at e1 <;> omega
    · split at e2 <;> omega
theorem nr_bd {k d n : Int} (hn : 0 < n) (k0 : 0 ≤ k) (k1 : k ≤ n) (h1 : -n ≤ d) (h2 : d ≤ n) : (0 ≤ d → 0 ≤ nr (k * d) n ∧ nr (k * d) n ≤ d) ∧ (d ≤ 0 → d ≤ nr (k * d) n ∧ nr (k * d) n ≤ 0) := by
  have hnn : (2 * (n * d) + n) / (2 * n) = d := by
    rw [show 2 * (n * d) + n = n + (2 * n) * d by rw [Int.mul_assoc]; omega, Int.add_mul_ediv_left _ _ (by omega)]
    rw [Int.ediv_eq_zero_of_lt (by omega) (by omega)]; omega
  have h00 : (2 * 0 + n) / (2 * n) = 0 := Int.ediv_eq_zero_of_lt (by omega) (by omega)
  unfold nr
  constructor
  · intro hd
    have a : 0 ≤ k * d := Int.mul_nonneg k0 hd
    have b : k * d ≤ n * d := Int.mul_le_mul_of_nonneg_right k1 hd
    have c := Int.ediv_le_ediv (c := 2 * n) (by omega) (show 2 * 0 + n ≤ 2 * (k * d) + n by omega)
    have e := Int.ediv_le_ediv (c := 2 * n) (by omega) (show 2 * (k * d) + n ≤ 2 * (n * d) + n by omega)
    omega
  · intro hd
    have a : k * d ≤ 0 := Int.mul_nonpos_of_nonneg_of_nonpos k0 hd
    have b : n * d ≤ k * d := Int.mul_le_mul_of_nonpos_right k1 hd
    have c := Int.ediv_le_ediv (c := 2 * n) (by omega) (show 2 * (k * d) + n ≤ 2 * 0 + n by omega)
    have e := Int.ediv_le_ediv (c := 2 * n) (by omega) (show 2 * (n * d) + n ≤ 2 * (k * d) + n by omega)
    omega
theorem pt_bd {a b : Mk} (ha : OnP a) (hb : OnP b) (hn : far a b ≠ 0) {k : Int} (k0 : 0 ≤ k) (k1 : k ≤ far a b) {i : Nat} (hi : i = 0 ∨ i = 1) : 0 ≤ pt a b k i ∧ pt a b k i ≤ 63 := by
  obtain ⟨f0, f1, f2⟩ := far_bd ha hb
  have hx := ha.x; have hy := ha.y; have kx := hb.x; have ky := hb.y
  obtain ⟨b1, b2⟩ := nr_bd (show 0 < far a b by omega) k0 k1 (f2 i hi).1 (f2 i hi).2
  have hga : 0 ≤ g a i ∧ g a i ≤ 63 := by rcases hi with rfl | rfl <;> assumption
  have hgb : 0 ≤ g b i ∧ g b i ≤ 63 := by rcases hi with rfl | rfl <;> assumption
  unfold pt
  rcases Int.le_total 0 (g b i - g a i) with h | h
  · have := b1 h; omega
  · have := b2 h; omega
theorem nr_from {a x n : Int} (hn : 0 < n) : nr (a * n + x) n = a + nr x n := by
  unfold nr
  rw [show 2 * (a * n + x) + n = (2 * x + n) + (2 * n) * a by rw [Int.mul_add, Int.mul_comm a n, ← Int.mul_assoc]; omega, Int.add_mul_ediv_left _ _ (by omega)]
  omega
theorem nr_zero {n : Int} (hn : 0 < n) : nr 0 n = 0 := by
  unfold nr
  exact Int.ediv_eq_zero_of_lt (by omega) (by omega)
theorem ptM_zero {a b : Mk} (ha : OnP a) (hb : OnP b) (hn : far a b ≠ 0) : ptM a b 0 = a := by
  obtain ⟨f0, _, _⟩ := far_bd ha hb
  have h : ∀ i, pt a b 0 i = g a i := fun i => by
    unfold pt
    rw [Int.zero_mul, nr_zero (by omega)]; omega
  unfold ptM
  rw [h, h]
  exact ha.eq.symm
theorem lineM_on {a b : Mk} (ha : OnP a) (hb : OnP b) : ∀ m ∈ lineM a b, OnP m := by
  intro m hm
  unfold lineM at hm
  split at hm
  · simp at hm; subst hm; exact ha
  · rename_i hn
    simp only [List.mem_map, List.mem_range] at hm
    obtain ⟨k, hk, rfl⟩ := hm
    exact onP_pair (pt_bd ha hb hn (by omega) (by omega) (.inl rfl)) (pt_bd ha hb hn (by omega) (by omega) (.inr rfl))
theorem lineM_same {a : Mk} : lineM a a = [a] := by
  unfold lineM
  rw [if_pos]
  unfold far siz
  simp
/-- Ink on a plate. -/
def inkP (p : List Int) (m : Mk) : List Int := p.set (g m 1).toNat (bitsI .or .u64 (g p (g m 1).toNat) (shl_ .u64 1 (g m 0)))
def inkL (p : List Int) (l : List Mk) : List Int := l.foldl inkP p
/-- The stops of a machine. -/
def stopM (m : Mch) (i : Nat) : Stp := ([g m.1 i, g m.2.1 i], (g m.2.2.1 i == 0), ())
theorem mx_el {l : List Int} (h : mxL l < 64) : ∀ v ∈ l, v ≤ 63 := fun v hv => by
  have := (mxF_ge l (l.headD 0)).2 v hv
  unfold mxL at h; omega
theorem stop_on {m : Mch} (hr : RngM m) (G : GoodM m) {i : Nat} (h : i < m.1.length) : OnP (stopM m i).1 := by
  have h1 := okC_el G.x hr.x _ (g_mem h)
  have h2 := mx_el G.mx _ (g_mem h)
  have h3 := okC_el G.y hr.y _ (g_mem (i := i) (by have := G.xy; omega))
  have h4 := mx_el G.my _ (g_mem (i := i) (by have := G.xy; omega))
  exact onP_pair ⟨h1.1, h2⟩ ⟨h3.1, h4⟩
/-- What the first stops draw. -/
def drawTo (m : Mch) : Nat → List Int
  | 0 => List.replicate 64 0
  | i + 1 => if (stopM m i).2.1 = true then (if (stopM m ((i + 1) % m.1.length)).2.1 = true then inkL (inkP (drawTo m i) (stopM m i).1) (lineM (stopM m i).1 (stopM m ((i + 1) % m.1.length)).1) else inkP (drawTo m i) (stopM m i).1) else drawTo m i
end Go.Cams


/- Motions by laws, runs of a cam, and programs that are found, in plain terms. -/
namespace Go.Cams
open Go Go.Fw
theorem mulB {a b A B : Int} (a0 : 0 ≤ a) (a1 : a ≤ A) (b0 : 0 ≤ b) (b1 : b ≤ B) : 0 ≤ a * b ∧ a * b ≤ A * B := ⟨Int.mul_nonneg a0 b0, Int.mul_le_mul a1 b1 b0 (by omega)⟩
/-- How much of a change is done, as a fraction. -/
def shN (w k n : Int) : Int := if w = 1 then (if 2 * k ≤ n then 2 * k * k else n * n - 2 * (n - k) * (n - k)) else if w = 2 then 3 * k * k * n - 2 * k * k * k else if w = 3 then k * k * k * (10 * n * n - 15 * k * n + 6 * k * k) else k
def shD (w n : Int) : Int := if w = 1 then n * n else if w = 2 then n * n * n else if w = 3 then n * n * n * n * n else n
def liftP (f t w k n : Int) : Int := nr (f * shD w n + (t - f) * shN w k n) (shD w n)
theorem shD_bd {w n : Int} (n0 : 1 ≤ n) (n1 : n ≤ 360) : 1 ≤ shD w n ∧ shD w n ≤ 6046617600000 := by
  have p2 : 1 ≤ n * n := Int.mul_le_mul n0 n0 (by omega) (by omega)
  have q2 := (mulB (show 0 ≤ n by omega) n1 (show 0 ≤ n by omega) n1).2
  have p3 : 1 ≤ n * n * n := Int.mul_le_mul p2 n0 (by omega) (by omega)
  have q3 := (mulB (show 0 ≤ n * n by omega) q2 (show 0 ≤ n by omega) n1).2
  have p4 : 1 ≤ n * n * n * n := Int.mul_le_mul p3 n0 (by omega) (by omega)
  have q4 := (mulB (show 0 ≤ n * n * n by omega) q3 (show 0 ≤ n by omega) n1).2
  have p5 : 1 ≤ n * n * n * n * n := Int.mul_le_mul p4 n0 (by omega) (by omega)
  have q5 := (mulB (show 0 ≤ n * n * n * n by omega) q4 (show 0 ≤ n by omega) n1).2
  unfold shD
  split
  · omega
  split
  · omega
  split <;> omega
theorem shN_bd {w k n : Int} (k0 : 0 ≤ k) (k1 : k ≤ n) (n1 : n ≤ 360) : -170000000000000 ≤ shN w k n ∧ shN w k n ≤ 170000000000000 := by
  have q2 := mulB (show 0 ≤ n by omega) n1 (show 0 ≤ n by omega) n1
  have kk := mulB (show 0 ≤ 2 * k by omega) (show 2 * k ≤ 720 by omega) k0 (show k ≤ 360 by omega)
  have dd := mulB (show 0 ≤ 2 * (n - k) by omega) (show 2 * (n - k) ≤ 720 by omega) (show 0 ≤ n - k by omega) (show n - k ≤ 360 by omega)
  have k3 := mulB (show 0 ≤ 3 * k by omega) (show 3 * k ≤ 1080 by omega) k0 (show k ≤ 360 by omega)
  have k3n := mulB k3.1 k3.2 (show 0 ≤ n by omega) n1
  have kkk := mulB kk.1 kk.2 k0 (show k ≤ 360 by omega)
  have c2 := mulB k0 (show k ≤ 360 by omega) k0 (show k ≤ 360 by omega)
  have c3 := mulB c2.1 c2.2 k0 (show k ≤ 360 by omega)
  have e1 := mulB (show 0 ≤ 10 * n by omega) (show 10 * n ≤ 3600 by omega) (show 0 ≤ n by omega) n1
  have e2 := mulB (show 0 ≤ 15 * k by omega) (show 15 * k ≤ 5400 by omega) (show 0 ≤ n by omega) n1
  have e3 := mulB (show 0 ≤ 6 * k by omega) (show 6 * k ≤ 2160 by omega) k0 (show k ≤ 360 by omega)
  unfold shN
  split
  · split <;> omega
  split
  · omega
  split
  · have a1 : k * k * k * (-1944000) ≤ k * k * k * (10 * n * n - 15 * k * n + 6 * k * k) := Int.mul_le_mul_of_nonneg_left (by omega) c3.1
    have a2 : k * k * k * (10 * n * n - 15 * k * n + 6 * k * k) ≤ k * k * k * 2073600 := Int.mul_le_mul_of_nonneg_left (by omega) c3.1
    omega
  · omega
theorem lift_bd {f t w k n : Int} (f0 : 0 ≤ f) (f1 : f ≤ 10000) (t0 : 0 ≤ t) (t1 : t ≤ 10000) (k0 : 0 ≤ k) (k1 : k ≤ n) (n0 : 1 ≤ n) (n1 : n ≤ 360) : (0 ≤ f * shD w n ∧ f * shD w n ≤ 60466176000000000) ∧ (-1700000000000000000 ≤ (t - f) * shN w k n ∧ (t - f) * shN w k n ≤ 1700000000000000000) := by
  have hd := shD_bd (w := w) n0 n1
  have hn := shN_bd (w := w) k0 k1 n1
  have a := mulB f0 f1 (show 0 ≤ shD w n by omega) hd.2
  refine ⟨by omega, ?_⟩
  rcases Int.le_total 0 (t - f) with h | h
  · have b1 : (t - f) * (-170000000000000) ≤ (t - f) * shN w k n := Int.mul_le_mul_of_nonneg_left hn.1 h
    have b2 : (t - f) * shN w k n ≤ (t - f) * 170000000000000 := Int.mul_le_mul_of_nonneg_left hn.2 h
    omega
  · have b1 : (t - f) * 170000000000000 ≤ (t - f) * shN w k n := Int.mul_le_mul_of_nonpos_left h hn.2
    have b2 : (t - f) * shN w k n ≤ (t - f) * (-170000000000000) := Int.mul_le_mul_of_nonpos_left h hn.1
    omega
/-! ### Runs -/
def kdOf (x : Int) : Int := if x > 0 then 1 else if x < 0 then -1 else 0
def kd (c : List Int) (x : Int) : Int := kdOf (cAt c (x + 1) - cAt c x)
def chgL (c : List Int) : List Int := (List.range c.length).map fun i => cAt c ((i : Nat) + 1) - cAt c (i : Nat)
theorem chgL_len (c : List Int) : (chgL c).length = c.length := by simp [chgL]
/-- How many steps ahead of a place are of the kind of step 0, no more than so many. -/
def bkF (K : Int → Int) : Nat → Nat → Nat
  | 0, b => b
  | f + 1, b => if K (-(b : Int) - 1) = K 0 then bkF K f (b + 1) else b
/-- Steps ahead of step 0 that are of its kind: all of them, or none but so many. -/
def bk (c : List Int) : Nat := bkF (kd c) c.length 0
/-! ### Motions that are found -/
abbrev Prg : Type := Int × ((List Ct) × Unit)
/-! ### Marks of three numbers -/
end Go.Cams


/- Plans of cuts, in plain terms. -/
namespace Go.Cams
open Go Go.Fw
end Go.Cams


/- Stops that are planned, in plain terms. -/
namespace Go.Cams
open Go Go.Fw
abbrev Stk : Type := List Mk
def gM (L : List Mk) (i : Nat) : Mk := L.getD i []
theorem gM_idx {L : List Mk} {i : Int} (h0 : 0 ≤ i) (h1 : i < L.length) : At L i (gM L i.toNat) := by
  obtain ⟨v, hv⟩ := at_of (l := L) h0 h1
  have : gM L i.toNat = v := getD_at hv
  rw [this]; exact hv
theorem lineM_get {a b : Mk} (hn : far a b ≠ 0) {i : Nat} (h : i < (far a b + 1).toNat) : gM (lineM a b) i = ptM a b (i : Nat) := by
  unfold gM lineM
  rw [if_neg hn, List.getD_eq_getElem?_getD, List.getElem?_map, List.getElem?_range h]
  rfl
theorem lineM_length {a b : Mk} (ha : OnP a) (hb : OnP b) : ((lineM a b).length : Int) = far a b + 1 := by
  obtain ⟨f0, _, _⟩ := far_bd ha hb
  unfold lineM
  split
  · rename_i h; rw [h]; rfl
  · simp; omega
theorem far_zero {a b : Mk} (ha : OnP a) (hb : OnP b) (h : far a b = 0) : a = b := by
  obtain ⟨_, _, f2⟩ := far_bd ha hb
  have h0 := f2 0 (.inl rfl)
  have h1 := f2 1 (.inr rfl)
  rw [ha.eq, hb.eq]
  rw [show g a 0 = g b 0 by omega, show g a 1 = g b 1 by omega]
theorem nr_full {d n : Int} (hn : 0 < n) (k : Int) (hd : d = n ∨ d = -n) : nr (k * d) n = if d = n then k else -k := by
  unfold nr
  rcases hd with rfl | rfl
  · rw [if_pos rfl, show 2 * (k * d) + d = d + (2 * d) * k by rw [Int.mul_assoc, Int.mul_comm d k]; omega, Int.add_mul_ediv_left _ _ (by omega), Int.ediv_eq_zero_of_lt (by omega) (by omega)]; omega
  · rw [if_neg (by omega), show 2 * (k * -n) + n = n + (2 * n) * (-k) by rw [Int.mul_neg k n, Int.mul_neg 2 (k * n), Int.mul_neg (2 * n) k, Int.mul_assoc, Int.mul_comm n k]; omega, Int.add_mul_ediv_left _ _ (by omega), Int.ediv_eq_zero_of_lt (by omega) (by omega)]; omega
theorem nr_end {d n : Int} (hn : 0 < n) : nr (n * d) n = d := by
  unfold nr
  rw [show 2 * (n * d) + n = n + (2 * n) * d by rw [Int.mul_assoc]; omega, Int.add_mul_ediv_left _ _ (by omega), Int.ediv_eq_zero_of_lt (by omega) (by omega)]; omega
theorem nr_step {d n k : Int} (hn : 0 < n) (h1 : -n ≤ d) (h2 : d ≤ n) : -1 ≤ nr ((k + 1) * d) n - nr (k * d) n ∧ nr ((k + 1) * d) n - nr (k * d) n ≤ 1 := by
  unfold nr
  rw [Int.add_mul, Int.one_mul]
  obtain ⟨e, he⟩ : ∃ e, e = k * d := ⟨_, rfl⟩
  rw [← he]
  have a := Int.ediv_le_ediv (c := 2 * n) (by omega) (show 2 * (e + d) + n ≤ (2 * e + n) + 2 * n * 1 by omega)
  rw [Int.add_mul_ediv_left _ _ (by omega)] at a
  have b := Int.ediv_le_ediv (c := 2 * n) (by omega) (show (2 * e + n) + 2 * n * (-1) ≤ 2 * (e + d) + n by omega)
  rw [Int.add_mul_ediv_left _ _ (by omega)] at b
  omega
theorem ptM_end {a b : Mk} (ha : OnP a) (hb : OnP b) (hn : far a b ≠ 0) : ptM a b (far a b) = b := by
  obtain ⟨f0, _, _⟩ := far_bd ha hb
  have h : ∀ i, pt a b (far a b) i = g b i := fun i => by
    unfold pt
    rw [nr_end (by omega)]; omega
  unfold ptM
  rw [h, h]
  exact hb.eq.symm
theorem lineM_one {a b : Mk} (ha : OnP a) (hb : OnP b) (h : far a b = 1) : lineM a b = [a, b] := by
  have h0 := ptM_zero ha hb (by omega)
  have h1 := ptM_end ha hb (by omega)
  rw [h] at h1
  unfold lineM
  rw [if_neg (by omega), h]
  show [ptM a b ((0 : Nat) : Int), ptM a b ((1 : Nat) : Int)] = _
  rw [show ((0 : Nat) : Int) = 0 from rfl, show ((1 : Nat) : Int) = 1 from rfl, h0, h1]
theorem line_step {a b : Mk} (ha : OnP a) (hb : OnP b) {i : Nat} (h : (i : Int) < far a b) : lineM (gM (lineM a b) i) (gM (lineM a b) (i + 1)) = [gM (lineM a b) i, gM (lineM a b) (i + 1)] := by
  obtain ⟨f0, f1, f2⟩ := far_bd ha hb
  have hn : far a b ≠ 0 := by omega
  rw [lineM_get hn (by omega), lineM_get hn (by omega)]
  have p0 := onP_pair (pt_bd ha hb hn (k := (i : Nat)) (by omega) (by omega) (.inl rfl)) (pt_bd ha hb hn (k := (i : Nat)) (by omega) (by omega) (.inr rfl))
  have p1 := onP_pair (pt_bd ha hb hn (k := ((i + 1 : Nat) : Int)) (by omega) (by omega) (.inl rfl)) (pt_bd ha hb hn (k := ((i + 1 : Nat) : Int)) (by omega) (by omega) (.inr rfl))
  refine lineM_one p0 p1 ?_
  have s0 := nr_step (k := (i : Int)) (show 0 < far a b by omega) (f2 0 (.inl rfl)).1 (f2 0 (.inl rfl)).2
  have s1 := nr_step (k := (i : Int)) (show 0 < far a b by omega) (f2 1 (.inr rfl)).1 (f2 1 (.inr rfl)).2
  have e0 : pt a b ((i + 1 : Nat) : Int) 0 - pt a b (i : Int) 0 = nr (((i : Int) + 1) * (g b 0 - g a 0)) (far a b) - nr ((i : Int) * (g b 0 - g a 0)) (far a b) := by
    unfold pt
    rw [show ((i + 1 : Nat) : Int) = (i : Int) + 1 by omega]; omega
  have e1 : pt a b ((i + 1 : Nat) : Int) 1 - pt a b (i : Int) 1 = nr (((i : Int) + 1) * (g b 1 - g a 1)) (far a b) - nr ((i : Int) * (g b 1 - g a 1)) (far a b) := by
    unfold pt
    rw [show ((i + 1 : Nat) : Int) = (i : Int) + 1 by omega]; omega
  have full : ∀ d, d = far a b ∨ d = -far a b → nr (((i : Int) + 1) * d) (far a b) - nr ((i : Int) * d) (far a b) = 1 ∨ nr (((i : Int) + 1) * d) (far a b) - nr ((i : Int) * d) (far a b) = -1 := fun d hd => by
    rw [nr_full (by omega) _ hd, nr_full (by omega) _ hd]
    split <;> omega
  have ef : far a b = max (siz (g a 0 - g b 0)) (siz (g a 1 - g b 1)) := rfl
  have d0 : siz (g a 0 - g b 0) = if g a 0 - g b 0 < 0 then -(g a 0 - g b 0) else g a 0 - g b 0 := rfl
  have d1 : siz (g a 1 - g b 1) = if g a 1 - g b 1 < 0 then -(g a 1 - g b 1) else g a 1 - g b 1 := rfl
  show max (siz (pt a b (i : Int) 0 - pt a b ((i + 1 : Nat) : Int) 0)) (siz (pt a b (i : Int) 1 - pt a b ((i + 1 : Nat) : Int) 1)) = 1
  have h3 : ∀ x, siz x = if x < 0 then -x else x := fun _ => rfl
  rw [h3, h3]
  have hor : g b 0 - g a 0 = far a b ∨ g b 0 - g a 0 = -far a b ∨ g b 1 - g a 1 = far a b ∨ g b 1 - g a 1 = -far a b := by
    split at d0 <;> split at d1 <;> omega
  rcases hor with hh | hh | hh | hh
  · have := full _ (.inl hh)
    split <;> split <;> omega
  · have := full _ (.inr hh)
    split <;> split <;> omega
  · have := full _ (.inl hh)
    split <;> split <;> omega
  · have := full _ (.inr hh)
    split <;> split <;> omega
theorem seg_two {L : List Mk} {i : Nat} (h : i + 1 < L.length) : (L.take (i + 2)).drop i = [gM L i, gM L (i + 1)] := by
  have e0 : L[i]? = some (gM L i) := by unfold gM; rw [List.getD_eq_getElem?_getD, List.getElem?_eq_getElem (by omega)]; rfl
  have e1 : L[i + 1]? = some (gM L (i + 1)) := by unfold gM; rw [List.getD_eq_getElem?_getD, List.getElem?_eq_getElem (by omega)]; rfl
  rw [List.take_add_one, List.take_add_one, e0, e1]
  simp only [Option.toList_some, List.append_assoc]
  rw [List.drop_append_of_le_length (by simp; omega), List.drop_of_length_le (by simp; omega)]
  rfl
/-- The place to go to: as far as the line is the same. -/
def bkJ (L : List Mk) (i : Nat) : Nat → Nat
  | 0 => 0
  | j + 1 => if lineM (gM L i) (gM L (j + 1)) = (L.take (j + 2)).drop i then j + 1 else bkJ L i j
theorem bkJ_le (L : List Mk) (i : Nat) : ∀ j, bkJ L i j ≤ j
  | 0 => Nat.le_refl _
  | j + 1 => by
    unfold bkJ
    split
    · exact Nat.le_refl _
    · have := bkJ_le L i j; omega
theorem bkJ_gt {a b : Mk} (ha : OnP a) (hb : OnP b) {i : Nat} (h : (i : Int) < far a b) : ∀ j, i < j → j < (lineM a b).length → i < bkJ (lineM a b) i j
  | 0, hj, _ => by omega
  | j + 1, hj, hl => by
    unfold bkJ
    split
    · exact hj
    · rename_i hc
      by_cases e : i = j
      · subst e
        exact absurd (by rw [line_step ha hb h, seg_two hl]) hc
      · exact bkJ_gt ha hb h j (by omega) (by omega)
def toJ (most : Nat) (down : Bool) (L : List Mk) (i : Nat) : Nat := if down = true then bkJ L i (min (i + most) (L.length - 1)) else min (i + most) (L.length - 1)
def goF (most : Nat) (down : Bool) (L : List Mk) : Nat → Nat → List Stp
  | 0, _ => []
  | f + 1, i => if i < L.length - 1 then (gM L (toJ most down L i), down, ()) :: goF most down L f (toJ most down L i) else []
theorem toJ_bd {most : Nat} (hm : 1 ≤ most) (down : Bool) {a b : Mk} (ha : OnP a) (hb : OnP b) {i : Nat} (h : i < (lineM a b).length - 1) : i < toJ most down (lineM a b) i ∧ toJ most down (lineM a b) i ≤ (lineM a b).length - 1 := by
  have hl := lineM_length ha hb
  unfold toJ
  split
  · have h1 := bkJ_gt ha hb (i := i) (by omega) (min (i + most) ((lineM a b).length - 1)) (by omega) (by omega)
    have h2 := bkJ_le (lineM a b) i (min (i + most) ((lineM a b).length - 1))
    omega
  · omega
def goL (most : Nat) (down : Bool) (a b : Mk) : List Stp := goF most down (lineM a b) 64 0
theorem goF_last (most : Nat) (down : Bool) (L : List Mk) (f : Nat) {i : Nat} (h : ¬ i < L.length - 1) : goF most down L f i = [] := by
  cases f with
  | zero => rfl
  | succ f => unfold goF; rw [if_neg h]
theorem line_last {a b : Mk} (ha : OnP a) (hb : OnP b) : gM (lineM a b) ((lineM a b).length - 1) = b := by
  have hl := lineM_length ha hb
  obtain ⟨f0, _, _⟩ := far_bd ha hb
  by_cases hn : far a b = 0
  · have := far_zero ha hb hn
    subst this
    rw [lineM_same]; rfl
  · rw [lineM_get hn (by omega), show (((lineM a b).length - 1 : Nat) : Int) = far a b by omega, ptM_end ha hb hn]
/-! ### Strokes -/
structure RngT (K : List Stk) : Prop where
  len : (K.length : Int) * 24 ≤ 140737488351232
  el : ∀ s ∈ K, (s.length : Int) * 4 ≤ 140737488351232 ∧ ∀ m ∈ s, m.length = 2 ∧ ∀ v ∈ m, -32768 ≤ v ∧ v ≤ 32767
def drF (most : Nat) (st : Mk × List Stp) (m : Mk) : Mk × List Stp := (m, st.2 ++ goL most true st.1 m)
def o0 : Mk := List.replicate 2 0
/-! ### Sizes and marks -/
theorem RngT.len' {K : List Stk} (h : RngT K) : (K.length : Int) ≤ 5864062014635 := by have := h.len; omega
end Go.Cams


/- Machines that are made of stops, in plain terms. -/
namespace Go.Cams
open Go Go.Fw
end Go.Cams


/- Stretches of cams, their grids of bits and their fillings, in plain terms. -/
namespace Go.Cams
open Go Go.Fw

/-! ### Lists told by a function -/
def tb {α : Type} (n : Nat) (G : Nat → α) : List α := (List.range n).map G
theorem tb_len {α : Type} (n : Nat) (G : Nat → α) : (tb n G).length = n := by simp [tb]
theorem tb_get {α : Type} {n : Nat} {G : Nat → α} {i : Nat} (h : i < n) : (tb n G)[i]? = some (G i) := by simp [tb, h]
theorem tb_ext {α : Type} {n : Nat} {G G' : Nat → α} (h : ∀ j, j < n → G j = G' j) : tb n G = tb n G' := List.map_congr_left fun j hj => h j (by simpa using hj)
theorem tb_rep {α : Type} (n : Nat) (a : α) : List.replicate n a = tb n fun _ => a := by
  apply List.ext_getElem?
  intro i
  by_cases h : i < n
  · rw [tb_get h, List.getElem?_replicate, if_pos h]
  · rw [List.getElem?_eq_none (by simpa using h), List.getElem?_eq_none (by rw [tb_len]; omega)]
theorem tb_set {α : Type} (n : Nat) (G : Nat → α) (i : Nat) (v : α) : (tb n G).set i v = tb n fun j => if j = i then v else G j := by
  apply List.ext_getElem?
  intro j
  by_cases h : j < n
  · rw [tb_get h, List.getElem?_set]
    by_cases e : i = j
    · subst e; simp [tb_len, h]
    · rw [if_neg e, tb_get h, if_neg (fun h => e h.symm)]
  · rw [List.getElem?_eq_none (by rw [List.length_set, tb_len]; omega), List.getElem?_eq_none (by rw [tb_len]; omega)]
theorem tb_snoc {α : Type} (n : Nat) (G : Nat → α) : tb n G ++ [G n] = tb (n + 1) G := by simp [tb, List.range_succ]

/-! ### Rows of bits -/
def mkN (p : Nat → Bool) : Nat → Nat
  | 0 => 0
  | n + 1 => 2 ^ n * (if p n = true then 1 else 0) + mkN p n
theorem mkN_lt (p : Nat → Bool) : ∀ n, mkN p n < 2 ^ n
  | 0 => by simp [mkN]
  | n + 1 => by
    have := mkN_lt p n
    have e : 2 ^ (n + 1) = 2 ^ n + 2 ^ n := by rw [Nat.pow_succ]; omega
    unfold mkN
    split <;> omega
theorem mkN_bit (p : Nat → Bool) : ∀ (n y : Nat), (mkN p n).testBit y = (decide (y < n) && p y)
  | 0, y => by simp [mkN]
  | n + 1, y => by
    unfold mkN
    rw [Nat.testBit_two_pow_mul_add _ (mkN_lt p n), mkN_bit p n y]
    by_cases h : y < n
    · rw [if_pos h]; simp [h, show y < n + 1 by omega]
    · rw [if_neg h]
      by_cases h2 : y = n
      · subst h2
        simp only [Nat.sub_self]
        split <;> rename_i h3 <;> simp [h3]
      · have e : decide (y < n + 1) = false := decide_eq_false (by omega)
        rw [e, Bool.false_and]
        split
        · have : (1 : Nat) = 2 ^ 1 - 1 := rfl
          rw [this, Nat.testBit_two_pow_sub_one]
          exact decide_eq_false (by omega)
        · simp
theorem mkN_congr {p q : Nat → Bool} : ∀ {n : Nat}, (∀ y, y < n → p y = q y) → mkN p n = mkN q n
  | 0, _ => rfl
  | n + 1, h => by
    unfold mkN
    rw [h n (by omega), mkN_congr fun y hy => h y (by omega)]
theorem mkN_eq {p : Nat → Bool} {n x : Nat} (hx : x < 2 ^ n) (h : ∀ y, y < n → x.testBit y = p y) : x = mkN p n := by
  apply Nat.eq_of_testBit_eq
  intro y
  rw [mkN_bit]
  by_cases hy : y < n
  · rw [h y hy]; simp [hy]
  · rw [Nat.testBit_lt_two_pow (Nat.lt_of_lt_of_le hx (Nat.pow_le_pow_right (by omega) (by omega)))]
    simp [hy]
theorem mkN_zero {p : Nat → Bool} {n : Nat} (h : ∀ y, y < n → p y = false) : mkN p n = 0 := (mkN_eq (p := p) (x := 0) (Nat.pow_pos (by omega)) (by simpa using fun y hy => (h y hy))).symm
/-- A row of 64 bits, as the program has it. -/
def row (p : Nat → Bool) : Int := ((mkN p 64 : Nat) : Int)
theorem row_lt (p : Nat → Bool) : mkN p 64 < 18446744073709551616 := mkN_lt p 64
theorem row_congr {p q : Nat → Bool} (h : ∀ y, y < 64 → p y = q y) : row p = row q := by unfold row; rw [mkN_congr h]
theorem wrU {x : Int} (h0 : 0 ≤ x) (h1 : x < 18446744073709551616) : wr .u64 x = x := by
  show IntKind.u64.wrap x = x
  simp [IntKind.wrap, IntKind.signed, IntKind.bits]; omega
theorem ofInt_nat {a : Nat} (h : a < 18446744073709551616) : (BitVec.ofInt 64 (a : Int)).toNat = a := by
  rw [BitVec.ofInt_natCast, BitVec.toNat_ofNat]; exact Nat.mod_eq_of_lt (by omega)
theorem and_nat {a b : Nat} (ha : a < 18446744073709551616) (hb : b < 18446744073709551616) : bitsI .and .u64 (a : Int) (b : Int) = ((a &&& b : Nat) : Int) := by
  show IntKind.u64.wrap ((BitVec.ofInt 64 (a : Int) &&& BitVec.ofInt 64 (b : Int)).toNat : Int) = _
  rw [BitVec.toNat_and, ofInt_nat ha, ofInt_nat hb]
  have : a &&& b < 2 ^ 64 := Nat.and_lt_two_pow _ (by omega)
  exact wrU (by omega) (by omega)
theorem or_nat {a b : Nat} (ha : a < 18446744073709551616) (hb : b < 18446744073709551616) : bitsI .or .u64 (a : Int) (b : Int) = ((a ||| b : Nat) : Int) := by
  show IntKind.u64.wrap ((BitVec.ofInt 64 (a : Int) ||| BitVec.ofInt 64 (b : Int)).toNat : Int) = _
  rw [BitVec.toNat_or, ofInt_nat ha, ofInt_nat hb]
  have : a ||| b < 2 ^ 64 := Nat.or_lt_two_pow (by omega) (by omega)
  exact wrU (by omega) (by omega)
theorem row_or (p q : Nat → Bool) : bitsI .or .u64 (row p) (row q) = row fun y => p y || q y := by
  unfold row
  rw [or_nat (row_lt p) (row_lt q)]
  refine Int.ofNat_inj.2 (mkN_eq (Nat.or_lt_two_pow (row_lt p) (row_lt q)) fun y hy => ?_)
  rw [Nat.testBit_or, mkN_bit, mkN_bit]; simp [hy]
theorem row_one {y : Nat} (hy : y < 64) : shl_ .u64 (1 : Int) (y : Int) = row fun z => z == y := by
  show IntKind.u64.wrap (1 * 2 ^ (min (y : Int).toNat 64)) = _
  have h2 : 2 ^ y < 2 ^ 64 := Nat.pow_lt_pow_right (by omega) hy
  have e : (1 : Int) * 2 ^ (min (y : Int).toNat 64) = ((2 ^ y : Nat) : Int) := by
    rw [Int.toNat_natCast, Nat.min_eq_left (by omega), Int.one_mul]; simp
  rw [e]
  have : IntKind.u64.wrap ((2 ^ y : Nat) : Int) = ((2 ^ y : Nat) : Int) := wrU (Int.natCast_nonneg _) (Int.ofNat_lt.2 h2)
  rw [this]
  unfold row
  refine Int.ofNat_inj.2 (mkN_eq h2 fun z hz => ?_)
  rw [Nat.testBit_two_pow]
  by_cases h : y = z
  · subst h; simp
  · have h' : ¬ z = y := fun e => h e.symm
    simp [h, h']
theorem shr_nat {v y : Nat} (hy : y ≤ 64) : shr_ .u64 (v : Int) (y : Int) = ((v / 2 ^ y : Nat) : Int) := by
  show Int.fdiv (v : Int) (2 ^ (min (y : Int).toNat 64)) = _
  rw [Int.toNat_natCast, Nat.min_eq_left hy]
  rw [show (2 : Int) ^ y = ((2 ^ y : Nat) : Int) by simp]
  rw [Int.fdiv_eq_ediv_of_nonneg _ (Int.natCast_nonneg _)]
  exact (Int.natCast_ediv _ _).symm
end Go.Cams


/- Stretches: which heights may follow, what can be reached, and fillings, in plain terms. -/
namespace Go.Cams
open Go Go.Fw
def hgt (c : List Int) (lo s : Int) : Int := cAt c s - lo
/-- May the step k of a stretch have the height z? -/
def al (c : List Int) (f m lo : Int) (k z : Nat) : Bool := decide ((k : Int) < m) || decide ((z : Int) = hgt c lo (f + k))
structure GoodS (c : List Int) (f m lo b : Int) : Prop where
  ok : okC c = true
  hf : 0 ≤ f ∧ f < c.length
  hm : 1 ≤ m ∧ m ≤ 40
  hm2 : m ≤ c.length - 4
  hlo : 0 ≤ lo ∧ lo ≤ 9937
  hb : 0 ≤ b ∧ b ≤ 40000
  h1 : 0 ≤ hgt c lo (f - 2) ∧ hgt c lo (f - 2) ≤ 63
  h2 : 0 ≤ hgt c lo (f - 1) ∧ hgt c lo (f - 1) ≤ 63
  h3 : 0 ≤ hgt c lo (f + m) ∧ hgt c lo (f + m) ≤ 63
  h4 : 0 ≤ hgt c lo (f + m + 1) ∧ hgt c lo (f + m + 1) ≤ 63
theorem GoodS.len {c : List Int} {f m lo b : Int} (h : GoodS c f m lo b) : 8 ≤ (c.length : Int) ∧ (c.length : Int) ≤ 360 := okC_len h.ok
/-! ### The spans -/
/-! ### Grids that are being made -/
end Go.Cams
namespace Go.Cams
open Go Go.Fw
end Go.Cams
namespace Go.Cams
open Go Go.Fw
end Go.Cams


/- Fillings that are put into cams, and repairs, in plain terms. -/
namespace Go.Cams
open Go Go.Fw
end Go.Cams
namespace Go.Cams
open Go Go.Fw
end Go.Cams


/- Cuts that are done one behind another, in plain terms. -/
namespace Go.Cams
open Go Go.Fw
end Go.Cams


/- The number of bits of a word, in plain terms. -/
namespace Go.Cams
open Go Go.Fw
def b1 (a : Nat) : Nat := (a / 2 &&& 85) + (a &&& 85)
def b2 (a : Nat) : Nat := (a / 4 &&& 51) + (a &&& 51)
def b3 (a : Nat) : Nat := (a / 16 + a) &&& 15
end Go.Cams


/- Two plates compared, in plain terms. -/
namespace Go.Cams
open Go Go.Fw
theorem wrap_u64 (x : Int) : 0 ≤ wr .u64 x ∧ wr .u64 x < 18446744073709551616 := by
  show 0 ≤ IntKind.u64.wrap x ∧ IntKind.u64.wrap x < _
  simp [IntKind.wrap, IntKind.signed, IntKind.bits]; omega
end Go.Cams


/- Texts of cams, in plain terms. -/
namespace Go.Cams
open Go Go.Fw
def tx (l : List UInt8) : ByteArray := ⟨l.toArray⟩
theorem tx_app (a b : List UInt8) : tx a ++ tx b = tx (a ++ b) := by
  apply ByteArray.ext
  simp [tx, ByteArray.data_append]
theorem tx_size (a : List UInt8) : (tx a).size = a.length := by
  show (a.toArray).size = _
  simp
theorem tx_list (a : List UInt8) : (tx a).data.toList = a := rfl
theorem dec_len {u : Nat} (h : u ≤ 9223372036854775807) : (Lib.decDigits u).length ≤ 21 := by
  have := Lib.itoa_length_le (u : Int) (by omega) (by omega)
  rwa [Lib.itoa_nonneg] at this
theorem dec_small {u : Nat} (h : u < 10) : Lib.decDigits u = [UInt8.ofNat (48 + u)] := Lib.decDigits_one h
theorem dec_big {u : Nat} (h : ¬ u < 10) : Lib.decDigits u = Lib.decDigits (u / 10) ++ [UInt8.ofNat (48 + u % 10)] := by rw [Lib.decDigits, dif_neg h]
theorem join_len (s : List UInt8) : ∀ (ws : List (List UInt8)) {m : Nat}, (∀ w ∈ ws, w.length ≤ m) → (Lib.join ws s).length ≤ ws.length * (m + s.length)
  | [], _, _ => by simp [Lib.join_nil]
  | x :: r, m, h => by
    have hx := h x (by simp)
    have ht : ∀ r : List (List UInt8), (∀ w ∈ r, w.length ≤ m) → (Lib.joinTail s r).length ≤ r.length * (m + s.length) := by
      intro r
      induction r with
      | nil => intro _; simp [Lib.joinTail]
      | cons y r ih =>
        intro h
        have h1 := h y (by simp)
        have h2 := ih fun w hw => h w (by simp [hw])
        simp only [Lib.joinTail, List.map_cons, List.flatten_cons, List.length_append, List.length_cons] at h2 ⊢
        rw [Nat.add_mul]
        omega
    have := ht r fun w hw => h w (by simp [hw])
    rw [Lib.join_cons, List.length_append, List.length_cons, Nat.add_mul]
    omega
end Go.Cams
namespace Go.Cams
open Go Go.Fw
theorem szT {a b : List UInt8} (ha : a.length ≤ 1000000000) (hb : b.length ≤ 1000000000) : decide ((((tx a).size + (tx b).size : Nat) : Int) ≤ 4611686018427387904) = true := by
  rw [tx_size, tx_size]
  exact decide_eq_true (by omega)
end Go.Cams
namespace Go.Cams
open Go Go.Fw
end Go.Cams


/- Programs and their texts, in plain terms. -/
namespace Go.Cams
open Go Go.Fw
abbrev MoTy : Ty := .pair (.int .i8) (.pair (.int .i16) (.pair (.int .i16) .unit))
structure RngMo (L : List Ct) : Prop where
  len : (L.length : Int) * 6 ≤ 140737488351232
  el : ∀ v ∈ L, (-128 ≤ v.1 ∧ v.1 ≤ 127) ∧ (-32768 ≤ v.2.1 ∧ v.2.1 ≤ 32767) ∧ (-32768 ≤ v.2.2.1 ∧ v.2.2.1 ≤ 32767)
theorem RngMo.len' {L : List Ct} (h : RngMo L) : (L.length : Int) ≤ 23456248058538 := by have := h.len; omega
theorem RngMo.i1 {L : List Ct} (h : RngMo L) {v : Ct} (hv : v ∈ L) : wr .i64 v.1 = v.1 := by have := (h.el v hv).1; exact wrap_id (by omega) (by omega)
theorem RngMo.i2 {L : List Ct} (h : RngMo L) {v : Ct} (hv : v ∈ L) : wr .i64 v.2.1 = v.2.1 := by have := (h.el v hv).2.1; exact wrap_id (by omega) (by omega)
theorem RngMo.i3 {L : List Ct} (h : RngMo L) {v : Ct} (hv : v ∈ L) : wr .i64 v.2.2.1 = v.2.2.1 := by have := (h.el v hv).2.2; exact wrap_id (by omega) (by omega)
structure RngPg (p : Prg) : Prop where
  t : -32768 ≤ p.1 ∧ p.1 ≤ 32767
  m : RngMo p.2.1
def moOk (v : Ct) : Bool := inR (wr .i64 v.1) 0 3 && !decide (v.2.1 < 1) && inR (wr .i64 v.2.2.1) 0 10000
def sumM : List Ct → Int
  | [] => 0
  | v :: r => v.2.1 + sumM r
theorem sumM_snoc (l : List Ct) (v : Ct) : sumM (l ++ [v]) = sumM l + v.2.1 := by
  induction l with
  | nil => simp [sumM]
  | cons a l ih => simp only [List.cons_append, sumM, ih]; omega
theorem sumM_bd : ∀ l : List Ct, (∀ v ∈ l, -32768 ≤ v.2.1 ∧ v.2.1 ≤ 32767) → -32768 * (l.length : Int) ≤ sumM l ∧ sumM l ≤ 32768 * (l.length : Int)
  | [], _ => by simp [sumM]
  | v :: r, h => by
    have h1 := h v (by simp)
    have h2 := sumM_bd r fun u hu => h u (by simp [hu])
    simp only [sumM, List.length_cons]
    omega
theorem sumM_take {L : List Ct} (hr : RngMo L) (h : (L.length : Int) ≤ 24) (i : Nat) : -1000000 ≤ sumM (L.take i) ∧ sumM (L.take i) ≤ 1000000 := by
  have := sumM_bd (L.take i) fun v hv => (hr.el v (List.mem_of_mem_take hv)).2.1
  have h2 : ((L.take i).length : Int) ≤ 24 := by rw [List.length_take]; omega
  omega
def lastT (L : List Ct) : Int := ((idx L ((L.length : Int) - 1)).map fun v => v.2.2.1).getD 0
def okPg (p : Prg) : Bool := inR (p.2.1.length : Int) 1 24 && inR (wr .i64 p.1) 0 10000 && p.2.1.all moOk && inR (sumM p.2.1) 8 360 && (lastT p.2.1 == p.1)
structure GoodPg (p : Prg) : Prop where
  n : 1 ≤ (p.2.1.length : Int) ∧ (p.2.1.length : Int) ≤ 24
  t : 0 ≤ p.1 ∧ p.1 ≤ 10000
  el : ∀ v ∈ p.2.1, (0 ≤ v.1 ∧ v.1 ≤ 3) ∧ 1 ≤ v.2.1 ∧ (0 ≤ v.2.2.1 ∧ v.2.2.1 ≤ 10000)
theorem goodPg {p : Prg} (hr : RngPg p) (h : okPg p = true) : GoodPg p := by
  simp only [okPg, Bool.and_eq_true, inR_iff, List.all_eq_true] at h
  obtain ⟨⟨⟨⟨h1, h2⟩, h3⟩, _⟩, _⟩ := h
  have ht := hr.t
  rw [wrap_id (x := p.1) (by omega) (by omega)] at h2
  refine ⟨h1, h2, fun v hv => ?_⟩
  have h4 := h3 v hv
  simp only [moOk, Bool.and_eq_true, inR_iff] at h4
  rw [hr.m.i1 hv, hr.m.i3 hv] at h4
  obtain ⟨⟨h5, h6⟩, h7⟩ := h4
  have h6 : ¬ v.2.1 < 1 := by simpa using h6
  exact ⟨h5, by omega, h7⟩
def ltr (k : Int) : UInt8 := if k = 0 then 101 else if k = 1 then 115 else if k = 2 then 99 else 102
theorem ltr_cut {k : Int} (h0 : 0 ≤ k) (h1 : k ≤ 3) : (⟨#[101, 115, 99, 102]⟩ : ByteArray).extract k.toNat (k + 1).toNat = tx [ltr k] := by
  have : k = 0 ∨ k = 1 ∨ k = 2 ∨ k = 3 := by omega
  rcases this with rfl | rfl | rfl | rfl <;> rfl
theorem wr_i8 {x : Int} (h0 : -128 ≤ x) (h1 : x ≤ 127) : wr .i8 x = x := by
  show IntKind.i8.wrap x = x
  simp [IntKind.wrap, IntKind.signed, IntKind.bits]; omega
def motW (v : Ct) : List UInt8 := ltr v.1 :: (Lib.decDigits v.2.1.toNat ++ 58 :: Lib.decDigits v.2.2.1.toNat)
theorem motW_len {v : Ct} (h1 : v.2.1 ≤ 32767) (h2 : v.2.2.1 ≤ 32767) : (motW v).length ≤ 45 := by
  have a := dec_len (u := v.2.1.toNat) (by omega)
  have b := dec_len (u := v.2.2.1.toNat) (by omega)
  unfold motW
  simp; omega
def pgW (t : Int) (l : List Ct) : List (List UInt8) := Lib.decDigits t.toNat :: l.map motW
theorem pgW_snoc (t : Int) (l : List Ct) (v : Ct) : pgW t (l ++ [v]) = pgW t l ++ [motW v] := by simp [pgW]
theorem pgW_len {t : Int} {L : List Ct} (hr : RngMo L) (ht : t ≤ 32767) (hl : (L.length : Int) ≤ 24) (i : Nat) : (Lib.join (pgW t (L.take i)) [32]).length ≤ 10000 ∧ (pgW t (L.take i)).length ≤ 25 := by
  have h2 : (L.take i).length ≤ 24 := by rw [List.length_take]; omega
  have h := join_len [32] (pgW t (L.take i)) (m := 45) (fun w hw => by
    rcases List.mem_cons.1 hw with hw | hw
    · have := dec_len (u := t.toNat) (by omega)
      rw [hw]; omega
    · obtain ⟨v, hv, rfl⟩ := List.mem_map.1 hw
      have := hr.el v (List.mem_of_mem_take hv)
      exact motW_len (by omega) (by omega))
  have h3 : (pgW t (L.take i)).length = (L.take i).length + 1 := by simp [pgW]
  simp only [List.length_cons, List.length_nil] at h
  omega
def ptR (p : Prg) : ByteArray := if okPg p = true then tx (Lib.join (pgW p.1 p.2.1) [32]) else tx []
end Go.Cams


/- What is drawn out of bytes, and lifts between others, in plain terms. -/
namespace Go.Cams
open Go Go.Fw
theorem shN_in {w k n : Int} (w0 : 0 ≤ w) (w1 : w ≤ 3) (k0 : 0 ≤ k) (k1 : k ≤ n) (n0 : 1 ≤ n) : 0 ≤ shN w k n ∧ shN w k n ≤ shD w n := by
  have m0 : 0 ≤ n - k := by omega
  have nn : 0 ≤ n := by omega
  have kk := Int.mul_nonneg k0 k0
  have kn := Int.mul_nonneg k0 nn
  have mm := Int.mul_nonneg m0 m0
  rcases (show w = 0 ∨ w = 1 ∨ w = 2 ∨ w = 3 by omega) with rfl | rfl | rfl | rfl
  · unfold shN shD; simp; omega
  · unfold shN shD
    rw [if_pos rfl, if_pos rfl]
    split
    · rename_i h
      have a : n * n - 2 * k * k = n * (n - 2 * k) + 2 * (k * (n - k)) := by grind
      have b := Int.mul_nonneg nn (show 0 ≤ n - 2 * k by omega)
      have c := Int.mul_nonneg k0 m0
      have d : 2 * k * k = 2 * (k * k) := by grind
      omega
    · rename_i h
      have a : n * n - 2 * (n - k) * (n - k) = n * (n - 2 * (n - k)) + 2 * ((n - k) * k) := by grind
      have b := Int.mul_nonneg nn (show 0 ≤ n - 2 * (n - k) by omega)
      have c := Int.mul_nonneg m0 k0
      have d : 2 * (n - k) * (n - k) = 2 * ((n - k) * (n - k)) := by grind
      omega
  · unfold shN shD
    rw [if_neg (by decide), if_pos rfl, if_neg (by decide), if_pos rfl]
    have a : 3 * k * k * n - 2 * k * k * k = k * k * (3 * n - 2 * k) := by grind
    have b := Int.mul_nonneg kk (show 0 ≤ 3 * n - 2 * k by omega)
    have c : n * n * n - (3 * k * k * n - 2 * k * k * k) = (n - k) * (n - k) * (n + 2 * k) := by grind
    have d := Int.mul_nonneg mm (show 0 ≤ n + 2 * k by omega)
    omega
  · unfold shN shD
    rw [if_neg (by decide), if_neg (by decide), if_pos rfl, if_neg (by decide), if_neg (by decide), if_pos rfl]
    have a : 10 * n * n - 15 * k * n + 6 * k * k = 6 * ((n - k) * (n - k)) + n * (4 * n - 3 * k) := by grind
    have b := Int.mul_nonneg nn (show 0 ≤ 4 * n - 3 * k by omega)
    have c : 0 ≤ 10 * n * n - 15 * k * n + 6 * k * k := by omega
    have d := Int.mul_nonneg (Int.mul_nonneg kk k0) c
    have e : n * n * n * n * n - k * k * k * (10 * n * n - 15 * k * n + 6 * k * k) = (n - k) * (n - k) * (n - k) * (n * n + 3 * n * k + 6 * k * k) := by grind
    have nn2 := Int.mul_nonneg nn nn
    have f : 0 ≤ n * n + 3 * n * k + 6 * k * k := by
      have e1 : n * n + 3 * n * k + 6 * k * k = n * n + 3 * (k * n) + 6 * (k * k) := by grind
      omega
    have h := Int.mul_nonneg (Int.mul_nonneg mm m0) f
    omega
theorem nr_in {x d lo hi : Int} (hd : 0 < d) (h1 : lo * d ≤ x) (h2 : x ≤ hi * d) : lo ≤ nr x d ∧ nr x d ≤ hi := by
  unfold nr
  constructor
  · apply (Int.le_ediv_iff_mul_le (by omega)).2
    have : lo * (2 * d) = 2 * (lo * d) := by grind
    omega
  · have : (2 * x + d) / (2 * d) < hi + 1 := by
      apply (Int.ediv_lt_iff_lt_mul (by omega)).2
      have : (hi + 1) * (2 * d) = 2 * (hi * d) + 2 * d := by grind
      omega
    omega
/-- A lift of a motion lies between its ends. -/
theorem liftP_in {f t w k n lo hi : Int} (w0 : 0 ≤ w) (w1 : w ≤ 3) (k0 : 0 ≤ k) (k1 : k ≤ n) (n0 : 1 ≤ n) (n1 : n ≤ 360) (f0 : lo ≤ f) (f1 : f ≤ hi) (t0 : lo ≤ t) (t1 : t ≤ hi) : lo ≤ liftP f t w k n ∧ liftP f t w k n ≤ hi := by
  have hd := shD_bd (w := w) n0 n1
  obtain ⟨s0, s1⟩ := shN_in w0 w1 k0 k1 n0
  unfold liftP
  generalize shN w k n = s at *
  generalize shD w n = d at *
  have a1 := Int.mul_nonneg (show 0 ≤ f - lo by omega) (show 0 ≤ d - s by omega)
  have a2 := Int.mul_nonneg (show 0 ≤ t - lo by omega) s0
  have a3 := Int.mul_nonneg (show 0 ≤ hi - f by omega) (show 0 ≤ d - s by omega)
  have a4 := Int.mul_nonneg (show 0 ≤ hi - t by omega) s0
  have e1 : f * d + (t - f) * s - lo * d = (f - lo) * (d - s) + (t - lo) * s := by grind
  have e2 : hi * d - (f * d + (t - f) * s) = (hi - f) * (d - s) + (hi - t) * s := by grind
  exact nr_in (by omega) (by omega) (by omega)
/-- A source of numbers: the bytes, how many have been read, and its state. -/
abbrev Src : Type := List Int × (Int × (Int × Unit))
/-- A number of times that a source is still read. -/
def SrcAt (k : Int) (s : Src) : Prop := (∀ v ∈ s.1, 0 ≤ v ∧ v ≤ 255) ∧ (s.1.length : Int) ≤ 1000000 ∧ 0 ≤ s.2.1 ∧ s.2.1 ≤ k
theorem SrcAt.mono {k j : Int} {s : Src} (h : SrcAt k s) (hk : k ≤ j) : SrcAt j s := ⟨h.1, h.2.1, h.2.2.1, Int.le_trans h.2.2.2 hk⟩
theorem and_255 {a : Nat} (h : a < 18446744073709551616) : bitsI .and .u64 (a : Int) (255 : Int) = ((a % 256 : Nat) : Int) := by
  rw [show (255 : Int) = ((255 : Nat) : Int) from rfl, and_nat h (by omega), show (255 : Nat) = 2 ^ 8 - 1 from rfl, Nat.and_two_pow_sub_one_eq_mod]
end Go.Cams
namespace Go.Fw
/-- A loop whose result is not told beforehand. -/
theorem loop_ex {σ α : Type} {f : Nat → σ → (σ → Option α) → Option α} (I : σ → Prop) (μ : σ → Nat) (Q : α → Prop) {x : σ} (h : I x)
    (step : ∀ x, I x → (∃ y, Q y ∧ Round (fun n ag => f n x ag) y (fun _ => False)) ∨ (∃ x1, I x1 ∧ μ x1 < μ x ∧ ∀ y, Round (fun n ag => f n x ag) y (fun x' => x' = x1))) : ∃ y, Q y ∧ Evt (fun n => loopK (f n) n x) y := by
  have key : ∀ m x, I x → μ x ≤ m → ∃ y, Q y ∧ ∃ N, ∀ n, N ≤ n → ∀ k, m < k → loopK (f n) k x = some y := by
    intro m
    induction m with
    | zero =>
      intro x hx hm
      rcases step x hx with ⟨y, hy, hR⟩ | ⟨x1, _, h2, _⟩
      · rcases hR with ⟨N, hN⟩ | ⟨_, hF, _⟩
        · refine ⟨y, hy, N, fun n hn k hk => ?_⟩
          obtain ⟨k, rfl⟩ : ∃ j, k = j + 1 := ⟨k - 1, by omega⟩
          exact hN n hn _
        · exact hF.elim
      · omega
    | succ m ih =>
      intro x hx hm
      rcases step x hx with ⟨y, hy, hR⟩ | ⟨x1, h1, h2, hR⟩
      · rcases hR with ⟨N, hN⟩ | ⟨_, hF, _⟩
        · refine ⟨y, hy, N, fun n hn k hk => ?_⟩
          obtain ⟨k, rfl⟩ : ∃ j, k = j + 1 := ⟨k - 1, by omega⟩
          exact hN n hn _
        · exact hF.elim
      · obtain ⟨y, hy, M, hM⟩ := ih x1 h1 (by omega)
        rcases hR y with ⟨N, hN⟩ | ⟨x', rfl, N, hN⟩
        · refine ⟨y, hy, N, fun n hn k hk => ?_⟩
          obtain ⟨k, rfl⟩ : ∃ j, k = j + 1 := ⟨k - 1, by omega⟩
          exact hN n hn _
        · refine ⟨y, hy, N + M, fun n hn k hk => ?_⟩
          obtain ⟨k, rfl⟩ : ∃ j, k = j + 1 := ⟨k - 1, by omega⟩
          show f n x (loopK (f n) k) = _
          exact (hN n (by omega) _).trans (hM n (by omega) k (by omega))
  obtain ⟨y, hy, N, hN⟩ := key (μ x) x h (Nat.le_refl _)
  exact ⟨y, hy, N + μ x + 1, fun n hn => hN n (by omega) n (by omega)⟩
end Go.Fw
namespace Go.Cams
open Go Go.Fw
/-- A motion as it is drawn. -/
def MoSm (v : Ct) : Prop := (0 ≤ v.1 ∧ v.1 ≤ 3) ∧ (1 ≤ v.2.1 ∧ v.2.1 ≤ 9) ∧ (0 ≤ v.2.2.1 ∧ v.2.2.1 ≤ 59)
theorem sumM_sm : ∀ l : List Ct, (∀ v ∈ l, MoSm v) → (l.length : Int) ≤ sumM l ∧ sumM l ≤ 9 * l.length
  | [], _ => by simp [sumM]
  | v :: r, h => by
    have h1 := (h v (by simp)).2.1
    have h2 := sumM_sm r fun u hu => h u (by simp [hu])
    simp only [sumM, List.length_cons]
    omega
theorem last_split {L : List Ct} (h : 0 < L.length) : ∃ M v, L = M ++ [v] := by
  refine ⟨L.take (L.length - 1), L[L.length - 1]'(by omega), ?_⟩
  have := List.take_concat_get (l := L) (i := L.length - 1) (by omega)
  rw [show L.length - 1 + 1 = L.length by omega, List.take_length] at this
  rw [← List.concat_eq_append]
  exact this.symm
theorem lastT_snoc (M : List Ct) (v : Ct) : lastT (M ++ [v]) = v.2.2.1 := by
  unfold lastT idx
  rw [if_pos (by simp), show (((M ++ [v]).length : Int) - 1).toNat = M.length by simp]
  simp
structure SmPg (p : Prg) : Prop where
  rng : RngPg p
  ok : okPg p = true
  n : (p.2.1.length : Int) ≤ 5
  sum : 8 ≤ sumM p.2.1 ∧ sumM p.2.1 ≤ 45
  t : 0 ≤ p.1 ∧ p.1 ≤ 59
  el : ∀ v ∈ p.2.1, (0 ≤ v.1 ∧ v.1 ≤ 3) ∧ (1 ≤ v.2.1 ∧ v.2.1 ≤ 45) ∧ (0 ≤ v.2.2.1 ∧ v.2.2.1 ≤ 59)
theorem smPg {t : Int} {M : List Ct} {a b : Int} (t0 : 0 ≤ t) (t1 : t ≤ 29) (hM : ∀ v ∈ M, MoSm v) (hn : (M.length : Int) ≤ 4) (a0 : 0 ≤ a) (a1 : a ≤ 3) (b0 : 1 ≤ b) (b1 : b ≤ 45) (s0 : 8 ≤ sumM M + b) (s1 : sumM M + b ≤ 45) : SmPg (t, M ++ [(a, b, t, ())], ()) := by
  have hel : ∀ v ∈ M ++ [(a, b, t, ())], (0 ≤ v.1 ∧ v.1 ≤ 3) ∧ (1 ≤ v.2.1 ∧ v.2.1 ≤ 45) ∧ (0 ≤ v.2.2.1 ∧ v.2.2.1 ≤ 59) := fun v hv => by
    rcases List.mem_append.1 hv with hv | hv
    · have := hM v hv
      unfold MoSm at this
      omega
    · simp at hv; rw [hv]; simp only; omega
  have hl : ((M ++ [(a, b, t, ())]).length : Int) = M.length + 1 := by simp
  have hs : sumM (M ++ [(a, b, t, ())]) = sumM M + b := sumM_snoc _ _
  have hr : RngPg (t, M ++ [(a, b, t, ())], ()) := ⟨by simp only; omega, by simp only; omega, fun v hv => by have := hel v hv; omega⟩
  refine ⟨hr, ?_, by simp only; omega, by simp only; omega, by simp only; omega, hel⟩
  have hall : (M ++ [(a, b, t, ())]).all moOk = true := List.all_eq_true.2 fun v hv => by
    have h1 := hel v hv
    unfold moOk
    rw [hr.m.i1 hv, hr.m.i3 hv]
    simp only [Bool.and_eq_true, inR_iff, Bool.not_eq_true', decide_eq_false_iff_not]
    omega
  unfold okPg
  simp only
  rw [hall, wrap_id (x := t) (by omega) (by omega), lastT_snoc, hs]
  simp only [Bool.and_eq_true, inR_iff, beq_self_eq_true, and_true]
  omega
end Go.Cams
namespace Go.Fw
variable {α β σ : Type}
/-- A result of which something is told. -/
def EvtX (f : Nat → Option α) (Q : α → Prop) : Prop := ∃ y, Q y ∧ Evt f y
theorem EvtX.next {f g : Nat → Option α} {Q : α → Prop} (h : EvtX g Q) (e : ∀ n, f (n + 1) = g n) : EvtX f Q := by
  obtain ⟨y, hy, hE⟩ := h
  exact ⟨y, hy, hE.next e⟩
theorem EvtX.bind {f : Nat → Option β} {g : Nat → β → Option α} {x : β} {Q : α → Prop} (h : Evt f x) (k : EvtX (fun n => g n x) Q) : EvtX (fun n => (f n).bind (g n)) Q := by
  obtain ⟨y, hy, hE⟩ := k
  exact ⟨y, hy, Evt.bind h hE⟩
theorem EvtX.loop {f : Nat → σ → (σ → Option α) → Option α} (I : σ → Prop) (μ : σ → Nat) {Q : α → Prop} {x : σ} (h : I x)
    (step : ∀ x, I x → (∃ y, Q y ∧ Round (fun n ag => f n x ag) y (fun _ => False)) ∨ (∃ x1, I x1 ∧ μ x1 < μ x ∧ ∀ y, Round (fun n ag => f n x ag) y (fun x' => x' = x1))) : EvtX (fun n => loopK (f n) n x) Q := loop_ex I μ Q h step
end Go.Fw
namespace Go.Cams
open Go Go.Fw
/-- The lifts of a motion, and of several. -/
def seg (f : Int) (v : Ct) : List Int := (List.range v.2.1.toNat).map fun k => liftP f v.2.2.1 v.1 (k : Nat) v.2.1
def toF (f : Int) (l : List Ct) : Int := l.foldl (fun _ v => v.2.2.1) f
def proF (f : Int) : List Ct → List Int
  | [] => []
  | v :: r => seg f v ++ proF v.2.2.1 r
theorem toF_snoc (f : Int) (l : List Ct) (v : Ct) : toF f (l ++ [v]) = v.2.2.1 := by simp [toF]
theorem proF_snoc : ∀ (l : List Ct) (f : Int) (v : Ct), proF f (l ++ [v]) = proF f l ++ seg (toF f l) v
  | [], f, v => by simp [proF, toF]
  | u :: r, f, v => by
    rw [List.cons_append, proF, proF_snoc r, proF, List.append_assoc]
    rfl
theorem seg_len (f : Int) (v : Ct) : (seg f v).length = v.2.1.toNat := by simp [seg]
theorem seg_take (f : Int) (v : Ct) {i : Int} (h : 0 ≤ i) (h1 : i < v.2.1) : (seg f v).take (i + 1).toNat = (seg f v).take i.toNat ++ [liftP f v.2.2.1 v.1 i v.2.1] := by
  rw [show (i + 1).toNat = i.toNat + 1 by omega, List.take_add_one]
  congr 1
  unfold seg
  rw [List.getElem?_map, List.getElem?_range (by omega)]
  simp only [Option.map_some, Option.toList]
  rw [show ((i.toNat : Nat) : Int) = i by omega]
theorem seg_el {f : Int} {v : Ct} {lo hi : Int} (w0 : 0 ≤ v.1) (w1 : v.1 ≤ 3) (n0 : 1 ≤ v.2.1) (n1 : v.2.1 ≤ 360) (f0 : lo ≤ f) (f1 : f ≤ hi) (t0 : lo ≤ v.2.2.1) (t1 : v.2.2.1 ≤ hi) : ∀ x ∈ seg f v, lo ≤ x ∧ x ≤ hi := fun x hx => by
  unfold seg at hx
  obtain ⟨k, hk, rfl⟩ := List.mem_map.1 hx
  have := List.mem_range.1 hk
  exact liftP_in w0 w1 (by omega) (by omega) n0 n1 f0 f1 t0 t1
structure MoIn (lo hi : Int) (v : Ct) : Prop where
  w : 0 ≤ v.1 ∧ v.1 ≤ 3
  n : 1 ≤ v.2.1 ∧ v.2.1 ≤ 360
  t : lo ≤ v.2.2.1 ∧ v.2.2.1 ≤ hi
theorem toF_in {lo hi : Int} : ∀ (l : List Ct) {f : Int}, (∀ v ∈ l, MoIn lo hi v) → lo ≤ f → f ≤ hi → lo ≤ toF f l ∧ toF f l ≤ hi
  | [], _, _, f0, f1 => ⟨f0, f1⟩
  | v :: r, f, h, _, _ => by
    have := (h v (by simp)).t
    exact toF_in r (f := v.2.2.1) (fun u hu => h u (by simp [hu])) this.1 this.2
theorem proF_el {lo hi : Int} : ∀ (l : List Ct) {f : Int}, (∀ v ∈ l, MoIn lo hi v) → lo ≤ f → f ≤ hi → ∀ x ∈ proF f l, lo ≤ x ∧ x ≤ hi
  | [], _, _, _, _ => fun x hx => by cases hx
  | v :: r, f, h, f0, f1 => fun x hx => by
    have hv := h v (by simp)
    rcases List.mem_append.1 hx with hx | hx
    · exact seg_el hv.w.1 hv.w.2 hv.n.1 hv.n.2 f0 f1 hv.t.1 hv.t.2 x hx
    · exact proF_el r (fun u hu => h u (by simp [hu])) hv.t.1 hv.t.2 x hx
theorem proF_len : ∀ (l : List Ct) (f : Int), (∀ v ∈ l, 1 ≤ v.2.1) → ((proF f l).length : Int) = sumM l
  | [], _, _ => rfl
  | v :: r, f, h => by
    have h1 := h v (by simp)
    have h2 := proF_len r v.2.2.1 fun u hu => h u (by simp [hu])
    simp only [proF, sumM, List.length_append, seg_len]
    omega
theorem SmPg.ins {p : Prg} (S : SmPg p) : ∀ v ∈ p.2.1, MoIn 0 59 v := fun v hv => by
  have := S.el v hv
  exact ⟨this.1, ⟨this.2.1.1, by omega⟩, this.2.2⟩
/-- A cam as it is drawn. -/
structure SmC (c : List Int) : Prop where
  len : 8 ≤ (c.length : Int) ∧ (c.length : Int) ≤ 45
  el : ∀ v ∈ c, 0 ≤ v ∧ v ≤ 59
theorem SmPg.cam {p : Prg} (S : SmPg p) : SmC (proF p.1 p.2.1) := by
  have h := proF_len p.2.1 p.1 fun v hv => (S.ins v hv).n.1
  have := S.sum
  exact ⟨by omega, proF_el p.2.1 S.ins S.t.1 S.t.2⟩
theorem SmC.rng {c : List Int} (S : SmC c) : Rng c := rng_bd (by have := S.len; omega) fun v hv => by have := S.el v hv; omega
theorem SmC.ok {c : List Int} (S : SmC c) : okC c = true := by
  unfold okC
  have hl := S.len
  simp only [Bool.and_eq_true, inR_iff, List.all_eq_true]
  refine ⟨by omega, fun v hv => ?_⟩
  have := S.el v hv
  unfold okV
  rw [wrap_id (x := v) (by omega) (by omega), inR_iff]
  omega
end Go.Cams
namespace Go.Fw
variable {α β σ : Type}
theorem EvtX.no {c : Bool} {f g : Nat → Option α} {Q : α → Prop} (h : ¬ c = true) (k : EvtX g Q) : EvtX (fun n => if c = true then f n else g n) Q := by
  obtain ⟨y, hy, hE⟩ := k
  exact ⟨y, hy, Evt.no h hE⟩
theorem EvtX.yes {c : Bool} {f g : Nat → Option α} {Q : α → Prop} (h : c = true) (k : EvtX f Q) : EvtX (fun n => if c = true then f n else g n) Q := by
  obtain ⟨y, hy, hE⟩ := k
  exact ⟨y, hy, Evt.yes h hE⟩
theorem EvtX.chk {c : Bool} {f : Nat → Option α} {Q : α → Prop} (h : c = true) (k : EvtX f Q) : EvtX (fun n => chk c (f n)) Q := by
  obtain ⟨y, hy, hE⟩ := k
  exact ⟨y, hy, Evt.chk h hE⟩
end Go.Fw


/- Cutters as they are drawn, and which can replace which, in plain terms. -/
namespace Go.Cams
open Go Go.Fw
structure Ris (H : Nat) (h : Nat → Int) : Prop where
  zero : h 0 = 0
  up : ∀ a b, a ≤ b → b ≤ H → h a ≤ h b
  hi : ∀ a, a ≤ H → h a ≤ 1000
theorem Ris.lo {H : Nat} {h : Nat → Int} (R : Ris H h) {a : Nat} (ha : a ≤ H) : 0 ≤ h a := by
  have := R.up 0 a (by omega) ha
  rw [R.zero] at this; exact this
end Go.Cams


/- Which cutter can replace which, in plain terms. -/
namespace Go.Cams
open Go Go.Fw
/-- How high a cutter stands on another one. -/
def stTo (a b : List Int) (off : Nat) : Nat → Int
  | 0 => 0
  | i + 1 => max (stTo a b off i) (g b (off + i) - g a i)
def st (a b : List Int) (off : Nat) : Int := stTo a b off a.length
end Go.Cams
namespace Go.Cams
open Go Go.Fw
theorem byte_of {l : List Int} (h : Dom (.slc (.int .u8)) l) : ∀ v ∈ l, 0 ≤ v ∧ v ≤ 255 := fun v hv => by
  have h1 := h.2 v hv
  have h2 : IntKind.u8.min ≤ v := h1.1
  have h3 : v ≤ IntKind.u8.max := h1.2
  simp only [IntKind.min, IntKind.max, IntKind.signed, IntKind.bits] at h2 h3
  exact ⟨by simpa using h2, by simpa using h3⟩
end Go.Cams


/- A cam that is read as a program is made again by it, in plain terms. -/
namespace Go.Cams
open Go Go.Fw
theorem liftP_zero {f t w n : Int} (n0 : 1 ≤ n) (n1 : n ≤ 360) : liftP f t w 0 n = f := by
  have hd := shD_bd (w := w) n0 n1
  have hs : shN w 0 n = 0 := by
    unfold shN
    split
    · rw [if_pos (by omega)]; simp
    split
    · simp
    split
    · simp
    · rfl
  unfold liftP
  rw [hs, Int.mul_zero, nr_from (by omega), nr_zero (by omega)]
  omega
end Go.Cams
namespace Go.Cams
open Go Go.Fw
end Go.Cams
namespace Go.Cams
end Go.Cams


/- The lifts of a motion rise evenly, in plain terms. -/
namespace Go.Cams
open Go Go.Fw
end Go.Cams
namespace Go.Cams
open Go Go.Fw
/-- The greatest size of numbers, and its first place. -/
def grS (q : Int × Int × Int) (v : Int) : Int × Int × Int := if siz v > q.2.1 then (q.2.2, siz v, q.2.2 + 1) else (q.1, q.2.1, q.2.2 + 1)
def gr (l : List Int) : Int × Int × Int := l.foldl grS (0, -1, 0)
theorem gr_snoc (l : List Int) (v : Int) : gr (l ++ [v]) = grS (gr l) v := by simp [gr, List.foldl_append]
theorem grS_n (q : Int × Int × Int) (v : Int) : (grS q v).2.2 = q.2.2 + 1 := by unfold grS; split <;> rfl
theorem gr_n (l : List Int) : ∀ (q : Int × Int × Int), (l.foldl grS q).2.2 = q.2.2 + l.length := by
  induction l with
  | nil => intro q; simp
  | cons v l ih => intro q; rw [List.foldl_cons, ih, grS_n, List.length_cons]; omega
theorem gr_le : ∀ (l : List Int) (q : Int × Int × Int) (m : Int), ((l.foldl grS q).2.1 ≤ m) ↔ (q.2.1 ≤ m ∧ ∀ v ∈ l, siz v ≤ m)
  | [], q, m => by simp
  | v :: l, q, m => by
    rw [List.foldl_cons, gr_le l (grS q v) m]
    have : (grS q v).2.1 ≤ m ↔ q.2.1 ≤ m ∧ siz v ≤ m := by
      unfold grS
      split <;> simp only <;> omega
    rw [this]
    simp only [List.mem_cons, forall_eq_or_imp]
    exact ⟨fun h => ⟨h.1.1, h.1.2, h.2⟩, fun h => ⟨⟨h.1, h.2.1⟩, h.2.2⟩⟩
end Go.Cams


/- The least number of steps of a motion, its bends, and planned programs, in plain terms. -/
namespace Go.Cams
open Go Go.Fw
theorem siz_nn (v : Int) : 0 ≤ siz v := by unfold siz; split <;> omega
/-! ### Bends of a motion -/
/-! ### Planned programs -/
end Go.Cams


/- Drawn cams, lag and feet, in plain terms. -/
namespace Go.Cams
open Go Go.Fw
/-- A cam as it is drawn. -/
structure SmD (c : List Int) : Prop where
  len : 8 ≤ (c.length : Int) ∧ (c.length : Int) ≤ 36
  el : ∀ v ∈ c, 0 ≤ v ∧ v ≤ 60
theorem SmD.rng {c : List Int} (S : SmD c) : Rng c := rng_bd (by have := S.len; omega) fun v hv => by have := S.el v hv; omega
theorem okC_of {c : List Int} (h : 8 ≤ (c.length : Int) ∧ (c.length : Int) ≤ 360) (he : ∀ v ∈ c, 0 ≤ v ∧ v ≤ 10000) : okC c = true := by
  unfold okC
  simp only [Bool.and_eq_true, inR_iff, List.all_eq_true]
  exact ⟨h, fun v hv => by
    have := he v hv
    unfold okV
    rw [inR_iff, wrap_id (by omega) (by omega)]
    exact this⟩
theorem SmD.ok {c : List Int} (S : SmD c) : okC c = true := okC_of (by have := S.len; omega) fun v hv => by have := S.el v hv; omega
def grow (b : Int) (m : Nat) : Nat → List Int × Int → List Int × Int
  | 0, s => s
  | k + 1, s => if s.1.length < m then grow b m k (s.1 ++ [max 0 (min 60 (s.2 + b))], max 0 (min 60 (s.2 + b))) else s
/-! ### What lies beside -/
/-! ### Lag -/
theorem chgL_mem {c : List Int} {v : Int} (h : v ∈ chgL c) : ∃ x : Int, v = cAt c (x + 1) - cAt c x := by
  simp only [chgL, List.mem_map, List.mem_range] at h
  obtain ⟨i, _, rfl⟩ := h
  exact ⟨(i : Nat), rfl⟩
end Go.Cams
namespace Go.Cams
open Go Go.Fw
end Go.Cams


/- Cams that are made of cams, and runs, in plain terms. -/
namespace Go.Cams
open Go Go.Fw
theorem nr_mul (x z : Int) {t : Int} (ht : 0 < t) : nr (x * t + z) t = x + nr z t := by
  unfold nr
  rw [show 2 * (x * t + z) + t = (2 * z + t) + x * (2 * t) by grind, Int.add_mul_ediv_right _ _ (by omega)]
  omega
/-! ### Runs -/
def lenS : List Ct → Int
  | [] => 0
  | v :: r => v.2.2.1 + lenS r
def RunOk (c : List Int) : Int → List Ct → Prop
  | _, [] => True
  | s, v :: r => v.1 = kd c s ∧ v.2.1 = s % c.length ∧ 1 ≤ v.2.2.1 ∧ (∀ k : Int, 0 ≤ k → k < v.2.2.1 → kd c (s + k) = v.1) ∧ (r ≠ [] → kd c (s + v.2.2.1) ≠ v.1) ∧ RunOk c (s + v.2.2.1) r
structure RunAt (c : List Int) (s : Int) (L : List Ct) (i : Nat) (v : Ct) : Prop where
  kind : v.1 = kd c (s + lenS (L.take i))
  start : v.2.1 = (s + lenS (L.take i)) % c.length
  one : 1 ≤ v.2.2.1
  all : ∀ k : Int, 0 ≤ k → k < v.2.2.1 → kd c (s + lenS (L.take i) + k) = v.1
  next : i + 1 < L.length → kd c (s + lenS (L.take i) + v.2.2.1) ≠ v.1
theorem RunOk.at {c : List Int} : ∀ {L : List Ct} {s : Int} {i : Nat} {v : Ct}, RunOk c s L → L[i]? = some v → RunAt c s L i v
  | [], _, _, _, _, h => by simp at h
  | u :: r, s, 0, v, ⟨h1, h2, h3, h4, h5, _⟩, h => by
    simp at h
    subst h
    have e : s + lenS ((u :: r).take 0) = s := by simp [lenS]
    refine ⟨by rw [e]; exact h1, by rw [e]; exact h2, h3, by rw [e]; exact h4, fun hl => ?_⟩
    rw [e]
    exact h5 fun e => by rw [e] at hl; simp at hl
  | u :: r, s, i + 1, v, ⟨_, _, _, _, _, h6⟩, h => by
    simp at h
    have A := RunOk.at h6 h
    have e : s + lenS ((u :: r).take (i + 1)) = s + u.2.2.1 + lenS (r.take i) := by rw [List.take_succ_cons, lenS]; omega
    exact ⟨by rw [e]; exact A.kind, by rw [e]; exact A.start, A.one, by rw [e]; exact A.all, fun hl => by rw [e]; exact A.next (by simp at hl; omega)⟩
end Go.Cams


/- Plans of cuts leave what a cutter leaves at best, in plain terms. -/
namespace Go.Cams
open Go Go.Fw
/-- Cuts of one cutter alone. -/
structure OneK (m : Nat) (L : List Ct) : Prop where
  l : (L.length : Int) ≤ 400
  el : ∀ v ∈ L, (0 ≤ v.1 ∧ v.1 < (m : Int)) ∧ (0 ≤ v.2.1 ∧ v.2.1 ≤ 10000) ∧ v.2.2.1 = 0
theorem OneK.rng {m : Nat} {L : List Ct} (h : OneK m L) (hm : m ≤ 360) : RngC L := ⟨by have := h.l; omega, fun v hv => by have := h.el v hv; omega⟩
theorem OneK.cuts {m : Nat} {L : List Ct} (h : OneK m L) (hm : m ≤ 360) {k : List Int} (hk : okK k = true) : okCuts L [k] = true := by
  have hr := h.rng hm
  simp only [okCuts, okCt, Bool.and_eq_true, inR_iff, decide_eq_true_eq, List.all_eq_true]
  refine ⟨⟨by simp, by simp [okKs, hk]⟩, h.l, fun v hv => ?_⟩
  have := h.el v hv
  simp only [ctOk, Bool.and_eq_true, inR_iff]
  rw [hr.i1 hv, hr.i2 hv, hr.i3 hv, wrap_id (by simp) (by simp)]
  simp only [List.length_cons, List.length_nil]
  omega
theorem OneK.on {m : Nat} {L : List Ct} (h : OneK m L) (hm : m ≤ 360) : onCt L (m : Int) = true := by
  have hr := h.rng hm
  simp only [onCt, List.all_eq_true]
  intro v hv
  have := h.el v hv
  rw [hr.i1 hv]
  simp
  omega
theorem OneK.code {c : List Int} {L : List Ct} (h : OneK c.length L) (ok : okC c = true) {k : List Int} (hk : okK k = true) : gvCode c [k] L = 0 := by
  have := okC_len ok
  unfold gvCode
  rw [if_pos ok, if_pos (h.cuts (by omega) hk), if_pos (h.on (by omega))]
/-! ### Cuts without those that take nothing -/
end Go.Cams


/- Fillings keep within their bounds, least bounds are least, and what is reached proves it, in plain terms. -/
namespace Go.Cams
open Go Go.Fw
/-- The heights of a cam from two steps ahead of a stretch on. -/
def hN (c : List Int) (f lo : Int) (j : Nat) : Nat := (hgt c lo (f - 2 + j)).toNat
/-! ### What a filling is -/
/-! ### What is reached -/
end Go.Cams


/- What strokes a machine's stops draw: traced with a stroke at hand, and by lengthening the last one. -/
namespace Go.Cams
open Go Go.Fw
def lastM (s : Stk) : Mk := s.getLastD []
def trS (p : List Stk × Stk) (s : Stp) : List Stk × Stk :=
  if s.2.1 = false then (if p.2 = [] then p.1 else p.1 ++ [p.2], [])
  else if p.2.length = 60 then (p.1 ++ [p.2], [lastM p.2, s.1]) else (p.1, p.2 ++ [s.1])
structure TrOk (p : List Stk × Stk) (n : Nat) : Prop where
  len : p.1.length + (if p.2 = [] then 0 else 1) ≤ n
  el : ∀ s ∈ p.1, s.length ≤ 60 ∧ ∀ m ∈ s, OnP m
  now : p.2.length ≤ 60 ∧ ∀ m ∈ p.2, OnP m
theorem lastM_mem {s : Stk} (h : s ≠ []) : lastM s ∈ s := by
  unfold lastM
  rw [List.getLastD_eq_getLast?, List.getLast?_eq_some_getLast h]
  simp
theorem TrOk.step {p : List Stk × Stk} {n : Nat} {s : Stp} (h : TrOk p n) (hs : OnP s.1) : TrOk (trS p s) (n + 1) := by
  have h1 := h.len
  unfold trS
  split
  · split
    · rename_i e
      rw [if_pos e] at h1
      exact ⟨by simp; omega, h.el, by simp⟩
    · rename_i e
      rw [if_neg e] at h1
      refine ⟨by simp; omega, fun t ht => ?_, by simp⟩
      rcases List.mem_append.1 ht with ht | ht
      · exact h.el t ht
      · rw [List.mem_singleton.1 ht]; exact h.now
  · split
    · rename_i e
      have hne : p.2 ≠ [] := fun e' => by rw [e'] at e; simp at e
      rw [if_neg hne] at h1
      refine ⟨by simp; omega, fun t ht => ?_, by simp, fun m hm => ?_⟩
      · rcases List.mem_append.1 ht with ht | ht
        · exact h.el t ht
        · rw [List.mem_singleton.1 ht]; exact h.now
      · simp only [List.mem_cons, List.not_mem_nil, or_false] at hm
        rcases hm with rfl | rfl
        · exact h.now.2 _ (lastM_mem hne)
        · exact hs
    · rename_i e
      refine ⟨?_, h.el, by simp; have := h.now.1; omega, fun m hm => ?_⟩
      · rw [if_neg (by simp)]
        show p.1.length + 1 ≤ n + 1
        split at h1 <;> omega
      · rcases List.mem_append.1 hm with hm | hm
        · exact h.now.2 m hm
        · rw [List.mem_singleton.1 hm]; exact hs
theorem trS_nil (p : List Stk × Stk) (s : Stp) : (trS p s).2 = [] ↔ s.2.1 = false := by
  unfold trS
  split
  · rename_i h; simp [h]
  · rename_i h
    split <;> simp [h]
theorem getLastD_snoc {α : Type} (l : List α) (x d : α) : (l ++ [x]).getLastD d = x := by
  rw [List.getLastD_eq_getLast?]; simp
theorem onP_rng {m : Mk} (h : OnP m) : ∀ v ∈ m, -32768 ≤ v ∧ v ≤ 32767 := by
  have hx := h.x; have hy := h.y; have hl := h.len
  match m, hl with
  | [a, b], _ =>
    have hx : 0 ≤ a ∧ a ≤ 63 := hx
    have hy : 0 ≤ b ∧ b ≤ 63 := hy
    intro v hv
    simp only [List.mem_cons, List.not_mem_nil, or_false] at hv
    rcases hv with rfl | rfl <;> omega
end Go.Cams


/- What is drawn, as a set of marks: by stops, by strokes, by strokes that are traced, by stops that are planned. -/
namespace Go.Cams
open Go Go.Fw
theorem rev_ind {α : Type} {P : List α → Prop} (h0 : P []) (h1 : ∀ l a, P l → P (l ++ [a])) (l : List α) : P l := by
  rw [← List.reverse_reverse l]
  induction l.reverse with
  | nil => exact h0
  | cons a r ih => rw [List.reverse_cons]; exact h1 _ _ ih
/-! ### Plates of marks -/
def plt (L : List Mk) : List Int := tb 64 fun y => row fun x => decide ([(x : Int), (y : Int)] ∈ L)
theorem inkP_plate (L : List Mk) {m : Mk} (h : OnP m) : inkP (plt L) m = plt (L ++ [m]) := by
  have hx := h.x; have hy := h.y
  have hm := h.eq
  obtain ⟨x, ex⟩ : ∃ x : Nat, g m 0 = x := ⟨(g m 0).toNat, by omega⟩
  obtain ⟨y, ey⟩ : ∃ y : Nat, g m 1 = y := ⟨(g m 1).toNat, by omega⟩
  unfold inkP plt
  have hg : g (tb 64 fun y => row fun x => decide ([(x : Int), (y : Int)] ∈ L)) y = row fun x => decide ([(x : Int), (y : Int)] ∈ L) := by
    unfold g
    rw [List.getD_eq_getElem?_getD, tb_get (by omega)]; rfl
  rw [ex, ey, Int.toNat_natCast, hg, row_one (by omega), row_or, tb_set]
  refine tb_ext fun j hj => ?_
  rw [ex, ey] at hm
  by_cases e : j = y
  · subst e
    rw [if_pos rfl]
    refine row_congr fun z hz => ?_
    rw [hm]
    by_cases e2 : z = x
    · subst e2; simp
    · have : ([(z : Int), (j : Int)] : Mk) ≠ [(x : Int), (j : Int)] := fun h => e2 (by injection h with h _; omega)
      have h2 : ¬ (z : Int) = (x : Int) := by omega
      simp [e2, h2]
  · rw [if_neg e]
    refine row_congr fun z hz => ?_
    rw [hm]
    have h2 : ¬ (j : Int) = (y : Int) := by omega
    simp [h2]
theorem plate_nil : plt [] = List.replicate 64 0 := by
  unfold plt
  rw [tb_rep]
  refine tb_ext fun j hj => ?_
  unfold row
  rw [mkN_zero fun y hy => by simp]; rfl
theorem inkL_plate : ∀ (M L : List Mk), (∀ m ∈ M, OnP m) → inkL (plt L) M = plt (L ++ M)
  | [], L, _ => by simp [inkL]
  | m :: M, L, h => by
    show inkL (inkP (plt L) m) M = _
    rw [inkP_plate L (h m (by simp)), inkL_plate M (L ++ [m]) fun x hx => h x (by simp [hx])]
    simp
/-! ### Marks that stops draw -/
def onk (a : Stp) : List Mk := if a.2.1 = true then [a.1] else []
def sgm (a b : Stp) : List Mk := if a.2.1 = true ∧ b.2.1 = true then lineM a.1 b.1 else []
def drw : List Stp → List Mk
  | [] => []
  | [a] => onk a
  | a :: b :: r => onk a ++ (sgm a b ++ drw (b :: r))
theorem drw_snoc : ∀ (l : List Stp) (a b : Stp) (x : Mk), x ∈ drw (l ++ [a] ++ [b]) ↔ x ∈ drw (l ++ [a]) ∨ x ∈ sgm a b ∨ x ∈ onk b
  | [], a, b, x => by simp [drw]
  | [c], a, b, x => by
    simp only [drw, List.cons_append, List.nil_append, List.mem_append]
    constructor <;> intro h
    · rcases h with h | h | h | h | h <;> simp [h]
    · rcases h with (h | h | h) | h | h <;> simp [h]
  | c :: d :: l, a, b, x => by
    have ih := drw_snoc (d :: l) a b x
    simp only [List.cons_append] at ih
    simp only [List.cons_append, drw, List.mem_append, ih]
    constructor <;> intro h
    · rcases h with h | h | h | h | h <;> simp [h]
    · rcases h with (h | h | h) | h | h <;> simp [h]
theorem drw_mem : ∀ (l : List Stp) (s : Stp), s ∈ l → s.2.1 = true → s.1 ∈ drw l
  | [], _, h, _ => by simp at h
  | [a], s, h, hd => by
    simp only [List.mem_singleton] at h
    subst h
    simp [drw, onk, hd]
  | a :: b :: r, s, h, hd => by
    simp only [drw, List.mem_append]
    rcases List.mem_cons.1 h with h | h
    · subst h; simp [onk, hd]
    · exact .inr (.inr (drw_mem (b :: r) s h hd))
theorem drw_up (l : List Stp) {b : Stp} (hb : b.2.1 = false) (x : Mk) : x ∈ drw (l ++ [b]) ↔ x ∈ drw l := by
  rcases List.eq_nil_or_concat l with rfl | ⟨l, a, rfl⟩
  · simp [drw, onk, hb]
  · rw [List.concat_eq_append, drw_snoc]; simp [sgm, onk, hb]
theorem drw_ups (l : List Stp) : ∀ (m : List Stp), (∀ b ∈ m, b.2.1 = false) → ∀ x, x ∈ drw (l ++ m) ↔ x ∈ drw l := by
  intro m
  refine rev_ind (P := fun m => (∀ b ∈ m, b.2.1 = false) → ∀ x, x ∈ drw (l ++ m) ↔ x ∈ drw l) (fun _ x => by simp) (fun m b ih h x => ?_) m
  · rw [← List.append_assoc, drw_up _ (h b (by simp)), ih fun c hc => h c (by simp [hc])]
/-! ### Marks that strokes draw -/
def dwn (m : Mk) : Stp := (m, true, ())
def drs (s : Stk) : List Mk := drw (s.map dwn)
def drK (K : List Stk) : List Mk := K.flatMap drs
theorem drs_snoc (s : Stk) (a b : Mk) (x : Mk) : x ∈ drs (s ++ [a] ++ [b]) ↔ x ∈ drs (s ++ [a]) ∨ x ∈ lineM a b ∨ x = b := by
  unfold drs
  simp only [List.map_append, List.map_cons, List.map_nil]
  rw [drw_snoc]
  simp [sgm, onk, dwn]
theorem lastM_snoc (s : Stk) (a : Mk) : lastM (s ++ [a]) = a := by unfold lastM; rw [getLastD_snoc]
/-! ### Strokes that are traced draw what the stops draw -/
structure TrD (l : List Stp) (p : List Stk × Stk) : Prop where
  same : ∀ x, x ∈ drw l ↔ x ∈ drK p.1 ∨ x ∈ drs p.2
  last : ∀ k a, l = k ++ [a] → (p.2 ≠ [] → a.1 = lastM p.2 ∧ a.2.1 = true) ∧ (p.2 = [] → a.2.1 = false)
  nil : l = [] → p = ([], [])
theorem TrD.step {l : List Stp} {p : List Stk × Stk} (h : TrD l p) (s : Stp) : TrD (l ++ [s]) (trS p s) := by
  have hnil := trS_nil p s
  refine ⟨fun x => ?_, fun k a e => ?_, fun e => by simp at e⟩
  · cases hs : s.2.1 with
    | false =>
      rw [drw_up l hs, h.same]
      unfold trS
      rw [if_pos hs]
      by_cases e : p.2 = []
      · simp [e]
      · simp [e, drK, drs, drw]
    | true =>
      by_cases e : p.2 = []
      · have h1 : x ∈ drw (l ++ [s]) ↔ x ∈ drw l ∨ x = s.1 := by
          rcases List.eq_nil_or_concat l with rfl | ⟨k, a, rfl⟩
          · simp [drw, onk, hs]
          · rw [List.concat_eq_append, drw_snoc]
            have := (h.last k a (by simp)).2 e
            simp [sgm, onk, hs, this]
        rw [h1, h.same]
        unfold trS
        simp [hs, e, drs, drw, dwn, onk]
      · rcases List.eq_nil_or_concat l with rfl | ⟨k, a, rfl⟩
        · have := h.nil rfl
          rw [this] at e
          exact absurd rfl e
        rw [List.concat_eq_append] at *
        have ha := (h.last k a rfl).1 e
        rw [drw_snoc, h.same]
        obtain ⟨q, b, hq⟩ : ∃ q b, p.2 = q ++ [b] := by
          rcases List.eq_nil_or_concat p.2 with h | ⟨q, b, h⟩
          · exact absurd h e
          · exact ⟨q, b, by rw [h, List.concat_eq_append]⟩
        have hb : lastM p.2 = b := by rw [hq, lastM_snoc]
        have h2 : x ∈ sgm a s ↔ x ∈ lineM b s.1 := by simp [sgm, ha.2, hs, ha.1, hb]
        have h3 : x ∈ onk s ↔ x = s.1 := by simp [onk, hs]
        rw [h2, h3]
        have hbm : b ∈ drs p.2 := by
          rw [hq]
          exact drw_mem _ (dwn b) (by simp [dwn]) rfl
        unfold trS
        rw [if_neg (by simp [hs])]
        split
        · rw [hb]
          have h4 : x ∈ drs [b, s.1] ↔ x = b ∨ x ∈ lineM b s.1 ∨ x = s.1 := by
            have := drs_snoc [] b s.1 x
            simp only [List.nil_append, List.cons_append] at this
            rw [this]
            simp [drs, drw, onk, dwn]
          simp only [drK, List.flatMap_append, List.flatMap_cons, List.flatMap_nil, List.append_nil, List.mem_append, h4]
          constructor <;> intro h
          · rcases h with (h | h) | h | h <;> simp [h]
          · rcases h with (h | h) | h | h | h
            · simp [h]
            · simp [h]
            · subst h; simp [hbm]
            · simp [h]
            · simp [h]
        · rw [hq, drs_snoc]
          constructor <;> intro h
          · rcases h with (h | h) | h | h <;> simp [h]
          · rcases h with h | h | h | h <;> simp [h]
  · have e : l = k ∧ s = a := by
      have := List.append_inj' e rfl
      exact ⟨this.1, by simpa using this.2⟩
    obtain ⟨rfl, rfl⟩ := e
    refine ⟨fun h2 => ?_, fun h2 => hnil.1 h2⟩
    have hs : s.2.1 = true := by
      cases hs : s.2.1 with
      | true => rfl
      | false => exact absurd (hnil.2 hs) h2
    refine ⟨?_, hs⟩
    unfold trS
    rw [if_neg (by simp [hs])]
    split
    · rfl
    · rw [lastM_snoc]
end Go.Cams


/- Stops that are planned draw what the strokes draw, and are not far apart, in plain terms. -/
namespace Go.Cams
open Go Go.Fw
/-! ### Machines -/
/-- The marks that the first stops of a machine draw. -/
def mks (m : Mch) : Nat → List Mk
  | 0 => []
  | i + 1 => mks m i ++ (onk (stopM m i) ++ sgm (stopM m i) (stopM m ((i + 1) % m.1.length)))
theorem drawTo_mks (m : Mch) (hon : ∀ i, i < m.1.length → OnP (stopM m i).1) : ∀ i, i ≤ m.1.length → drawTo m i = plt (mks m i)
  | 0, _ => plate_nil.symm
  | i + 1, hi => by
    have h1 := hon i (by omega)
    have h2 := hon ((i + 1) % m.1.length) (Nat.mod_lt _ (by omega))
    have e : ∀ L, plt (mks m i ++ L) = plt (mks m i ++ L) := fun _ => rfl
    unfold drawTo mks
    rw [drawTo_mks m hon i (by omega)]
    by_cases c : (stopM m i).2.1 = true
    · rw [if_pos c]
      have o1 : onk (stopM m i) = [(stopM m i).1] := by simp [onk, c]
      by_cases c2 : (stopM m ((i + 1) % m.1.length)).2.1 = true
      · have o2 : sgm (stopM m i) (stopM m ((i + 1) % m.1.length)) = lineM (stopM m i).1 (stopM m ((i + 1) % m.1.length)).1 := by unfold sgm; rw [if_pos ⟨c, c2⟩]
        rw [if_pos c2, inkP_plate _ h1, inkL_plate _ _ (lineM_on h1 h2), o1, o2, List.append_assoc]
      · have o2 : sgm (stopM m i) (stopM m ((i + 1) % m.1.length)) = [] := by unfold sgm; rw [if_neg (fun e => c2 e.2)]
        rw [if_neg c2, inkP_plate _ h1, o1, o2, List.append_nil]
    · have o1 : onk (stopM m i) = [] := by simp [onk, c]
      have o2 : sgm (stopM m i) (stopM m ((i + 1) % m.1.length)) = [] := by unfold sgm; rw [if_neg (fun e => c e.1)]
      rw [if_neg c, o1, o2]; simp
/-! ### Plans -/
theorem bkJ_spec (L : List Mk) (i : Nat) : ∀ j, bkJ L i j = 0 ∨ lineM (gM L i) (gM L (bkJ L i j)) = (L.take (bkJ L i j + 1)).drop i
  | 0 => .inl rfl
  | j + 1 => by
    unfold bkJ
    split
    · rename_i h; exact .inr h
    · exact bkJ_spec L i j
theorem goF_down {most : Nat} (hm : 1 ≤ most) {a b : Mk} (ha : OnP a) (hb : OnP b) : ∀ (f i : Nat) (A : List Stp), i < (lineM a b).length → (lineM a b).length ≤ f + i → (∀ x, x ∈ drw (A ++ [dwn (gM (lineM a b) i)] ++ goF most true (lineM a b) f i) ↔ x ∈ drw (A ++ [dwn (gM (lineM a b) i)]) ∨ x ∈ (lineM a b).drop i) ∧ ∃ B, A ++ [dwn (gM (lineM a b) i)] ++ goF most true (lineM a b) f i = B ++ [dwn b]
  | 0, i, A, hi, hf => by omega
  | f + 1, i, A, hi, hf => by
    have hl := line_last ha hb
    unfold goF
    by_cases h : i < (lineM a b).length - 1
    · rw [if_pos h]
      have hj := toJ_bd hm true ha hb h
      obtain ⟨j, ej⟩ : ∃ j, j = toJ most true (lineM a b) i := ⟨_, rfl⟩
      rw [← ej] at hj ⊢
      have hline : lineM (gM (lineM a b) i) (gM (lineM a b) j) = ((lineM a b).take (j + 1)).drop i := by
        have := bkJ_spec (lineM a b) i (min (i + most) ((lineM a b).length - 1))
        have e : toJ most true (lineM a b) i = bkJ (lineM a b) i (min (i + most) ((lineM a b).length - 1)) := by unfold toJ; rw [if_pos rfl]
        rw [← e, ← ej] at this
        rcases this with h | h
        · omega
        · exact h
      obtain ⟨ih1, ih2⟩ := goF_down hm ha hb f j (A ++ [dwn (gM (lineM a b) i)]) (by omega) (by omega)
      have e : A ++ [dwn (gM (lineM a b) i)] ++ (gM (lineM a b) j, true, ()) :: goF most true (lineM a b) f j = A ++ [dwn (gM (lineM a b) i)] ++ [dwn (gM (lineM a b) j)] ++ goF most true (lineM a b) f j := by simp [dwn]
      rw [e]
      refine ⟨fun x => ?_, ih2⟩
      rw [ih1, drw_snoc]
      have h2 : x ∈ sgm (dwn (gM (lineM a b) i)) (dwn (gM (lineM a b) j)) ↔ x ∈ ((lineM a b).take (j + 1)).drop i := by
        unfold sgm
        rw [if_pos ⟨rfl, rfl⟩, ← hline]; rfl
      have h3 : x ∈ onk (dwn (gM (lineM a b) j)) ↔ x = gM (lineM a b) j := by simp [onk, dwn]
      rw [h2, h3]
      have h4 : (lineM a b).drop i = ((lineM a b).take (j + 1)).drop i ++ (lineM a b).drop (j + 1) := by
        conv => lhs; rw [← List.take_append_drop (j + 1) (lineM a b)]
        rw [List.drop_append_of_le_length (by simp; omega)]
      have h5 : x ∈ (lineM a b).drop j ↔ x = gM (lineM a b) j ∨ x ∈ (lineM a b).drop (j + 1) := by
        have hg := gM_idx (L := lineM a b) (i := (j : Int)) (by omega) (by omega)
        have := hg.drop
        rw [Int.toNat_natCast] at this
        rw [this, List.mem_cons]
        have : ((j : Int) + 1).toNat = j + 1 := by omega
        rw [this]
      have h6 : gM (lineM a b) j ∈ ((lineM a b).take (j + 1)).drop i := by
        have hg := (gM_idx (L := lineM a b) (i := (j : Int)) (by omega) (by omega)).get
        rw [Int.toNat_natCast] at hg
        have : (((lineM a b).take (j + 1)).drop i)[j - i]? = some (gM (lineM a b) j) := by
          rw [List.getElem?_drop, List.getElem?_take, if_pos (by omega), show i + (j - i) = j by omega, hg]
        exact List.mem_of_getElem? this
      rw [h5, h4, List.mem_append]
      constructor <;> intro h
      · rcases h with (h | h | h) | h | h
        · simp [h]
        · simp [h]
        · subst h; simp [h6]
        · subst h; simp [h6]
        · simp [h]
      · rcases h with h | h | h <;> simp [h]
    · rw [if_neg h]
      have hi2 : i = (lineM a b).length - 1 := by omega
      refine ⟨fun x => ?_, A, by rw [hi2, hl]; simp⟩
      have hd : (lineM a b).drop i = [gM (lineM a b) i] := by
        have hg := gM_idx (L := lineM a b) (i := (i : Int)) (by omega) (by omega)
        have := hg.drop
        rw [Int.toNat_natCast, show ((i : Int) + 1).toNat = i + 1 by omega, List.drop_of_length_le (i := i + 1) (by omega)] at this
        exact this
      rw [hd, List.append_nil, List.mem_singleton]
      constructor
      · exact .inl
      · rintro (h | rfl)
        · exact h
        · exact drw_mem _ (dwn (gM (lineM a b) i)) (by simp) rfl
theorem goF_ups (most : Nat) (L : List Mk) : ∀ f i, ∀ b ∈ goF most false L f i, b.2.1 = false
  | 0, _, b, h => by simp [goF] at h
  | f + 1, i, b, h => by
    unfold goF at h
    split at h
    · rcases List.mem_cons.1 h with rfl | h
      · rfl
      · exact goF_ups most L f _ b h
    · simp at h
/-- What is known of the stops that are planned so far: where the last is, and what they draw. -/
structure PlD (st : Mk × List Stp) (S : Mk → Prop) : Prop where
  at_ : OnP st.1
  draws : ∀ x, x ∈ drw st.2 ↔ S x
  last : ∀ k a, st.2 = k ++ [a] → a.1 = st.1
theorem gM_zero_line {a b : Mk} (ha : OnP a) (hb : OnP b) : gM (lineM a b) 0 = a := by
  by_cases h : far a b = 0
  · unfold lineM; rw [if_pos h]; rfl
  · obtain ⟨f0, _, _⟩ := far_bd ha hb
    rw [lineM_get h (by omega)]
    exact ptM_zero ha hb h
theorem goF_end {most : Nat} (hm : 1 ≤ most) (down : Bool) {a b : Mk} (ha : OnP a) (hb : OnP b) : ∀ (f i : Nat), i < (lineM a b).length → (lineM a b).length ≤ f + i → ∀ k v, goF most down (lineM a b) f i = k ++ [v] → v.1 = b
  | 0, i, hi, hf => by omega
  | f + 1, i, hi, hf => by
    intro k v e
    unfold goF at e
    split at e
    · rename_i h
      have hj := toJ_bd hm down ha hb h
      by_cases h2 : toJ most down (lineM a b) i < (lineM a b).length - 1
      · cases k with
        | nil =>
          exfalso
          have hne : goF most down (lineM a b) f (toJ most down (lineM a b) i) ≠ [] := by
            cases f with
            | zero => omega
            | succ f => unfold goF; rw [if_pos h2]; simp
          simp at e
          exact hne e.2
        | cons c k =>
          simp only [List.cons_append, List.cons.injEq] at e
          exact goF_end hm down ha hb f _ (by omega) (by omega) k v e.2
      · rw [goF_last most down (lineM a b) f h2] at e
        have e2 : k = [] ∧ (gM (lineM a b) (toJ most down (lineM a b) i), down, ()) = v := by
          have := List.append_inj' (s₁ := []) (t₁ := [(gM (lineM a b) (toJ most down (lineM a b) i), down, ())]) (s₂ := k) (t₂ := [v]) e rfl
          exact ⟨this.1.symm, by simpa using this.2⟩
        rw [← e2.2]
        have : toJ most down (lineM a b) i = (lineM a b).length - 1 := by omega
        show gM (lineM a b) (toJ most down (lineM a b) i) = b
        rw [this, line_last ha hb]
    · simp at e
theorem goL_nil {most : Nat} {down : Bool} {a b : Mk} (ha : OnP a) (hb : OnP b) (h : goL most down a b = []) : a = b := by
  have hl := lineM_length ha hb
  obtain ⟨f0, _, _⟩ := far_bd ha hb
  unfold goL goF at h
  split at h
  · simp at h
  · exact far_zero ha hb (by omega)
theorem PlD.up {most : Nat} (hm : 1 ≤ most) {st : Mk × List Stp} {S : Mk → Prop} (h : PlD st S) {b : Mk} (hb : OnP b) : PlD (b, st.2 ++ goL most false st.1 b) S := by
  have hl := lineM_length h.at_ hb
  obtain ⟨f0, f1, _⟩ := far_bd h.at_ hb
  refine ⟨hb, fun x => ?_, fun k v e => ?_⟩
  · show x ∈ drw (st.2 ++ goL most false st.1 b) ↔ _
    unfold goL
    rw [drw_ups _ _ (goF_ups most _ _ _), h.draws]
  · rcases List.eq_nil_or_concat (goL most false st.1 b) with h2 | ⟨q, w, h2⟩
    · have e : st.2 ++ goL most false st.1 b = k ++ [v] := e
      rw [h2, List.append_nil] at e
      rw [h.last k v e]
      exact goL_nil h.at_ hb h2
    · rw [List.concat_eq_append] at h2
      have e : st.2 ++ goL most false st.1 b = k ++ [v] := e
      rw [h2, ← List.append_assoc] at e
      have e2 : w = v := by have := (List.append_inj' e rfl).2; simpa using this
      rw [← e2]
      exact goF_end hm false h.at_ hb 64 0 (by omega) (by omega) q w h2
theorem PlD.put {st : Mk × List Stp} {S : Mk → Prop} (h : PlD st S) : PlD (st.1, st.2 ++ [dwn st.1]) (fun x => S x ∨ x = st.1) := by
  refine ⟨h.at_, fun x => ?_, fun k v e => ?_⟩
  · show x ∈ drw (st.2 ++ [dwn st.1]) ↔ _
    rcases List.eq_nil_or_concat st.2 with h2 | ⟨q, w, h2⟩
    · have := h.draws x
      rw [h2] at this ⊢
      rw [← this]
      simp [drw, onk, dwn]
    · rw [List.concat_eq_append] at h2
      have hw := h.last q w h2
      have := h.draws x
      rw [h2] at this ⊢
      rw [drw_snoc, this]
      have h3 : x ∈ sgm w (dwn st.1) → x = st.1 := by
        intro h
        unfold sgm at h
        split at h
        · rw [hw] at h
          have e : lineM st.1 (dwn st.1).1 = [st.1] := lineM_same
          rw [e] at h
          simpa using h
        · simp at h
      have h4 : x ∈ onk (dwn st.1) ↔ x = st.1 := by simp [onk, dwn]
      rw [h4]
      constructor <;> intro h
      · rcases h with h | h | h
        · simp [h]
        · simp [h3 h]
        · simp [h]
      · rcases h with h | h <;> simp [h]
  · have e : st.2 ++ [dwn st.1] = k ++ [v] := e
    have e2 : dwn st.1 = v := by have := (List.append_inj' e rfl).2; simpa using this
    rw [← e2]; rfl
theorem PlD.down {most : Nat} (hm : 1 ≤ most) {st : Mk × List Stp} {S : Mk → Prop} (h : PlD st S) (hd : ∃ k, st.2 = k ++ [dwn st.1]) {b : Mk} (hb : OnP b) : PlD (drF most st b) (fun x => S x ∨ x ∈ lineM st.1 b) ∧ ∃ k, (drF most st b).2 = k ++ [dwn (drF most st b).1] := by
  have hl := lineM_length h.at_ hb
  obtain ⟨f0, f1, _⟩ := far_bd h.at_ hb
  obtain ⟨k, hk⟩ := hd
  have h0 := gM_zero_line h.at_ hb
  obtain ⟨h1, B, h2⟩ := goF_down hm h.at_ hb 64 0 k (by omega) (by omega)
  rw [h0, ← hk] at h1 h2
  have e : (drF most st b).2 = st.2 ++ goF most true (lineM st.1 b) 64 0 := rfl
  refine ⟨⟨hb, fun x => ?_, fun q v ev => ?_⟩, B, by rw [e, h2]; rfl⟩
  · rw [e, h1, h.draws, List.drop_zero]
  · rw [e, h2] at ev
    have e2 : dwn b = v := by have := (List.append_inj' ev rfl).2; simpa using this
    rw [← e2]; rfl
end Go.Cams


/- Machines that are compiled of strokes, in plain terms. -/
namespace Go.Cams
open Go Go.Fw
/-! ### Near -/
def endM (a : Mk) : List Stp → Mk
  | [] => a
  | s :: r => endM s.1 r
def Ch (most : Int) (a : Mk) : List Stp → Prop
  | [] => True
  | s :: r => far a s.1 ≤ most ∧ Ch most s.1 r
theorem ch_append {most : Int} : ∀ (l r : List Stp) (a : Mk), Ch most a (l ++ r) ↔ Ch most a l ∧ Ch most (endM a l) r
  | [], r, a => by simp [Ch, endM]
  | s :: l, r, a => by simp [Ch, endM, ch_append l r s.1, and_assoc]
theorem endM_snoc : ∀ (l : List Stp) (a : Mk) (s : Stp), endM a (l ++ [s]) = s.1
  | [], a, s => rfl
  | c :: l, a, s => endM_snoc l c.1 s
theorem far_self (a : Mk) : far a a = 0 := by unfold far siz; simp
/-- Stops that are near one another, on the plate, and end at a place. -/
structure Near (most : Nat) (st : Mk × List Stp) : Prop where
  at_ : OnP st.1
  ch : Ch most o0 st.2
  end_ : endM o0 st.2 = st.1
  on : ∀ v ∈ st.2, OnP v.1
theorem Near.put {most : Nat} {st : Mk × List Stp} (h : Near most st) (d : Bool) : Near most (st.1, st.2 ++ [(st.1, d, ())]) := by
  refine ⟨h.at_, ?_, by rw [endM_snoc], fun v hv => ?_⟩
  · rw [ch_append, h.end_]
    exact ⟨h.ch, by rw [far_self]; omega, trivial⟩
  · rcases List.mem_append.1 hv with hv | hv
    · exact h.on v hv
    · rw [List.mem_singleton.1 hv]; exact h.at_
/-! ### The machine -/
end Go.Cams


/- Inner loops with untold results; drawn strokes. -/
namespace Go.Fw
variable {α β σ τ : Type}
end Go.Fw
namespace Go.Cams
open Go Go.Fw
/-- Strokes as they are drawn. -/
def SmT (K : List Stk) : Prop := K.length ≤ 4 ∧ ∀ s ∈ K, (1 ≤ s.length ∧ s.length ≤ 4) ∧ ∀ m ∈ s, OnP m
theorem SmT.good {K : List Stk} (h : SmT K) : ∀ s ∈ K, (1 ≤ (s.length : Int) ∧ (s.length : Int) ≤ 60) ∧ ∀ m ∈ s, OnP m := fun s hs => ⟨by have := (h.2 s hs).1; omega, (h.2 s hs).2⟩
theorem SmT.rng {K : List Stk} (h : SmT K) : RngT K := ⟨by have := h.1; omega, fun s hs => ⟨by have := (h.2 s hs).1; omega, fun m hm => ⟨((h.2 s hs).2 m hm).len, onP_rng ((h.2 s hs).2 m hm)⟩⟩⟩
/-- No move is longer than told. -/
theorem Ch.get {most : Int} : ∀ {l : List Stp} {a : Mk}, Ch most a l → ∀ {i : Nat} {s t : Stp}, l[i]? = some s → l[i + 1]? = some t → far s.1 t.1 ≤ most
  | [], _, _, i, s, t, h, _ => by simp at h
  | [c], _, _, i, s, t, _, h => by simp at h
  | c :: d :: r, a, h, 0, s, t, h1, h2 => by
    simp at h1 h2
    subst h1; subst h2
    exact h.2.1
  | c :: d :: r, a, h, i + 1, s, t, h1, h2 => Ch.get (l := d :: r) (a := c.1) h.2 (i := i) (by simpa using h1) (by simpa using h2)
theorem Ch.first {most : Int} {l : List Stp} {a : Mk} {t : Stp} (h : Ch most a l) (h2 : l[0]? = some t) : far a t.1 ≤ most := by
  cases l with
  | nil => simp at h2
  | cons c r => simp at h2; subst h2; exact h.1
end Go.Cams
namespace Go.Cams
open Go Go.Fw
end Go.Cams


/- Flat cutters and feet; springs that keep a follower on its cam; shafts that turn with the machine, in plain terms. -/
namespace Go.Cams
open Go Go.Fw
/-! ### Flat cutters -/
/-! ### Springs -/
/-! ### Shafts that turn with the machine -/
end Go.Cams


/- Slopes, bases and wear of cams, in plain terms. -/
namespace Go.Cams
open Go Go.Fw
/-! ### Tracks -/
/-! ### Landings and wear -/
end Go.Cams


/- Slopes and bases, in plain terms. -/
namespace Go.Cams
open Go Go.Fw
abbrev Slp : Type := Int × (Int × Unit)
/-! ### Bases -/
/-! ### Bounds -/
end Go.Cams
namespace Go.Cams
open Go Go.Fw
/-- A slope that can be compared. -/
structure SlB (s : Slp) : Prop where
  p : -1000000000 ≤ s.1 ∧ s.1 ≤ 1000000000
  q : 1 ≤ s.2.1 ∧ s.2.1 ≤ 1000000000
theorem SlB.siz {s : Slp} (h : SlB s) : 0 ≤ Cams.siz s.1 ∧ Cams.siz s.1 ≤ 1000000000 := by
  have := h.p
  unfold Cams.siz; split <;> omega
end Go.Cams
namespace Go.Cams
open Go Go.Fw
end Go.Cams


/- Followers: flown steps, the hardest landing, springs that let go. In plain terms. -/
namespace Go.Cams
open Go Go.Fw
end Go.Cams


/- Texts cut at a byte, numbers read. In plain terms. -/
namespace Go.Cams
open Go Go.Fw
theorem mod48 {d : Nat} (h : d < 10) : (UInt8.ofNat (48 + d)).toNat = 48 + d := by
  rw [UInt8.toNat_ofNat']; omega
/-- A numeral's bytes are digits. -/
theorem dec_dig : ∀ (u : Nat) (c : UInt8), c ∈ Lib.decDigits u → 48 ≤ c.toNat ∧ c.toNat ≤ 57 := by
  intro u
  induction u using Nat.strongRecOn with
  | ind u ih =>
    intro c hc
    by_cases h : u < 10
    · rw [dec_small h] at hc
      rw [List.mem_singleton.1 hc, mod48 h]; omega
    · rw [dec_big h] at hc
      rcases List.mem_append.1 hc with hc | hc
      · exact ih (u / 10) (by omega) c hc
      · rw [List.mem_singleton.1 hc, mod48 (Nat.mod_lt _ (by omega))]; omega
theorem dec_ne (u : Nat) : Lib.decDigits u ≠ [] := by
  by_cases h : u < 10
  · rw [dec_small h]; simp
  · rw [dec_big h]; simp
theorem parse_dec {M : Nat} (hM : M ≤ 18446744073709551615) : ∀ (u : Nat), u ≤ M → ∀ r, Lib.parseUintM M 0 (Lib.decDigits u ++ r) = Lib.parseUintM M u r := by
  intro u
  induction u using Nat.strongRecOn with
  | ind u ih =>
    intro hu r
    by_cases h : u < 10
    · rw [dec_small h]
      simp only [List.cons_append, List.nil_append, Lib.parseUintM, mod48 h]
      rw [if_pos (by omega), if_neg (by omega), if_neg (by omega), show 0 * 10 + (48 + u - 48) = u by omega]
    · rw [dec_big h, List.append_assoc, ih (u / 10) (by omega) (by omega)]
      have hm : u % 10 < 10 := Nat.mod_lt _ (by omega)
      simp only [List.cons_append, List.nil_append, Lib.parseUintM, mod48 hm]
      rw [if_pos (by omega), if_neg (by omega), if_neg (by omega), show u / 10 * 10 + (48 + u % 10 - 48) = u by omega]
theorem parse_int {u : Nat} (h : u ≤ 9223372036854775807) : Lib.parseIntB 64 (Lib.decDigits u) = .ok (u : Int) := by
  have hp := parse_dec (M := 2 ^ 64 - 1) (by decide) u (by omega) []
  rw [List.append_nil] at hp
  have hd := dec_dig u
  have hn := dec_ne u
  generalize Lib.decDigits u = l at hp hd hn
  cases l with
  | nil => exact absurd rfl hn
  | cons c r =>
    have hc := hd c (by simp)
    unfold Lib.parseIntB
    simp only
    rw [if_neg (by omega)]
    unfold Lib.parseUintB
    rw [if_neg hn, hp]
    simp only [Lib.parseUintM]
    rw [if_neg (by omega), if_neg (by omega), if_neg (by omega)]
/-! ### Texts cut at a byte -/
theorem ix_hit {c : UInt8} {w : List UInt8} (h : c ∉ w) (r : List UInt8) : Lib.index (w ++ c :: r) [c] = (w.length : Nat) := by
  refine Lib.index_first (by simp) ?_ fun j hj => ?_
  · unfold Lib.occAt
    rw [List.drop_left' rfl]
    simp
  · cases ho : Lib.occAt (w ++ c :: r) [c] j with
    | false => rfl
    | true =>
      have := Lib.occAt_head (c := c) (t := []) rfl ho
      rw [List.getElem?_append_left hj] at this
      exact absurd (List.mem_of_getElem? this) h
theorem ix_miss {c : UInt8} {w : List UInt8} (h : c ∉ w) : Lib.index w [c] = -1 := by
  refine Lib.index_none fun j hj => ?_
  cases ho : Lib.occAt w [c] j with
  | false => rfl
  | true => exact absurd (List.mem_of_getElem? (Lib.occAt_head (c := c) (t := []) rfl ho)) h
theorem split_join {c : UInt8} : ∀ (w : List UInt8) (ws : List (List UInt8)), c ∉ w → (∀ v ∈ ws, c ∉ v) → Lib.splitK [c] 0 (Lib.count (Lib.join (w :: ws) [c]) [c]) (Lib.join (w :: ws) [c]) = w :: ws
  | w, [], h, _ => by
    show Lib.splitK [c] 0 (Lib.count (Lib.join [w] [c]) [c]) (Lib.join [w] [c]) = [w]
    have e : Lib.join [w] [c] = w := by simp [Lib.join]
    rw [e, Lib.count_miss (ix_miss h)]
    rfl
  | w, v :: ws, h, hs => by
    have e : Lib.join (w :: v :: ws) [c] = w ++ c :: Lib.join (v :: ws) [c] := by simp [Lib.join]
    have ix := ix_hit h (Lib.join (v :: ws) [c])
    rw [e, Lib.count_hit (by simp) ix, Nat.add_comm 1]
    have hd : (w ++ c :: Lib.join (v :: ws) [c]).drop (w.length + 1) = Lib.join (v :: ws) [c] := by simp
    have ih := split_join v ws (hs v (by simp)) fun u hu => hs u (by simp [hu])
    rw [List.length_singleton, hd]
    unfold Lib.splitK
    rw [if_neg (by rw [ix]; simp), ix, Int.toNat_natCast, List.length_singleton, hd, ih]
    simp
theorem tx_map : ∀ {l : List ByteArray} {ws : List (List UInt8)}, l.map (·.data.toList) = ws → l = ws.map tx := by
  intro l ws h
  subst h
  rw [List.map_map]
  exact ((List.map_congr_left fun a _ => rfl).trans (List.map_id l)).symm
theorem split_tx {c : UInt8} {w : List UInt8} {ws : List (List UInt8)} (h : c ∉ w) (hs : ∀ v ∈ ws, c ∉ v) : Lib.splitB (tx [c]) 0 (Lib.countB (tx (Lib.join (w :: ws) [c])) (tx [c])) (tx (Lib.join (w :: ws) [c])) = (w :: ws).map tx :=
  tx_map ((Lib.splitB_data _ _ _ _).trans (split_join w ws h hs))
end Go.Cams


/- Tracks of followers: on the cam or above it. In plain terms. -/
namespace Go.Cams
open Go Go.Fw
end Go.Cams


/- Texts cut at each byte of a kind; numerals read strictly and with a check. In plain terms. -/
namespace Go.Cams
open Go Go.Fw
theorem tx_self (a : ByteArray) : tx a.data.toList = a := by cases a; rfl
theorem tx_toList (l : List UInt8) : (tx l).toList = l := by rw [ByteArray.toList_eq]; rfl
theorem tx_ext (l : List UInt8) (i j : Nat) : (tx l).extract i j = tx ((l.drop i).take (j - i)) := by
  rw [← tx_self ((tx l).extract i j)]
  congr 1
  exact Lib.extract_data _ _ _
theorem nums_tx (l : List UInt8) : numsOf (tx l) = l.map fun c => (c.toNat : Int) := rfl
theorem nums_at {l : List UInt8} {i : Nat} {c : UInt8} (h : l[i]? = some c) : idx (numsOf (tx l)) (i : Int) = some (c.toNat : Int) := by
  unfold idx
  rw [if_pos (by omega), nums_tx, Int.toNat_natCast, List.getElem?_map, h]
  rfl
/-! ### Words between bytes of a kind -/
def splitC (c : UInt8) : List UInt8 → List (List UInt8)
  | [] => [[]]
  | x :: l => if x = c then [] :: splitC c l else match splitC c l with
    | [] => [[x]]
    | w :: ws => (x :: w) :: ws
theorem splitC_ne (c : UInt8) (l : List UInt8) : ∃ w ws, splitC c l = w :: ws := by
  cases l with
  | nil => exact ⟨_, _, rfl⟩
  | cons x l =>
    unfold splitC
    split
    · exact ⟨_, _, rfl⟩
    · split
      · exact ⟨_, _, rfl⟩
      · exact ⟨_, _, rfl⟩
theorem splitC_miss {c : UInt8} : ∀ {w : List UInt8}, c ∉ w → splitC c w = [w]
  | [], _ => rfl
  | x :: w, h => by
    simp only [List.mem_cons, not_or] at h
    unfold splitC
    rw [if_neg (fun e => h.1 e.symm), splitC_miss h.2]
theorem splitC_hit {c : UInt8} : ∀ {w : List UInt8}, c ∉ w → ∀ r, splitC c (w ++ c :: r) = w :: splitC c r
  | [], _, r => by
    show splitC c (c :: r) = _
    rw [splitC, if_pos rfl]
  | x :: w, h, r => by
    simp only [List.mem_cons, not_or] at h
    show splitC c (x :: (w ++ c :: r)) = _
    rw [splitC, if_neg (fun e => h.1 e.symm), splitC_hit h.2 r]
theorem splitC_spec (c : UInt8) : ∀ l : List UInt8, Lib.join (splitC c l) [c] = l ∧ ∀ w ∈ splitC c l, c ∉ w
  | [] => by simp [splitC, Lib.join]
  | x :: l => by
    obtain ⟨h1, h2⟩ := splitC_spec c l
    obtain ⟨w, ws, e⟩ := splitC_ne c l
    unfold splitC
    rw [e] at h1 h2 ⊢
    split
    · rename_i hx
      subst hx
      refine ⟨?_, ?_⟩
      · show Lib.join ([] :: w :: ws) [x] = _
        have : Lib.join ([] :: w :: ws) [x] = x :: Lib.join (w :: ws) [x] := by simp [Lib.join]
        rw [this, h1]
      · intro v hv
        rcases List.mem_cons.1 hv with rfl | hv
        · simp
        · exact h2 v hv
    · rename_i hx
      refine ⟨?_, ?_⟩
      · cases ws with
        | nil =>
          have h0 : Lib.join [w] [c] = w := by simp [Lib.join]
          rw [h0] at h1
          simp [Lib.join, h1]
        | cons v vs =>
          have h0 : Lib.join (w :: v :: vs) [c] = w ++ c :: Lib.join (v :: vs) [c] := by simp [Lib.join]
          have h3 : Lib.join ((x :: w) :: v :: vs) [c] = x :: (w ++ c :: Lib.join (v :: vs) [c]) := by simp [Lib.join]
          rw [h3, ← h0, h1]
      · intro v hv
        rcases List.mem_cons.1 hv with rfl | hv
        · intro hm
          rcases List.mem_cons.1 hm with e | hm
          · exact hx e.symm
          · exact h2 w (by simp) hm
        · exact h2 v (by simp [hv])
theorem splitC_join {c : UInt8} : ∀ (w : List UInt8) (ws : List (List UInt8)), c ∉ w → (∀ v ∈ ws, c ∉ v) → splitC c (Lib.join (w :: ws) [c]) = w :: ws
  | w, [], h, _ => by
    have e : Lib.join [w] [c] = w := by simp [Lib.join]
    rw [e, splitC_miss h]
  | w, v :: ws, h, hs => by
    have e : Lib.join (w :: v :: ws) [c] = w ++ c :: Lib.join (v :: ws) [c] := by simp [Lib.join]
    rw [e, splitC_hit h, splitC_join v ws (hs v (by simp)) fun u hu => hs u (by simp [hu])]
theorem splitC_len (c : UInt8) : ∀ l : List UInt8, (splitC c l).length ≤ l.length + 1
  | [] => by simp [splitC]
  | x :: l => by
    have := splitC_len c l
    unfold splitC
    split
    · simp; omega
    · split
      · simp
      · rename_i e
        rw [e] at this
        simp at this ⊢; omega
theorem splitC_wlen {c : UInt8} : ∀ {l : List UInt8}, ∀ w ∈ splitC c l, w.length ≤ l.length
  | [], w, h => by simp [splitC] at h; simp [h]
  | x :: l, w, h => by
    unfold splitC at h
    split at h
    · rcases List.mem_cons.1 h with rfl | h
      · simp
      · have := splitC_wlen w h; simp; omega
    · obtain ⟨v, vs, e⟩ := splitC_ne c l
      rw [e] at h
      simp only [List.mem_cons] at h
      rcases h with rfl | h
      · have := splitC_wlen (l := l) v (by rw [e]; simp); simp; omega
      · have := splitC_wlen (l := l) w (by rw [e]; simp [h]); simp; omega
theorem split_all (c : UInt8) (l : List UInt8) : Lib.splitB (tx [c]) 0 (Lib.countB (tx l) (tx [c])) (tx l) = (splitC c l).map tx := by
  obtain ⟨h1, h2⟩ := splitC_spec c l
  obtain ⟨w, ws, e⟩ := splitC_ne c l
  have := split_tx (c := c) (w := w) (ws := ws) (h2 w (by rw [e]; simp)) fun v hv => h2 v (by rw [e]; simp [hv])
  rw [← e, h1] at this
  exact this
theorem cut_hit {c : UInt8} {w : List UInt8} (h : c ∉ w) (r : List UInt8) : Lib.cut (w ++ c :: r) [c] = (w, r, true) := by
  have ix := ix_hit h r
  unfold Lib.cut
  rw [if_pos (by omega), ix, Int.toNat_natCast]
  simp
/-! ### Numerals -/
def isDg (c : UInt8) : Bool := decide (48 ≤ c.toNat) && decide (c.toNat ≤ 57)
theorem isDg_iff {c : UInt8} : isDg c = true ↔ 48 ≤ c.toNat ∧ c.toNat ≤ 57 := by simp [isDg]
def numV : List UInt8 → Nat → Nat
  | [], n => n
  | c :: l, n => numV l (10 * n + (c.toNat - 48))
theorem numV_app : ∀ (a b : List UInt8) (n : Nat), numV (a ++ b) n = numV b (numV a n)
  | [], _, _ => rfl
  | _ :: a, b, _ => numV_app a b _
theorem numV_dec : ∀ (u : Nat), numV (Lib.decDigits u) 0 = u := by
  intro u
  induction u using Nat.strongRecOn with
  | ind u ih =>
    by_cases h : u < 10
    · rw [dec_small h]
      simp only [numV, mod48 h]; omega
    · rw [dec_big h, numV_app, ih (u / 10) (by omega)]
      have hm : u % 10 < 10 := Nat.mod_lt _ (by omega)
      simp only [numV, mod48 hm]; omega
theorem numV_lt : ∀ (l : List UInt8) (n k : Nat), (∀ c ∈ l, c.toNat ≤ 57) → n < 10 ^ k → numV l n < 10 ^ (k + l.length)
  | [], n, k, _, h => by simpa [numV] using h
  | c :: l, n, k, hc, h => by
    have h1 := hc c (by simp)
    have := numV_lt l (10 * n + (c.toNat - 48)) (k + 1) (fun d hd => hc d (by simp [hd])) (by rw [Nat.pow_succ]; omega)
    show numV l _ < _
    rw [show k + (c :: l).length = k + 1 + l.length by simp; omega]
    exact this
/-- Digits that do not begin with 0 spell their number's numeral. -/
theorem dec_numV : ∀ (l : List UInt8) (u : Nat), 1 ≤ u → (∀ c ∈ l, isDg c = true) → Lib.decDigits (numV l u) = Lib.decDigits u ++ l
  | [], u, _, _ => by simp [numV]
  | c :: l, u, hu, hd => by
    obtain ⟨h1, h2⟩ := isDg_iff.1 (hd c (by simp))
    have ih := dec_numV l (10 * u + (c.toNat - 48)) (by omega) fun d hd' => hd d (by simp [hd'])
    show Lib.decDigits (numV l _) = _
    rw [ih, dec_big (u := 10 * u + (c.toNat - 48)) (by omega), show (10 * u + (c.toNat - 48)) / 10 = u by omega, show 48 + (10 * u + (c.toNat - 48)) % 10 = c.toNat by omega, UInt8.ofNat_toNat]
    simp
theorem dec_of {l : List UInt8} (h0 : l ≠ []) (h1 : l.head? = some 48 → l.length ≤ 1) (hd : ∀ c ∈ l, isDg c = true) : Lib.decDigits (numV l 0) = l := by
  cases l with
  | nil => exact absurd rfl h0
  | cons c l =>
    obtain ⟨e1, e2⟩ := isDg_iff.1 (hd c (by simp))
    by_cases hc : c = 48
    · subst hc
      have := h1 rfl
      have : l = [] := List.length_eq_zero_iff.1 (by rw [List.length_cons] at this; omega)
      subst this
      rw [show numV [48] 0 = 0 from rfl, dec_small (by omega)]
      rfl
    · have hne : c.toNat ≠ 48 := fun e => hc (UInt8.toNat_inj.1 e)
      show Lib.decDigits (numV l (10 * 0 + (c.toNat - 48))) = _
      rw [dec_numV l _ (by omega) fun d hd' => hd d (by simp [hd']), dec_small (by omega), show 48 + (10 * 0 + (c.toNat - 48)) = c.toNat by omega, UInt8.ofNat_toNat]
      rfl
theorem dec_head : ∀ (u : Nat), (Lib.decDigits u).head? = some 48 → u = 0 := by
  intro u
  induction u using Nat.strongRecOn with
  | ind u ih =>
    intro h
    by_cases h10 : u < 10
    · rw [dec_small h10] at h
      simp only [List.head?_cons, Option.some.injEq] at h
      have := mod48 h10
      rw [h] at this
      have : (48 : UInt8).toNat = 48 := rfl
      omega
    · rw [dec_big h10, List.head?_append] at h
      cases hh : (Lib.decDigits (u / 10)).head? with
      | none => exact absurd (List.head?_eq_none_iff.1 hh) (dec_ne _)
      | some c =>
        rw [hh] at h
        simp at h
        subst h
        have := ih (u / 10) (by omega) hh
        omega
theorem dec_lenK : ∀ (k u : Nat), u < 10 ^ (k + 1) → (Lib.decDigits u).length ≤ k + 1
  | 0, u, h => by rw [dec_small (by simpa using h)]; simp
  | k + 1, u, h => by
    by_cases h10 : u < 10
    · rw [dec_small h10]; simp
    · rw [dec_big h10, List.length_append]
      have := dec_lenK k (u / 10) (by rw [Nat.pow_succ] at h; omega)
      simp; omega
/-- A number of at most nine digits, without a sign. -/
def numR (l : List UInt8) : Int × Bool :=
  if l ≠ [] ∧ l.length ≤ 9 ∧ (l.head? = some 48 → l.length ≤ 1) ∧ ∀ c ∈ l, isDg c = true then ((numV l 0 : Nat), true) else (0, false)
theorem numR_dec {u : Nat} (h : u < 1000000000) : numR (Lib.decDigits u) = ((u : Int), true) := by
  unfold numR
  rw [if_pos ⟨dec_ne u, dec_lenK 8 u (by simpa using h), fun e => by rw [dec_head u e, dec_small (by omega)]; simp, fun c hc => isDg_iff.2 (dec_dig u c hc)⟩, numV_dec]
theorem numR_ok {l : List UInt8} (h : (numR l).2 = true) : ∃ u : Nat, u < 1000000000 ∧ l = Lib.decDigits u ∧ (numR l).1 = u := by
  unfold numR at h ⊢
  split at h
  · rename_i hc
    rw [if_pos hc]
    obtain ⟨h0, h1, h2, h3⟩ := hc
    refine ⟨numV l 0, ?_, (dec_of h0 h2 h3).symm, rfl⟩
    have := numV_lt l 0 0 (fun c hc => (isDg_iff.1 (h3 c hc)).2) (by decide)
    have h9 : 10 ^ (0 + l.length) ≤ 10 ^ 9 := Nat.pow_le_pow_right (by omega) (by omega)
    omega
  · cases h
/-- A number that is written as it is read. -/
def numI (l : List UInt8) : Int × Bool := match Lib.parseIntB 64 l with
  | .ok v => (v, Lib.itoa v == l)
  | .range => (Lib.intSat 64 l, false)
  | _ => (0, false)
theorem parse_bd {l : List UInt8} {v : Int} (h : Lib.parseIntB 64 l = .ok v) : -9223372036854775808 ≤ v ∧ v ≤ 9223372036854775807 := by
  unfold Lib.parseIntB at h
  cases l with
  | nil => cases h
  | cons c r =>
    simp only at h
    split at h
    · cases h
    · cases h
    · split at h
      · cases h
      · split at h
        · cases h
        · rename_i h1 h2
          injection h with h
          simp only [Nat.reducePow, Nat.reduceSub] at h1 h2
          split at h
          · rename_i hn
            have : ¬ 9223372036854775808 < _ := fun e => h2 ⟨hn, e⟩
            omega
          · rename_i hn
            have : ¬ 9223372036854775808 ≤ _ := fun e => h1 ⟨hn, e⟩
            omega
theorem numI_bd (l : List UInt8) : -9223372036854775808 ≤ (numI l).1 ∧ (numI l).1 ≤ 9223372036854775807 := by
  unfold numI
  rcases h : Lib.parseIntB 64 l with v | _ | _
  · exact parse_bd h
  · exact ⟨show -9223372036854775808 ≤ (0 : Int) by decide, show (0 : Int) ≤ 9223372036854775807 by decide⟩
  · show _ ≤ Lib.intSat 64 l ∧ Lib.intSat 64 l ≤ _
    unfold Lib.intSat
    split <;> simp
theorem numI_dec {u : Nat} (h : u ≤ 9223372036854775807) : numI (Lib.decDigits u) = ((u : Int), true) := by
  unfold numI
  rw [parse_int h]
  simp [Lib.itoa, show ¬ ((u : Int) < 0) by omega]
end Go.Cams
namespace Go.Cams
open Go Go.Fw
end Go.Cams


/- Programs read from their texts. In plain terms. -/
namespace Go.Cams
open Go Go.Fw
def lawOf (c : UInt8) : Int := Lib.indexByte [101, 115, 99, 102] c
theorem lawOf_cases (c : UInt8) : lawOf c = if c = 101 then 0 else if c = 115 then 1 else if c = 99 then 2 else if c = 102 then 3 else -1 := by
  unfold lawOf
  simp only [Lib.indexByte]
  by_cases h1 : c = 101
  · subst h1; rfl
  by_cases h2 : c = 115
  · subst h2; rfl
  by_cases h3 : c = 99
  · subst h3; rfl
  by_cases h4 : c = 102
  · subst h4; rfl
  simp [h1, h2, h3, h4, Ne.symm h1, Ne.symm h2, Ne.symm h3, Ne.symm h4, beq_iff_eq]
theorem lawOf_bd (c : UInt8) : -1 ≤ lawOf c ∧ lawOf c ≤ 3 := by rw [lawOf_cases]; repeat' split <;> try omega
theorem lawOf_ltr {k : Int} (h0 : 0 ≤ k) (h3 : k ≤ 3) : lawOf (ltr k) = k := by
  have : k = 0 ∨ k = 1 ∨ k = 2 ∨ k = 3 := by omega
  rcases this with rfl | rfl | rfl | rfl <;> rfl
theorem ltr_lawOf {c : UInt8} (h : 0 ≤ lawOf c) : ltr (lawOf c) = c := by
  rw [lawOf_cases] at h ⊢
  repeat' split
  all_goals first | (subst_vars; rfl) | skip
  rw [if_neg (by assumption), if_neg (by assumption), if_neg (by assumption), if_neg (by assumption)] at h
  omega
/-- A motion read strictly. -/
def srMo (w : List UInt8) : Option Ct := match w with
  | [] => none
  | k :: r => if r.length < 3 then none else if lawOf k < 0 then none else match splitC 58 r with
    | [a, b] => if (numR a).2 = true ∧ (numR b).2 = true ∧ (numR a).1 ≤ 360 ∧ (numR b).1 ≤ 10000 then some (lawOf k, (numR a).1, (numR b).1, ()) else none
    | _ => none
/-- .. and as far as it goes. -/
def irMo (w : List UInt8) : Option Ct := match w with
  | [] => none
  | k :: r => if inR (numI (Lib.cut r [58]).2.1).1 0 10000 = true ∧ inR (numI (Lib.cut r [58]).1).1 1 360 = true then some (lawOf k, (numI (Lib.cut r [58]).1).1, (numI (Lib.cut r [58]).2.1).1, ()) else none
theorem dec_no' {c : UInt8} (h : c.toNat < 48 ∨ 57 < c.toNat) (u : Nat) : c ∉ Lib.decDigits u := fun hm => by
  have := dec_dig u c hm
  omega
theorem srMo_ok {w : List UInt8} {m : Ct} (h : srMo w = some m) : w = motW m ∧ 0 ≤ m.1 ∧ m.1 ≤ 3 ∧ 0 ≤ m.2.1 ∧ m.2.1 ≤ 360 ∧ 0 ≤ m.2.2.1 ∧ m.2.2.1 ≤ 10000 := by
  unfold srMo at h
  split at h
  · cases h
  · rename_i k r
    split at h
    · cases h
    · split at h
      · cases h
      rename_i hl hk
      split at h
      · rename_i a b e
        split at h
        · rename_i hc
          obtain ⟨h1, h2, h3, h4⟩ := hc
          injection h with h
          subst h
          obtain ⟨u, hu, ea, eu⟩ := numR_ok h1
          obtain ⟨v, hv, eb, ev⟩ := numR_ok h2
          have hj := (splitC_spec 58 r).1
          rw [e] at hj
          have hb := lawOf_bd k
          refine ⟨?_, by show 0 ≤ lawOf k; omega, hb.2, by show 0 ≤ (numR a).1; omega, h3, by show 0 ≤ (numR b).1; omega, h4⟩
          show _ = ltr (lawOf k) :: (Lib.decDigits (numR a).1.toNat ++ 58 :: Lib.decDigits (numR b).1.toNat)
          rw [ltr_lawOf (by omega), eu, ev, Int.toNat_natCast, Int.toNat_natCast, ← ea, ← eb, ← hj]
          simp [Lib.join]
        · cases h
      · cases h
theorem motW_no (m : Ct) : (32 : UInt8) ∉ motW m := by
  unfold motW
  intro h
  rcases List.mem_cons.1 h with h | h
  · unfold ltr at h
    revert h
    repeat' split
    all_goals decide
  · rcases List.mem_append.1 h with h | h
    · exact dec_no' (by decide) _ h
    · rcases List.mem_cons.1 h with h | h
      · revert h; decide
      · exact dec_no' (by decide) _ h
theorem srMo_motW {m : Ct} (h1 : 0 ≤ m.1 ∧ m.1 ≤ 3) (h2 : 0 ≤ m.2.1 ∧ m.2.1 ≤ 360) (h3 : 0 ≤ m.2.2.1 ∧ m.2.2.1 ≤ 10000) : srMo (motW m) = some m := by
  obtain ⟨k, s, t, u⟩ := m
  obtain ⟨s, rfl⟩ := Int.eq_ofNat_of_zero_le h2.1
  obtain ⟨t, rfl⟩ := Int.eq_ofNat_of_zero_le h3.1
  have h2 := h2.2
  have h3 := h3.2
  simp only at h1 h2 h3
  show srMo (ltr k :: (Lib.decDigits s ++ 58 :: Lib.decDigits t)) = _
  unfold srMo
  dsimp only
  have l1 : 1 ≤ (Lib.decDigits s).length := List.length_pos_iff.2 (dec_ne s)
  have l2 : 1 ≤ (Lib.decDigits t).length := List.length_pos_iff.2 (dec_ne t)
  rw [if_neg (by simp; omega), lawOf_ltr h1.1 h1.2, if_neg (by omega), splitC_hit (dec_no' (by decide) s), splitC_miss (dec_no' (by decide) t)]
  simp only [numR_dec (u := s) (by omega), numR_dec (u := t) (by omega)]
  rw [if_pos ⟨trivial, trivial, by omega, by omega⟩]
theorem irMo_motW {m : Ct} (h1 : 0 ≤ m.1 ∧ m.1 ≤ 3) (h2 : 1 ≤ m.2.1 ∧ m.2.1 ≤ 360) (h3 : 0 ≤ m.2.2.1 ∧ m.2.2.1 ≤ 10000) : irMo (motW m) = some m := by
  obtain ⟨k, s, t, u⟩ := m
  obtain ⟨s, rfl⟩ := Int.eq_ofNat_of_zero_le (show 0 ≤ s by have := h2.1; simp only at this; omega)
  obtain ⟨t, rfl⟩ := Int.eq_ofNat_of_zero_le h3.1
  simp only at h1 h2 h3
  show irMo (ltr k :: (Lib.decDigits s ++ 58 :: Lib.decDigits t)) = _
  unfold irMo
  dsimp only
  rw [cut_hit (dec_no' (by decide) s)]
  simp only [numI_dec (u := s) (by omega), numI_dec (u := t) (by omega)]
  rw [if_pos ⟨inR_iff.2 ⟨by omega, by omega⟩, inR_iff.2 ⟨by omega, by omega⟩⟩, lawOf_ltr h1.1 h1.2]
def mapO {α β : Type} (f : α → Option β) : List α → Option (List β)
  | [] => some []
  | x :: l => match f x, mapO f l with
    | some y, some r => some (y :: r)
    | _, _ => none
theorem mapO_map {α β : Type} {f : α → Option β} {g : β → α} : ∀ {l : List β}, (∀ y ∈ l, f (g y) = some y) → mapO f (l.map g) = some l
  | [], _ => rfl
  | y :: l, h => by
    have h1 := h y (by simp)
    have h2 := mapO_map (l := l) fun z hz => h z (by simp [hz])
    simp [mapO, h1, h2]
theorem mapO_el {α β : Type} {f : α → Option β} : ∀ {l : List α} {r : List β}, mapO f l = some r → r.length = l.length ∧ (∀ y ∈ r, ∃ x ∈ l, f x = some y)
  | [], r, h => by injection h with h; subst h; simp
  | x :: l, r, h => by
    unfold mapO at h
    split at h
    · rename_i y r' h1 h2
      injection h with h
      subst h
      obtain ⟨e1, e2⟩ := mapO_el h2
      refine ⟨by simp [e1], fun z hz => ?_⟩
      rcases List.mem_cons.1 hz with rfl | hz
      · exact ⟨x, by simp, h1⟩
      · obtain ⟨a, ha, e⟩ := e2 z hz
        exact ⟨a, by simp [ha], e⟩
    · cases h
theorem mapO_back {α β : Type} {f : α → Option β} {g : β → α} (hg : ∀ x y, f x = some y → x = g y) : ∀ {l : List α} {r : List β}, mapO f l = some r → l = r.map g
  | [], r, h => by injection h with h; subst h; rfl
  | x :: l, r, h => by
    unfold mapO at h
    split at h
    · rename_i y r' h1 h2
      injection h with h
      subst h
      rw [List.map_cons, ← hg _ _ h1, ← mapO_back hg h2]
    · cases h
def pgT (p : Prg) : List UInt8 := Lib.join (pgW p.1 p.2.1) [32]
def srPg (l : List UInt8) : Option Prg := match splitC 32 l with
  | w :: ws => if (numR w).2 = true ∧ inR (numR w).1 0 10000 = true then (mapO srMo ws).map fun L => ((numR w).1, L, ()) else none
  | [] => none
def irPg (l : List UInt8) : Option Prg := match splitC 32 l with
  | w :: ws => if inR (numI w).1 0 10000 = true then (mapO irMo ws).map fun L => ((numI w).1, L, ()) else none
  | [] => none
/-- What both answer. -/
def rdPg (l : List UInt8) : Prg × Int := match srPg l with
  | some p => if okPg p = true then (p, 0) else ((0, [], ()), 5)
  | none => ((0, [], ()), 5)
theorem pgT_split {p : Prg} : splitC 32 (pgT p) = Lib.decDigits p.1.toNat :: p.2.1.map motW :=
  splitC_join _ _ (dec_no' (by decide) _) fun v hv => by
    obtain ⟨m, _, rfl⟩ := List.mem_map.1 hv
    exact motW_no m
theorem okPg_el {p : Prg} (hr : RngPg p) (h : okPg p = true) : (0 ≤ p.1 ∧ p.1 ≤ 10000) ∧ ∀ m ∈ p.2.1, (0 ≤ m.1 ∧ m.1 ≤ 3) ∧ (1 ≤ m.2.1 ∧ m.2.1 ≤ 360) ∧ 0 ≤ m.2.2.1 ∧ m.2.2.1 ≤ 10000 := by
  unfold okPg at h
  simp only [Bool.and_eq_true] at h
  obtain ⟨⟨⟨⟨h1, h2⟩, h3⟩, h4⟩, h5⟩ := h
  have hp := hr.1
  rw [wrap_id (by omega) (by omega)] at h2
  have e2 := inR_iff.1 h2
  have e4 := inR_iff.1 h4
  refine ⟨e2, ?_⟩
  have hel : ∀ m ∈ p.2.1, (0 ≤ m.1 ∧ m.1 ≤ 3) ∧ 1 ≤ m.2.1 ∧ 0 ≤ m.2.2.1 ∧ m.2.2.1 ≤ 10000 := fun m hm => by
    have := List.all_eq_true.1 h3 m hm
    unfold moOk at this
    rw [hr.2.i1 hm, hr.2.i3 hm] at this
    simp only [Bool.and_eq_true, Bool.not_eq_true', decide_eq_false_iff_not] at this
    obtain ⟨⟨a1, a2⟩, a3⟩ := this
    have b1 := inR_iff.1 a1
    have b3 := inR_iff.1 a3
    exact ⟨b1, by omega, b3⟩
  have hs : ∀ (L : List Ct), (∀ m ∈ L, 1 ≤ m.2.1) → ∀ m ∈ L, m.2.1 ≤ sumM L := by
    intro L
    induction L with
    | nil => intro _ m hm; cases hm
    | cons v L ih =>
      intro hL m hm
      have h0 : 0 ≤ sumM L := by
        clear ih hm
        have hL' : ∀ m ∈ L, 1 ≤ m.2.1 := fun m hm => hL m (by simp [hm])
        induction L with
        | nil => exact Int.le_refl _
        | cons u L ih =>
          have := hL' u (by simp)
          have := ih (fun m hm => hL m (by simp only [List.mem_cons] at hm ⊢; rcases hm with h | h <;> simp [h])) fun m hm => hL' m (by simp [hm])
          show 0 ≤ u.2.1 + sumM L
          omega
      show m.2.1 ≤ v.2.1 + sumM L
      rcases List.mem_cons.1 hm with rfl | hm
      · omega
      · have := ih (fun m hm => hL m (by simp [hm])) m hm
        have := hL v (by simp)
        omega
  intro m hm
  obtain ⟨a, b, c⟩ := hel m hm
  have := hs p.2.1 (fun m hm => (hel m hm).2.1) m hm
  exact ⟨a, ⟨b, by omega⟩, c⟩
theorem srPg_text {p : Prg} (hr : RngPg p) (h : okPg p = true) : srPg (pgT p) = some p := by
  obtain ⟨h1, h2⟩ := okPg_el hr h
  obtain ⟨t, L, u⟩ := p
  obtain ⟨t, rfl⟩ := Int.eq_ofNat_of_zero_le h1.1
  have h1 := h1.2
  simp only at h1 h2
  unfold srPg
  rw [pgT_split]
  simp only [Int.ofNat_eq_natCast, Int.toNat_natCast]
  rw [numR_dec (by omega), if_pos ⟨rfl, inR_iff.2 ⟨by omega, by omega⟩⟩, mapO_map fun m hm => srMo_motW (h2 m hm).1 ⟨by have := (h2 m hm).2.1; omega, (h2 m hm).2.1.2⟩ (h2 m hm).2.2]
  rfl
theorem irPg_text {p : Prg} (hr : RngPg p) (h : okPg p = true) : irPg (pgT p) = some p := by
  obtain ⟨h1, h2⟩ := okPg_el hr h
  obtain ⟨t, L, u⟩ := p
  obtain ⟨t, rfl⟩ := Int.eq_ofNat_of_zero_le h1.1
  have h1 := h1.2
  simp only at h1 h2
  unfold irPg
  rw [pgT_split]
  simp only [Int.ofNat_eq_natCast, Int.toNat_natCast]
  rw [numI_dec (by omega), if_pos (inR_iff.2 ⟨by omega, by omega⟩), mapO_map fun m hm => irMo_motW (h2 m hm).1 (h2 m hm).2.1 (h2 m hm).2.2]
  rfl
theorem rngPg_mk {t : Int} {L : List Ct} (ht : 0 ≤ t ∧ t ≤ 10000) (hl : (L.length : Int) ≤ 2000000) (hL : ∀ m ∈ L, (-1 ≤ m.1 ∧ m.1 ≤ 3) ∧ (0 ≤ m.2.1 ∧ m.2.1 ≤ 360) ∧ 0 ≤ m.2.2.1 ∧ m.2.2.1 ≤ 10000) : RngPg (t, L, ()) :=
  ⟨⟨by show -32768 ≤ t; omega, by show t ≤ 32767; omega⟩, ⟨by show (L.length : Int) * 6 ≤ _; omega, fun v hv => by have := hL v hv; exact ⟨by omega, by omega, by omega⟩⟩⟩
theorem srPg_ok {l : List UInt8} (hl : l.length ≤ 1048576) {p : Prg} (h : srPg l = some p) : l = pgT p ∧ RngPg p := by
  unfold srPg at h
  split at h
  · rename_i w ws e
    split at h
    · rename_i hc
      cases hm : mapO srMo ws with
      | none => rw [hm] at h; cases h
      | some L =>
        rw [hm] at h
        injection h with h
        subst h
        obtain ⟨u, hu, ew, eu⟩ := numR_ok hc.1
        have hi := inR_iff.1 hc.2
        have hj := (splitC_spec 32 l).1
        have hn := splitC_len 32 l
        rw [e] at hj hn
        obtain ⟨e1, e2⟩ := mapO_el hm
        refine ⟨?_, rngPg_mk hi (by simp only [List.length_cons] at hn; omega) fun m hm => ?_⟩
        · rw [← hj, mapO_back (g := motW) (fun x y h => (srMo_ok h).1) hm, ew]
          show _ = Lib.join (Lib.decDigits (numR _).1.toNat :: L.map motW) [32]
          rw [← ew, eu, Int.toNat_natCast, ← ew]
        · obtain ⟨x, _, hx⟩ := e2 m hm
          have := (srMo_ok hx).2
          exact ⟨by omega, by omega, by omega⟩
    · cases h
  · cases h
theorem irPg_rng {l : List UInt8} (hl : l.length ≤ 1048576) {p : Prg} (h : irPg l = some p) : RngPg p := by
  unfold irPg at h
  split at h
  · rename_i w ws e
    split at h
    · rename_i hc
      cases hm : mapO irMo ws with
      | none => rw [hm] at h; cases h
      | some L =>
        rw [hm] at h
        injection h with h
        subst h
        have hi := inR_iff.1 hc
        have hn := splitC_len 32 l
        rw [e] at hn
        obtain ⟨e1, e2⟩ := mapO_el hm
        refine rngPg_mk hi (by simp only [List.length_cons] at hn; omega) fun m hm => ?_
        obtain ⟨x, _, hx⟩ := e2 m hm
        unfold irMo at hx
        cases x with
        | nil => cases hx
        | cons k r =>
          dsimp only at hx
          split at hx
          · rename_i hc2
            injection hx with hx
            subst hx
            have b1 := inR_iff.1 hc2.1
            have b2 := inR_iff.1 hc2.2
            exact ⟨lawOf_bd k, by show 0 ≤ (numI _).1 ∧ (numI _).1 ≤ 360; omega, b1⟩
          · cases hx
    · cases h
  · cases h
/-- The lenient reading with its check answers as the strict one. -/
theorem rdPg_eq {l : List UInt8} (hl : l.length ≤ 1048576) : rdPg l = match irPg l with
  | some p => if okPg p = true ∧ pgT p = l then (p, 0) else ((0, [], ()), 5)
  | none => ((0, [], ()), 5) := by
  unfold rdPg
  cases hs : srPg l with
  | some p =>
    obtain ⟨e, hr⟩ := srPg_ok hl hs
    simp only
    by_cases ho : okPg p = true
    · have := irPg_text hr ho
      rw [← e] at this
      rw [this]
      simp only
      rw [if_pos ho, if_pos ⟨ho, e.symm⟩]
    · rw [if_neg ho]
      cases hi : irPg l with
      | none => rfl
      | some q =>
        simp only
        by_cases hq : okPg q = true ∧ pgT q = l
        · have := srPg_text (irPg_rng hl hi) hq.1
          rw [hq.2, hs] at this
          injection this with this
          subst this
          exact absurd hq.1 ho
        · rw [if_neg hq]
  | none =>
    simp only
    cases hi : irPg l with
    | none => rfl
    | some q =>
      simp only
      by_cases hq : okPg q = true ∧ pgT q = l
      · have := srPg_text (irPg_rng hl hi) hq.1
        rw [hq.2, hs] at this
        cases this
      · rw [if_neg hq]
end Go.Cams
namespace Go.Cams
open Go Go.Fw
theorem mapO_snoc {α β : Type} {f : α → Option β} {x : α} {y : β} (hx : f x = some y) : ∀ {l : List α} {r : List β}, mapO f l = some r → mapO f (l ++ [x]) = some (r ++ [y])
  | [], r, h => by injection h with h; subst h; simp [mapO, hx]
  | z :: l, r, h => by
    unfold mapO at h
    split at h
    · rename_i y' r' h1 h2
      injection h with h
      subst h
      simp [mapO, h1, mapO_snoc hx h2]
    · cases h
theorem mapO_none {α β : Type} {f : α → Option β} {x : α} (hx : f x = none) : ∀ {l : List α}, x ∈ l → mapO f l = none
  | z :: l, h => by
    rcases List.mem_cons.1 h with rfl | h
    · simp [mapO, hx]
    · unfold mapO
      rw [mapO_none hx h]
      split
      · rename_i e; cases e
      · rfl
end Go.Cams


/- Cams read from their texts. In plain terms. -/
namespace Go.Cams
open Go Go.Fw
/-! ### Runs -/
/-! ### Words of runs -/
/-- What is known of a cam as far as it is read. -/
def GoodC (c : List Int) : Prop := c.length ≤ 360 ∧ ∀ v ∈ c, 0 ≤ v ∧ v ≤ 10000
theorem GoodC.rng {c : List Int} (h : GoodC c) : Rng c := ⟨by have := h.1; omega, fun v hv => by have := h.2 v hv; omega⟩
end Go.Cams


/- Texts of shafts. In plain terms. -/
namespace Go.Cams
open Go Go.Fw
structure RngSf (s : Sft) : Prop where
  n : -32768 ≤ s.1 ∧ s.1 ≤ 32767
  d : -32768 ≤ s.2.1 ∧ s.2.1 ≤ 32767
  p : -32768 ≤ s.2.2.1 ∧ s.2.2.1 ≤ 32767
  c : Rng s.2.2.2.1
end Go.Cams


/- Shafts read from their texts. In plain terms. -/
namespace Go.Cams
open Go Go.Fw
/-! ### Lines -/
end Go.Cams


/- Cuts' texts, and what a list of cuts of one cutter does. In plain terms. -/
namespace Go.Cams
open Go Go.Fw
theorem OneK.okCt {m : Nat} {L : List Ct} (h : OneK m L) (hm : m ≤ 360) : okCt L 8 = true := by
  have hr := h.rng hm
  simp only [Go.Cams.okCt, Bool.and_eq_true, decide_eq_true_eq, List.all_eq_true]
  refine ⟨h.l, fun v hv => ?_⟩
  have := h.el v hv
  simp only [ctOk, Bool.and_eq_true, inR_iff]
  rw [hr.i1 hv, hr.i2 hv, hr.i3 hv, wrap_id (by simp) (by simp)]
  omega
/-! ### Sums -/
end Go.Cams


/- Shafts' periods, in plain terms. -/
namespace Go.Cams
open Go Go.Fw
def nN (s : Sft) : Nat := (wr .i64 s.1).toNat
def nD (s : Sft) : Nat := (wr .i64 s.2.1).toNat
def nL (s : Sft) : Nat := s.2.2.2.1.length
def nP (s : Sft) : Nat := (wr .i64 s.2.2.1).toNat
theorem Good.nn {s : Sft} (h : Good s) : (wr .i64 s.1 = (nN s : Int) ∧ 1 ≤ nN s ∧ nN s ≤ 60) ∧ (wr .i64 s.2.1 = (nD s : Int) ∧ 1 ≤ nD s ∧ nD s ≤ 60) ∧ (8 ≤ nL s ∧ nL s ≤ 360) ∧ (wr .i64 s.2.2.1 = (nP s : Int) ∧ nP s ≤ 360) := by
  have h1 := h.num
  have h2 := h.den
  have h3 := h.len
  have h4 := h.ph
  unfold nN nD nL nP
  omega
/-- A shaft that is drawn. -/
structure DrS (s : Sft) : Prop where
  n : 1 ≤ s.1 ∧ s.1 ≤ 3
  d : 1 ≤ s.2.1 ∧ s.2.1 ≤ 3
  l : 8 ≤ s.2.2.2.1.length ∧ s.2.2.2.1.length ≤ 16
  c : ∀ v ∈ s.2.2.2.1, 0 ≤ v ∧ v ≤ 9
  p : 0 ≤ s.2.2.1 ∧ s.2.2.1 < (s.2.2.2.1.length : Int)
theorem DrS.rng {s : Sft} (h : DrS s) : RngSf s := ⟨by have := h.n; omega, by have := h.d; omega, by have := h.p; have := h.l; omega, rng_bd (by have := h.l; omega) fun v hv => by have := h.c v hv; omega⟩
theorem DrS.ok {s : Sft} (h : DrS s) : okS s = true := by
  have h1 := h.n
  have h2 := h.d
  have h3 := h.l
  have h4 := h.p
  simp only [okS, okC, Bool.and_eq_true, inR_iff, List.all_eq_true]
  rw [wrap_id (x := s.1) (by omega) (by omega), wrap_id (x := s.2.1) (by omega) (by omega), wrap_id (x := s.2.2.1) (by omega) (by omega), wrap_id (by omega) (by omega)]
  refine ⟨⟨⟨by omega, by omega⟩, ⟨by omega, fun v hv => ?_⟩⟩, by omega⟩
  have := h.c v hv
  simp only [okV, inR_iff]
  rw [wrap_id (by omega) (by omega)]
  omega
end Go.Cams


/- Cams turned and mirrored, in plain terms. -/
namespace Go.Cams
open Go Go.Fw
def Per (c : List Int) (k : Int) : Prop := ∀ x, cAt c (x + k) = cAt c x
theorem Per.neg {c : List Int} {k : Int} (h : Per c k) : Per c (-k) := fun x => by
  have := h (x + -k)
  rw [← this]
  congr 1
  omega
/-! ### Mirrors -/
def mir (c : List Int) : List Int := tb c.length fun i => cAt c (-(i : Nat) : Int)
theorem mir_len (c : List Int) : (mir c).length = c.length := tb_len _ _
theorem mir_mem {c : List Int} (h : 0 < c.length) {v : Int} (hv : v ∈ mir c) : v ∈ c := by
  unfold mir tb at hv
  obtain ⟨i, _, rfl⟩ := List.mem_map.1 hv
  exact cAt_mem h _
theorem SmD.mir {c : List Int} (S : SmD c) : SmD (mir c) := ⟨by rw [mir_len]; exact S.len, fun v hv => S.el v (mir_mem (by have := S.len; omega) hv)⟩
/-! ### Which of two turns comes first -/
def LexP (a b : Int → Int) (n : Nat) : Prop := ∃ i : Nat, i < n ∧ (∀ j : Nat, j < i → a j = b j) ∧ a i < b i
noncomputable instance lexD (a b : Int → Int) (n : Nat) : Decidable (LexP a b n) := Classical.propDecidable _
/-! ### Sums -/
/-! ### The greatest's place -/
end Go.Cams


/- Plates' texts in base 16, in plain terms. -/
namespace Go.Cams
open Go Go.Fw
end Go.Cams


/- Plates read from their texts in base 16, in plain terms. -/
namespace Go.Cams
open Go Go.Fw
end Go.Cams


/- Grids' texts, in plain terms. -/
namespace Go.Cams
open Go Go.Fw
/-! ### Repairs -/
end Go.Cams


/- Digits of base 16 gathered, in plain terms. -/
namespace Go.Cams
open Go Go.Fw
end Go.Cams


/- The greatest of numbers, as the reference finds it. -/
namespace Go.Cams
open Go Go.Fw
def gbS (l : List Int) (b i : Nat) : Nat := if siz (l.getD i 0) > siz (l.getD b 0) then i else b
def gb (l : List Int) : Nat → Nat
  | 0 => 0
  | j + 1 => gbS l (gb l j) j
theorem gb_lt (l : List Int) : ∀ j, j ≤ l.length → 0 < l.length → gb l j < l.length
  | 0, _, h => h
  | j + 1, h, h0 => by
    have := gb_lt l j (by omega) h0
    show gbS l (gb l j) j < _
    unfold gbS
    split <;> omega
theorem gb_one (l : List Int) : gb l 1 = 0 := by
  show gbS l 0 0 = 0
  unfold gbS
  split <;> rfl
theorem gb_max (l : List Int) : ∀ j i, i < j → siz (l.getD i 0) ≤ siz (l.getD (gb l j) 0)
  | 0, i, h => absurd h (by omega)
  | j + 1, i, h => by
    show _ ≤ siz (l.getD (gbS l (gb l j) j) 0)
    unfold gbS
    rcases Nat.lt_or_ge i j with h1 | h1
    · have := gb_max l j i h1
      split <;> omega
    · have e : i = j := by omega
      subst e
      split <;> omega
/-- The greatest size. -/
def gbM (l : List Int) : Int := siz (l.getD (gb l l.length) 0)
theorem getD_mem {l : List Int} {i : Nat} (h : i < l.length) : l.getD i 0 ∈ l := by
  rw [List.getD_eq_getElem?_getD, List.getElem?_eq_getElem h]
  exact List.getElem_mem h
theorem gbM_max {l : List Int} : ∀ v ∈ l, siz v ≤ gbM l := by
  intro v hv
  obtain ⟨i, hi, rfl⟩ := List.getElem_of_mem hv
  have := gb_max l l.length i hi
  rw [List.getD_eq_getElem?_getD, List.getElem?_eq_getElem hi] at this
  exact this
theorem gbM_at {l : List Int} (h : 0 < l.length) : ∃ v ∈ l, gbM l = siz v := ⟨_, getD_mem (gb_lt l _ (Nat.le_refl _) h), rfl⟩
theorem gbM_gr {l : List Int} (h : 0 < l.length) : gbM l = (gr l).2.1 := by
  obtain ⟨v, hv, e⟩ := gbM_at h
  have h1 := ((gr_le l (0, -1, 0) (gr l).2.1).1 (Int.le_refl _)).2 v hv
  have h2 := (gr_le l (0, -1, 0) (gbM l)).2 ⟨by rw [e]; have := siz_nn v; show (-1 : Int) ≤ _; omega, gbM_max⟩
  have h2 : (gr l).2.1 ≤ gbM l := h2
  omega
end Go.Cams


/- Free stretches of steps, in plain terms. -/
namespace Go.Cams
open Go Go.Fw
def hF (h : List Bool) (j : Nat) : Bool := h.getD (j % h.length) false
/-! ### Sorted -/
end Go.Cams


/- Even fillings, in plain terms. -/
namespace Go.Cams
open Go Go.Fw
end Go.Cams


/- Rounds, dwells, even fillings within a cam's range, in plain terms. -/
namespace Go.Cams
open Go Go.Fw
/-- What is kept: the steps, the range, the held lifts. -/
structure KpC (c : List Int) (h : List Bool) (lo hi : Int) (d : List Int) : Prop where
  len : d.length = c.length
  el : ∀ v ∈ d, lo ≤ v ∧ v ≤ hi
  held : ∀ i, i < c.length → hF h i = true → g d i = g c i
theorem KpC.at {c d : List Int} {h : List Bool} {lo hi : Int} (K : KpC c h lo hi d) (h0 : 0 < c.length) (x : Int) : lo ≤ cAt d x ∧ cAt d x ≤ hi := K.el _ (cAt_mem (by rw [K.len]; exact h0) x)
/-! ### Fillings -/
/-! ### Free steps, counted -/
/-! ### Sums -/
end Go.Cams


/- Machines that are turned, flipped, done one behind another; the time of the pen. In plain terms. -/
namespace Go.Cams
open Go Go.Fw
structure DrM (m : Mch) : Prop where
  len : 8 ≤ m.1.length ∧ m.1.length ≤ 27
  ly : m.2.1.length = m.1.length
  lp : m.2.2.1.length = m.1.length
  x : ∀ v ∈ m.1, 0 ≤ v ∧ v ≤ 63
  y : ∀ v ∈ m.2.1, 0 ≤ v ∧ v ≤ 63
  p : ∀ v ∈ m.2.2.1, 0 ≤ v ∧ v ≤ 1
theorem headD_el {l : List Int} {a b : Int} (h : 0 < l.length) (hb : ∀ v ∈ l, a ≤ v ∧ v ≤ b) : a ≤ l.headD 0 ∧ l.headD 0 ≤ b := by
  cases l with
  | nil => exact absurd h (by simp)
  | cons v r => exact hb v (by simp)
theorem mv_of {l : List Int} (h : 8 ≤ l.length ∧ l.length ≤ 360) (hb : ∀ v ∈ l, 0 ≤ v ∧ v ≤ 63) : mv l = true := by
  unfold mv
  rw [okC_of (by omega) (fun v hv => by have := hb v hv; omega)]
  have h1 := mxF_le l (l.headD 0) 63 (headD_el (by omega) hb).2 fun v hv => (hb v hv).2
  have : mxL l < 64 := by show mxF l (l.headD 0) < 64; omega
  simp [this]
theorem okM_of {m : Mch} (h : 8 ≤ m.1.length ∧ m.1.length ≤ 360) (ly : m.2.1.length = m.1.length) (lp : m.2.2.1.length = m.1.length) (x : ∀ v ∈ m.1, 0 ≤ v ∧ v ≤ 63) (y : ∀ v ∈ m.2.1, 0 ≤ v ∧ v ≤ 63) (p : ∀ v ∈ m.2.2.1, 0 ≤ v ∧ v ≤ 1) : okM m = true := by
  unfold okM
  rw [mv_of h x, mv_of (by omega) y, okC_of (c := m.2.2.1) (by omega) (fun v hv => by have := p v hv; omega), ly, lp]
  simp
theorem rngM_of' {m : Mch} (h : m.1.length ≤ 360) (ly : m.2.1.length = m.1.length) (lp : m.2.2.1.length = m.1.length) (x : ∀ v ∈ m.1, 0 ≤ v ∧ v ≤ 63) (y : ∀ v ∈ m.2.1, 0 ≤ v ∧ v ≤ 63) (p : ∀ v ∈ m.2.2.1, 0 ≤ v ∧ v ≤ 1) : RngM m :=
  ⟨rng_bd (by omega) fun v hv => by have := x v hv; omega, rng_bd (by omega) fun v hv => by have := y v hv; omega, rng_bd (by omega) fun v hv => by have := p v hv; omega⟩
theorem DrM.ok {m : Mch} (D : DrM m) : okM m = true := okM_of (by have := D.len; omega) D.ly D.lp D.x D.y D.p
theorem DrM.rng {m : Mch} (D : DrM m) : RngM m := rngM_of' (by have := D.len; omega) D.ly D.lp D.x D.y D.p
theorem DrM.good {m : Mch} (D : DrM m) : GoodM m := goodM D.ok
/-! ### Marks -/
theorem DrM.draws {m : Mch} (D : DrM m) : drawTo m m.1.length = plt (mks m m.1.length) := drawTo_mks m (fun _ hi => stop_on D.rng D.good hi) _ (Nat.le_refl _)
/-! ### Turned -/
/-! ### Backward twice -/
/-! ### Flipped -/
/-! ### Counted twice -/
/-! ### One behind another -/
/-! ### The time of the pen -/
end Go.Cams


/- Machines read back from their texts, in plain terms. -/
namespace Go.Cams
open Go Go.Fw
end Go.Cams


/- Machines read from their texts: both ways answer the same. In plain terms. -/
namespace Go.Cams
open Go Go.Fw
end Go.Cams


/- Programs turned round, raised and joined. In plain terms. -/
namespace Go.Cams
open Go Go.Fw
/-- The motions of a program, backwards. -/
def revL : Int → List Ct → List Ct
  | _, [] => []
  | f, v :: l => revL v.2.2.1 l ++ [(v.1, v.2.1, f, ())]
def revP (p : Prg) : Prg := (p.1, revL p.1 p.2.1, ())
def rngPgB (p : Prg) : Bool := decide (-32768 ≤ p.1 ∧ p.1 ≤ 32767) && p.2.1.all fun v => decide ((-128 ≤ v.1 ∧ v.1 ≤ 127) ∧ (-32768 ≤ v.2.1 ∧ v.2.1 ≤ 32767) ∧ (-32768 ≤ v.2.2.1 ∧ v.2.2.1 ≤ 32767))
def pgIn (p : Prg) : Bool := okPg p && rngPgB p
theorem pgIn_of {p : Prg} (hr : RngPg p) (h : okPg p = true) : pgIn p = true := by
  unfold pgIn rngPgB
  simp only [h, Bool.true_and, Bool.and_eq_true, decide_eq_true_eq, List.all_eq_true]
  exact ⟨hr.t, hr.m.el⟩
theorem pgIn_rng {p : Prg} (h : pgIn p = true) : RngPg p ∧ okPg p = true := by
  unfold pgIn rngPgB at h
  simp only [Bool.and_eq_true, decide_eq_true_eq, List.all_eq_true] at h
  obtain ⟨h1, h2, h3⟩ := h
  have hl : (p.2.1.length : Int) ≤ 24 := by
    simp only [okPg, Bool.and_eq_true, inR_iff] at h1
    exact h1.1.1.1.1.2
  exact ⟨⟨h2, ⟨by omega, h3⟩⟩, h1⟩
def prevT (f : Int) (L : List Ct) (i : Nat) : Int := if i = 0 then f else match L[i - 1]? with
  | some v => v.2.2.1
  | none => 0
def revEl (f : Int) (L : List Ct) (i : Nat) : Ct := match L[i]? with
  | some v => (v.1, v.2.1, prevT f L i, ())
  | none => (0, 0, 0, ())
def rvk (f : Int) (L : List Ct) (k : Nat) : List Ct := (List.range k).map fun j => revEl f L (L.length - 1 - j)
theorem rvk_succ (f : Int) (L : List Ct) (k : Nat) : rvk f L (k + 1) = rvk f L k ++ [revEl f L (L.length - 1 - k)] := by simp [rvk, List.range_succ]
theorem rvk_len (f : Int) (L : List Ct) (k : Nat) : (rvk f L k).length = k := by simp [rvk]
theorem revEl_cons (f : Int) (v : Ct) (l : List Ct) (j : Nat) : revEl f (v :: l) (j + 1) = revEl v.2.2.1 l j := by
  unfold revEl prevT
  rw [List.getElem?_cons_succ]
  cases h : l[j]? with
  | none => rfl
  | some u =>
    simp only
    rw [if_neg (by omega), Nat.add_sub_cancel]
    by_cases hj : j = 0
    · subst hj
      rfl
    · rw [if_neg hj]
      obtain ⟨i, rfl⟩ : ∃ i, j = i + 1 := ⟨j - 1, by omega⟩
      rw [List.getElem?_cons_succ, Nat.add_sub_cancel]
theorem revL_rvk : ∀ (L : List Ct) (f : Int), revL f L = rvk f L L.length
  | [], _ => rfl
  | v :: l, f => by
    have e : rvk f (v :: l) l.length = rvk v.2.2.1 l l.length := by
      unfold rvk
      refine List.map_congr_left fun j hj => ?_
      have hj := List.mem_range.1 hj
      have e1 : (v :: l).length - 1 - j = (l.length - 1 - j) + 1 := by simp; omega
      rw [e1, revEl_cons]
    rw [List.length_cons, rvk_succ, e, ← revL_rvk l]
    have e2 : (v :: l).length - 1 - l.length = 0 := by simp
    rw [e2]
    rfl
/-! ### Lifts backwards -/
theorem shN_sym (w k n : Int) : shN w (n - k) n = shD w n - shN w k n := by
  unfold shN shD
  by_cases h1 : w = 1
  · subst h1
    simp only [if_true]
    by_cases h2 : 2 * k ≤ n
    · by_cases h3 : 2 * (n - k) ≤ n
      · have e : n = 2 * k := by omega
        subst e
        rw [if_pos h2, if_pos h3]
        grind
      · rw [if_pos h2, if_neg h3]
        grind
    · rw [if_neg h2, if_pos (by omega)]
      grind
  · rw [if_neg h1, if_neg h1, if_neg h1]
    by_cases h2 : w = 2
    · rw [if_pos h2, if_pos h2, if_pos h2]
      grind
    · rw [if_neg h2, if_neg h2, if_neg h2]
      by_cases h3 : w = 3
      · rw [if_pos h3, if_pos h3, if_pos h3]
        grind
      · rw [if_neg h3, if_neg h3, if_neg h3]
theorem liftP_sym (f t w k n : Int) : liftP f t w (n - k) n = liftP t f w k n := by
  unfold liftP
  rw [shN_sym]
  congr 1
  grind
theorem liftP_end (f t w : Int) {n : Int} (n0 : 1 ≤ n) (n1 : n ≤ 360) : liftP f t w n n = t := by
  have h := liftP_sym f t w 0 n
  rw [Int.sub_zero, liftP_zero n0 n1] at h
  exact h
theorem seg_end {f : Int} {v : Ct} (n0 : 1 ≤ v.2.1) (n1 : v.2.1 ≤ 360) : seg f v ++ [v.2.2.1] = (List.range (v.2.1.toNat + 1)).map fun k => liftP f v.2.2.1 v.1 (k : Nat) v.2.1 := by
  unfold seg
  rw [List.range_succ, List.map_append]
  congr 1
  simp only [List.map_cons, List.map_nil]
  rw [show ((v.2.1.toNat : Nat) : Int) = v.2.1 by omega, liftP_end _ _ _ n0 n1]
theorem seg_rev {f : Int} {v : Ct} (n0 : 1 ≤ v.2.1) (n1 : v.2.1 ≤ 360) : (seg f v ++ [v.2.2.1]).reverse = seg v.2.2.1 (v.1, v.2.1, f, ()) ++ [f] := by
  rw [seg_end n0 n1, show seg v.2.2.1 (v.1, v.2.1, f, ()) ++ [f] = _ from seg_end (f := v.2.2.1) (v := (v.1, v.2.1, f, ())) n0 n1]
  apply List.ext_getElem
  · simp
  · intro i h1 h2
    simp only [List.length_map, List.length_range] at h2
    rw [List.getElem_reverse, List.getElem_map, List.getElem_map, List.getElem_range, List.getElem_range]
    simp only [List.length_map, List.length_range]
    rw [← liftP_sym v.2.2.1 f v.1 _ v.2.1, ]
    congr 1
    omega
theorem toF_rev : ∀ (L : List Ct) (f : Int), toF (toF f L) (revL f L) = f
  | [], _ => rfl
  | v :: l, f => toF_snoc _ _ _
theorem pro_rev : ∀ (L : List Ct) (f : Int), (∀ v ∈ L, 1 ≤ v.2.1 ∧ v.2.1 ≤ 360) → (proF f L ++ [toF f L]).reverse = proF (toF f L) (revL f L) ++ [f]
  | [], _, _ => rfl
  | v :: l, f, h => by
    have hv := h v (by simp)
    have ih := pro_rev l v.2.2.1 fun u hu => h u (by simp [hu])
    have e : toF f (v :: l) = toF v.2.2.1 l := rfl
    have hs := seg_rev (f := f) hv.1 hv.2
    rw [List.reverse_append] at hs
    simp only [revL, proF]
    rw [e, proF_snoc, toF_rev l v.2.2.1, List.append_assoc, List.reverse_append, ih, List.append_assoc, List.append_assoc, ← hs]
    rfl
theorem mir_of {c r : List Int} {f : Int} (h : (c ++ [f]).reverse = r ++ [f]) (hn : 0 < c.length) : mir c = r := by
  have hl : r.length = c.length := by
    have := congrArg List.length h
    simp at this
    omega
  have hg : ∀ i, i ≤ c.length → (c ++ [f])[c.length - i]? = (r ++ [f])[i]? := fun i hi => by
    rw [← h, List.getElem?_reverse (by simp; omega)]
    congr 1
    simp
  have h0 : c[0]? = some f := by
    have := hg c.length (Nat.le_refl _)
    rw [Nat.sub_self, List.getElem?_append_left hn, List.getElem?_append_right (by omega), hl, Nat.sub_self] at this
    exact this
  apply List.ext_getElem?
  intro i
  unfold mir
  rcases Nat.lt_or_ge i c.length with hi | hi
  · rw [show (tb c.length fun i => cAt c (-(i : Nat) : Int))[i]? = some (cAt c (-(i : Nat) : Int)) by unfold tb; rw [List.getElem?_map, List.getElem?_range hi]; rfl]
    have h1 := hg i (by omega)
    rw [List.getElem?_append_left (l₁ := r) (by omega)] at h1
    rw [← h1]
    unfold cAt
    by_cases hz : i = 0
    · subst hz
      have e : ((-((0 : Nat) : Int)) % (c.length : Int)).toNat = 0 := by simp
      rw [e, Nat.sub_zero, List.getElem?_append_right (Nat.le_refl _), Nat.sub_self]
      unfold g
      rw [List.getD_eq_getElem?_getD, h0]
      rfl
    · have e : ((-((i : Nat) : Int)) % (c.length : Int)).toNat = c.length - i := by
        have : (-((i : Nat) : Int)) % (c.length : Int) = (c.length : Int) - i := by
          rw [← Int.add_emod_right, Int.emod_eq_of_lt (by omega) (by omega)]
          omega
        rw [this]
        omega
      rw [e, List.getElem?_append_left (by omega)]
      unfold g
      rw [List.getD_eq_getElem?_getD, List.getElem?_eq_getElem (show c.length - i < c.length by omega)]
      rfl
  · rw [List.getElem?_eq_none (by unfold tb; simpa using hi), List.getElem?_eq_none (by omega)]
/-! ### Programs made out of others -/
theorem inR_t {a b c : Int} (h : b ≤ a ∧ a ≤ c) : inR a b c = true := inR_iff.2 h
theorem pg_mk {t : Int} {L : List Ct} (hn : 1 ≤ (L.length : Int) ∧ (L.length : Int) ≤ 24) (ht : 0 ≤ t ∧ t ≤ 10000) (hi : ∀ v ∈ L, MoIn 0 10000 v) (hs : 8 ≤ sumM L ∧ sumM L ≤ 360) (hl : lastT L = t) : RngPg (t, L, ()) ∧ okPg (t, L, ()) = true := by
  have hr : RngPg (t, L, ()) := ⟨by show -32768 ≤ t ∧ t ≤ 32767; omega, ⟨by show (L.length : Int) * 6 ≤ _; omega, fun v hv => by
    have h := hi v hv
    have h1 := h.w
    have h2 := h.n
    have h3 := h.t
    omega⟩⟩
  refine ⟨hr, ?_⟩
  have hm : L.all moOk = true := List.all_eq_true.2 fun v hv => by
    have h := hi v hv
    have h1 := h.w
    have h2 := h.n
    have h3 := h.t
    unfold moOk
    rw [hr.m.i1 hv, hr.m.i3 hv, inR_t h1, inR_t h3, Bool.true_and, Bool.and_true]
    simp
    omega
  unfold okPg
  simp only
  rw [wrap_id (x := t) (by omega) (by omega), inR_t hn, inR_t ht, hm, inR_t hs, hl]
  simp
theorem revL_len : ∀ (L : List Ct) (f : Int), (revL f L).length = L.length
  | [], _ => rfl
  | v :: l, f => by simp [revL, revL_len l]
theorem revL_sum : ∀ (L : List Ct) (f : Int), sumM (revL f L) = sumM L
  | [], _ => rfl
  | v :: l, f => by rw [revL, sumM_snoc, revL_sum l, sumM]; simp only; omega
theorem revL_in {lo hi : Int} : ∀ (L : List Ct) (f : Int), (∀ v ∈ L, MoIn lo hi v) → lo ≤ f → f ≤ hi → ∀ v ∈ revL f L, MoIn lo hi v
  | [], _, _, _, _ => fun v hv => by cases hv
  | u :: l, f, h, f0, f1 => fun v hv => by
    have hu := h u (by simp)
    rcases List.mem_append.1 hv with hv | hv
    · exact revL_in l u.2.2.1 (fun x hx => h x (by simp [hx])) hu.t.1 hu.t.2 v hv
    · have hv : v = (u.1, u.2.1, f, ()) := by simpa using hv
      subst hv
      exact ⟨hu.w, hu.n, f0, f1⟩
theorem revL_last : ∀ (L : List Ct) (f : Int), L ≠ [] → lastT (revL f L) = f
  | [], _, h => absurd rfl h
  | v :: l, f, _ => lastT_snoc _ _
theorem toF_last {L : List Ct} (f : Int) (h : L ≠ []) : toF f L = lastT L := by
  obtain ⟨M, v, rfl⟩ := last_split (List.length_pos_iff.2 h)
  rw [toF_snoc, lastT_snoc]
theorem okPg_last {p : Prg} (h : okPg p = true) : lastT p.2.1 = p.1 := by
  simp only [okPg, Bool.and_eq_true, beq_iff_eq] at h
  exact h.2
theorem SmPg.ne {p : Prg} (S : SmPg p) : p.2.1 ≠ [] := fun e => by
  have h := S.sum
  rw [e] at h
  simp [sumM] at h
theorem SmPg.len1 {p : Prg} (S : SmPg p) : 1 ≤ (p.2.1.length : Int) := by
  have := List.length_pos_iff.2 S.ne
  omega
theorem SmPg.closed {p : Prg} (S : SmPg p) : toF p.1 p.2.1 = p.1 := (toF_last _ S.ne).trans (okPg_last S.ok)
theorem MoIn.wide {lo hi : Int} {v : Ct} (h : MoIn lo hi v) {a b : Int} (h1 : a ≤ lo) (h2 : hi ≤ b) : MoIn a b v := ⟨h.w, h.n, by have := h.t; omega⟩
theorem SmPg.rev {p : Prg} (S : SmPg p) : SmPg (revP p) := by
  have hl := S.len1
  have hn := S.n
  have ht := S.t
  have hs := S.sum
  have hi := revL_in p.2.1 p.1 S.ins ht.1 ht.2
  obtain ⟨h1, h2⟩ := pg_mk (t := p.1) (L := revL p.1 p.2.1) (by rw [revL_len]; omega) (by omega) (fun v hv => (hi v hv).wide (by omega) (by omega)) (by rw [revL_sum]; omega) (revL_last _ _ S.ne)
  refine ⟨h1, h2, by show ((revL p.1 p.2.1).length : Int) ≤ 5; rw [revL_len]; exact hn, by show 8 ≤ sumM (revL p.1 p.2.1) ∧ sumM (revL p.1 p.2.1) ≤ 45; rw [revL_sum]; exact hs, ht, ?_⟩
  have el : ∀ (L : List Ct) (f : Int), (∀ v ∈ L, (0 ≤ v.1 ∧ v.1 ≤ 3) ∧ (1 ≤ v.2.1 ∧ v.2.1 ≤ 45) ∧ (0 ≤ v.2.2.1 ∧ v.2.2.1 ≤ 59)) → 0 ≤ f ∧ f ≤ 59 → ∀ v ∈ revL f L, (0 ≤ v.1 ∧ v.1 ≤ 3) ∧ (1 ≤ v.2.1 ∧ v.2.1 ≤ 45) ∧ (0 ≤ v.2.2.1 ∧ v.2.2.1 ≤ 59) := by
    intro L
    induction L with
    | nil => intro f _ _ v hv; cases hv
    | cons u l ih =>
      intro f h hf v hv
      have hu := h u (by simp)
      rcases List.mem_append.1 hv with hv | hv
      · exact ih u.2.2.1 (fun x hx => h x (by simp [hx])) hu.2.2 v hv
      · have hv : v = (u.1, u.2.1, f, ()) := by simpa using hv
        subst hv
        exact ⟨hu.1, hu.2.1, hf⟩
  exact el p.2.1 p.1 S.el ht
theorem rev_mir {p : Prg} (S : SmPg p) : proF (revP p).1 (revP p).2.1 = mir (proF p.1 p.2.1) := by
  have h := pro_rev p.2.1 p.1 fun v hv => (S.ins v hv).n
  rw [S.closed] at h
  exact (mir_of h (by have := S.cam.len; omega)).symm
/-- A program raised. -/
def upL (y : Int) (L : List Ct) : List Ct := L.map fun v => (v.1, v.2.1, v.2.2.1 + y, ())
theorem upL_len (y : Int) (L : List Ct) : (upL y L).length = L.length := by simp [upL]
theorem upL_sum (y : Int) : ∀ L : List Ct, sumM (upL y L) = sumM L
  | [] => rfl
  | v :: l => by show v.2.1 + sumM (upL y l) = _; rw [upL_sum y l]; rfl
theorem lift_up (f t w k n y : Int) (n0 : 1 ≤ n) (n1 : n ≤ 360) : liftP (f + y) (t + y) w k n = liftP f t w k n + y := by
  unfold liftP
  rw [show (f + y) * shD w n + (t + y - (f + y)) * shN w k n = y * shD w n + (f * shD w n + (t - f) * shN w k n) by grind, nr_mul y _ (by have := (shD_bd (w := w) n0 n1).1; omega)]
  omega
theorem pro_up (y : Int) : ∀ (L : List Ct) (f : Int), (∀ v ∈ L, 1 ≤ v.2.1 ∧ v.2.1 ≤ 360) → proF (f + y) (upL y L) = (proF f L).map fun x => x + y
  | [], _, _ => rfl
  | v :: l, f, h => by
    have hv := h v (by simp)
    have ih := pro_up y l v.2.2.1 fun u hu => h u (by simp [hu])
    show seg (f + y) (v.1, v.2.1, v.2.2.1 + y, ()) ++ proF (v.2.2.1 + y) (upL y l) = _
    rw [ih, proF, List.map_append]
    congr 1
    unfold seg
    rw [List.map_map]
    exact List.map_congr_left fun k _ => lift_up _ _ _ _ _ _ hv.1 hv.2
theorem upL_last (y : Int) {L : List Ct} (h : L ≠ []) : lastT (upL y L) = lastT L + y := by
  obtain ⟨M, v, rfl⟩ := last_split (List.length_pos_iff.2 h)
  rw [lastT_snoc, show upL y (M ++ [v]) = upL y M ++ [(v.1, v.2.1, v.2.2.1 + y, ())] by simp [upL], lastT_snoc]
theorem SmPg.up {p : Prg} (S : SmPg p) {y : Int} (y0 : 0 ≤ y) (y1 : y ≤ 60) : RngPg (p.1 + y, upL y p.2.1, ()) ∧ okPg (p.1 + y, upL y p.2.1, ()) = true ∧ ∀ v ∈ upL y p.2.1, MoIn 0 10000 v := by
  have hl := S.len1
  have hn := S.n
  have ht := S.t
  have hs := S.sum
  have hi : ∀ v ∈ upL y p.2.1, MoIn 0 10000 v := fun v hv => by
    obtain ⟨u, hu, rfl⟩ := List.mem_map.1 hv
    have h := S.ins u hu
    exact ⟨h.w, h.n, by have := h.t; show 0 ≤ u.2.2.1 + y ∧ u.2.2.1 + y ≤ 10000; omega⟩
  obtain ⟨h1, h2⟩ := pg_mk (t := p.1 + y) (L := upL y p.2.1) (by rw [upL_len]; omega) (by omega) hi (by rw [upL_sum]; omega) (by rw [upL_last y S.ne, okPg_last S.ok])
  exact ⟨h1, h2, hi⟩
theorem sumM_app : ∀ a b : List Ct, sumM (a ++ b) = sumM a + sumM b
  | [], b => by simp [sumM]
  | v :: a, b => by rw [List.cons_append, sumM, sumM_app a b, sumM]; omega
theorem lastT_app {a b : List Ct} (h : b ≠ []) : lastT (a ++ b) = lastT b := by
  obtain ⟨M, v, rfl⟩ := last_split (List.length_pos_iff.2 h)
  rw [← List.append_assoc, lastT_snoc, lastT_snoc]
theorem SmPg.join {p q : Prg} (S : SmPg p) (Q : SmPg q) (e : p.1 = q.1) : RngPg (p.1, p.2.1 ++ q.2.1, ()) ∧ okPg (p.1, p.2.1 ++ q.2.1, ()) = true ∧ (∀ v ∈ p.2.1 ++ q.2.1, MoIn 0 10000 v) ∧ ((proF p.1 (p.2.1 ++ q.2.1)).length : Int) = sumM p.2.1 + sumM q.2.1 := by
  have hl := S.len1
  have hn := S.n
  have hn2 := Q.n
  have ht := S.t
  have hs := S.sum
  have hs2 := Q.sum
  have hi : ∀ v ∈ p.2.1 ++ q.2.1, MoIn 0 10000 v := fun v hv => by
    rcases List.mem_append.1 hv with hv | hv
    · exact (S.ins v hv).wide (by omega) (by omega)
    · exact (Q.ins v hv).wide (by omega) (by omega)
  obtain ⟨h1, h2⟩ := pg_mk (t := p.1) (L := p.2.1 ++ q.2.1) (by rw [List.length_append]; omega) (by omega) hi (by rw [sumM_app]; omega) (by rw [lastT_app Q.ne, okPg_last Q.ok, e])
  exact ⟨h1, h2, hi, by rw [proF_len _ _ fun v hv => (hi v hv).n.1, sumM_app]⟩
/-- The motion at a step. -/
theorem mo_at : ∀ (L : List Ct) (a : Int), (∀ v ∈ L, 1 ≤ v.2.1) → 0 ≤ a → a < sumM L → ∃ (j : Nat) (v : Ct), L[j]? = some v ∧ sumM (L.take j) ≤ a ∧ a < sumM (L.take j) + v.2.1
  | [], a, _, h0, h1 => by simp [sumM] at h1; omega
  | v :: l, a, h, h0, h1 => by
    rcases (show a < v.2.1 ∨ v.2.1 ≤ a by omega) with h2 | h2
    · exact ⟨0, v, rfl, by simpa [sumM] using h0, by simpa [sumM] using h2⟩
    · have h1 : a < v.2.1 + sumM l := h1
      obtain ⟨j, u, e, h3, h4⟩ := mo_at l (a - v.2.1) (fun x hx => h x (by simp [hx])) (by omega) (by omega)
      exact ⟨j + 1, u, by simpa using e, by rw [List.take_succ_cons, sumM]; omega, by rw [List.take_succ_cons, sumM]; omega⟩
theorem sumM_mono {L : List Ct} (h : ∀ v ∈ L, 1 ≤ v.2.1) {i j : Nat} (hij : i ≤ j) : sumM (L.take i) ≤ sumM (L.take j) := by
  have e : L.take j = L.take i ++ (L.take j).drop i := by
    have := List.take_append_drop i (L.take j)
    rw [List.take_take, Nat.min_eq_left hij] at this
    exact this.symm
  rw [e, sumM_app]
  have nn : ∀ l : List Ct, (∀ v ∈ l, 1 ≤ v.2.1) → 0 ≤ sumM l := by
    intro l
    induction l with
    | nil => intro _; simp [sumM]
    | cons v l ih => intro h; have := h v (by simp); have := ih fun u hu => h u (by simp [hu]); simp only [sumM]; omega
  have := nn ((L.take j).drop i) fun v hv => h v (List.mem_of_mem_take (List.mem_of_mem_drop hv))
  omega
theorem proF_app : ∀ (a b : List Ct) (f : Int), proF f (a ++ b) = proF f a ++ proF (toF f a) b
  | [], _, _ => rfl
  | v :: a, b, f => by rw [List.cons_append, proF, proF_app a b, proF, List.append_assoc]; rfl
theorem proF_at {L : List Ct} {f a : Int} (h : ∀ v ∈ L, 1 ≤ v.2.1) {j : Nat} {v : Ct} (hj : L[j]? = some v) (h1 : sumM (L.take j) ≤ a) (h2 : a < sumM (L.take j) + v.2.1) (h0 : 0 ≤ a) : (proF f L)[a.toNat]? = some (liftP (toF f (L.take j)) v.2.2.1 v.1 (a - sumM (L.take j)) v.2.1) := by
  have hjl := (List.getElem?_eq_some_iff.1 hj).1
  have e : L = L.take j ++ (v :: L.drop (j + 1)) := by
    have h3 := List.take_append_drop j L
    rw [List.drop_eq_getElem_cons hjl, (List.getElem?_eq_some_iff.1 hj).2] at h3
    exact h3.symm
  have hlen := proF_len (L.take j) f fun u hu => h u (List.mem_of_mem_take hu)
  have hn := h v (List.mem_of_getElem? hj)
  generalize L.take j = A at *
  rw [e, proF_app, List.getElem?_append_right (by omega), proF, List.getElem?_append_left (by rw [seg_len]; omega)]
  unfold seg
  rw [List.getElem?_map, List.getElem?_range (by omega)]
  simp only [Option.map_some]
  congr 2
  omega
theorem toF_prev {L : List Ct} {f : Int} {j : Nat} {v : Ct} (hj : L[j]? = some v) : toF f (L.take j) = prevT f L j := by
  unfold prevT
  cases j with
  | zero => rfl
  | succ i =>
    have hjl := (List.getElem?_eq_some_iff.1 hj).1
    rw [if_neg (by omega), Nat.add_sub_cancel, List.getElem?_eq_getElem (by omega)]
    rw [List.take_succ_eq_append_getElem (by omega), toF_snoc]
end Go.Cams


/- Phases of shafts sought. In plain terms. -/
namespace Go.Cams
open Go Go.Fw
end Go.Cams

