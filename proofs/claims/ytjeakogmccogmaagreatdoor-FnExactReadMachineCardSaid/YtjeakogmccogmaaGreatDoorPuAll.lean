/- What the functions compute, in plain terms: definitions and laws of lists and numbers, no program in sight. -/
import Derived.Test.YtjeakogmccogmaaGreatDoorFwC
import Derived.Lib.TrailingZeros
import Derived.Lib.ItoaLen
import Derived.Lib.ItoaMem
import Derived.Lib.Join
import Derived.Lib.ParseIntB
import Derived.Lib.Split
import Derived.Lib.SplitLaws
import Derived.Lib.ItoaNum
import Derived.Lib.Bytealg
import Derived.Lib.IndexMore
import Derived.Laws.Strings
/- What the functions of cams and shafts compute, in plain terms. -/
namespace Go.Cams
open Go Go.Fw
abbrev Sft : Type := Int × (Int × (Int × ((List Int) × Unit)))

def inR (a b c : Int) : Bool := decide (b ≤ a ∧ a ≤ c)
def okV (v : Int) : Bool := inR (wr .i64 v) 0 10000
def okC (l : List Int) : Bool := inR (l.length : Int) 8 360 && l.all okV

/-! ### Validity -/
def fi {α : Type} (p : α → Bool) : List α → Int → Int
  | [], _ => -1
  | v :: r, i => if p v = true then i else fi p r (i + 1)
theorem fi_any {α : Type} (p : α → Bool) : ∀ (l : List α) (i : Int), 0 ≤ i → decide (fi p l i ≥ 0) = l.any p
  | [], i, _ => by simp [fi]
  | v :: r, i, h => by
    unfold fi
    by_cases hp : p v = true
    · simp [hp, h]
    · have hp' : p v = false := by simpa using hp
      simp [hp', fi_any p r (i + 1) (by omega)]

/-- A shaft that is valid. -/
def okS (s : Sft) : Bool := inR (wr .i64 s.1) 1 60 && inR (wr .i64 s.2.1) 1 60 && okC s.2.2.2.1 && inR (wr .i64 s.2.2.1) 0 (wr .i64 ((s.2.2.2.1.length : Int) - 1))
/-- What is known of a list of shafts. -/
def Small (l : List Sft) : Prop := (l.length : Int) ≤ 140737488351232 ∧ ∀ s ∈ l, (s.2.2.2.1.length : Int) ≤ 140737488351232
theorem Small.get {l : List Sft} (h : Small l) {i : Nat} {s : Sft} (hs : l[i]? = some s) : (s.2.2.2.1.length : Int) ≤ 140737488351232 := h.2 s (List.mem_of_getElem? hs)

/-! ### The greatest common divisor -/
/-! ### Periods -/
def gg (a b : Int) : Int := ((Nat.gcd a.toNat b.toNat : Nat) : Int)
theorem inR_iff {a b c : Int} : inR a b c = true ↔ b ≤ a ∧ a ≤ c := by simp [inR]
def dl (s : Sft) : Int := wr .i64 (wr .i64 s.2.1 * (s.2.2.2.1.length : Int))
def own (s : Sft) : Int := wr .i64 (Int.tdiv (dl s) (gg (dl s) (wr .i64 s.1)))
/-! ### Codes -/
/-! ### Lifts -/
def stp (s : Sft) (t : Int) : Int := Int.tmod (wr .i64 ((wr .i64 s.2.2.1) + (wr .i64 (Int.tdiv (wr .i64 (t * (wr .i64 s.1))) (wr .i64 s.2.1))))) (s.2.2.2.1.length : Int)
def lift (s : Sft) (t : Int) : Int := match idx s.2.2.2.1 (stp s t) with | some v => wr .i64 v | none => 0
/-! ### Copies -/
/-! ### Equal to itself -/
/-! ### Sizes -/
/-! ### All lifts -/
/-! ### The search -/
end Go.Cams


/- Clashes of two shafts, in plain terms. -/
namespace Go.Cams
open Go Go.Fw
end Go.Cams


/- Marks on memory, and what holds them. -/
namespace Go.Cams
open Go Go.Fw
/-- The numbers from k on, as they are laid. -/
def mkL (f : Int → Int) (n : Nat) (k : Int) : List Int := (List.range n).map fun i => f (k + (i : Nat))
theorem mkL_len (f : Int → Int) (n : Nat) (k : Int) : (mkL f n k).length = n := by simp [mkL]
theorem mkL_at (f : Int → Int) (n : Nat) (k : Int) {i : Int} {v : Int} (h : At (mkL f n k) i v) (h0 : 0 ≤ i) : v = f (k + i) := by
  have := h.get
  unfold mkL at this
  rw [List.getElem?_map] at this
  obtain ⟨j, hj, e⟩ := Option.map_eq_some_iff.1 this
  obtain ⟨hlt, e2⟩ := List.getElem?_eq_some_iff.1 hj
  simp at e2
  rw [← e, ← e2, show ((i.toNat : Nat) : Int) = i by omega]
theorem mkL_succ (f : Int → Int) (n : Nat) (k : Int) : mkL f (n + 1) k = mkL f n k ++ [f (k + n)] := by simp [mkL, List.range_succ]
theorem take_set_succ {α : Type} {b : List α} {i : Int} (h0 : 0 ≤ i) (h1 : i < b.length) (v : α) : (b.set i.toNat v).take (i + 1).toNat = b.take i.toNat ++ [v] := by
  rw [show (i + 1).toNat = i.toNat + 1 by omega, List.take_add_one, List.getElem?_set_self (by omega), List.take_set_of_le (by omega)]
  rfl
theorem get_of_lt {α : Type} {b : List α} {i : Int} (h0 : 0 ≤ i) (h1 : i < b.length) : ∃ u, b[i.toNat]? = some u := ⟨b[i.toNat]'(by omega), by simp⟩
theorem chk_at {α : Type} {b : List α} {i : Int} (h0 : 0 ≤ i) (h1 : i < b.length) : decide (0 ≤ i ∧ i < (b.length : Int)) = true := decide_eq_true ⟨h0, h1⟩

/-! ### Sizes -/
end Go.Cams
namespace Go.Cams
open Go Go.Fw
/-! ### Phases -/
end Go.Cams
namespace Go.Cams
open Go Go.Fw
end Go.Cams


/- Best phases and sums of lifts, in plain terms. -/
namespace Go.Cams
open Go Go.Fw
theorem wrap16 {x : Int} (h1 : -32768 ≤ x) (h2 : x ≤ 32767) : wr .i16 x = x := by
  show IntKind.i16.wrap x = x
  simp [IntKind.wrap, IntKind.bits, IntKind.signed]
  omega
end Go.Cams


/- Machines, turns, and greatest numbers, in plain terms. -/
namespace Go.Cams
open Go Go.Fw
abbrev Mch : Type := List Int × (List Int × (List Int × Unit))
/-- What is known of a list of int16. -/
structure Rng (l : List Int) : Prop where
  len : (l.length : Int) * 2 ≤ 140737488351232
  el : ∀ v ∈ l, -32768 ≤ v ∧ v ≤ 32767
theorem Rng.len' {l : List Int} (h : Rng l) : (l.length : Int) ≤ 70368744175616 := by have := h.len; omega
theorem Rng.id {l : List Int} (h : Rng l) {v : Int} (hv : v ∈ l) : wr .i64 v = v := by have := h.el v hv; exact wrap_id (by omega) (by omega)
theorem rng_of {l : List Int} (h : Dom (.slc (.int .i16)) l) : Rng l :=
  ⟨Int.ofNat_le.2 h.1, fun v hv => by
    have := h.2 v hv
    have e1 : IntKind.i16.min = -32768 := rfl
    have e2 : IntKind.i16.max = 32767 := rfl
    simp only [Dom] at this
    rw [e1, e2] at this
    exact this⟩
structure RngM (m : Mch) : Prop where
  x : Rng m.1
  y : Rng m.2.1
  p : Rng m.2.2.1
def mxF (l : List Int) (a : Int) : Int := l.foldl (fun m v => max m v) a
def mnF (l : List Int) (a : Int) : Int := l.foldl (fun m v => min m v) a
theorem mxF_snoc (l : List Int) (a v : Int) : mxF (l ++ [v]) a = max (mxF l a) v := by simp [mxF]
theorem mnF_snoc (l : List Int) (a v : Int) : mnF (l ++ [v]) a = min (mnF l a) v := by simp [mnF]
def mxL (l : List Int) : Int := mxF l (l.headD 0)
def mnL (l : List Int) : Int := mnF l (l.headD 0)
theorem mxF_le : ∀ (l : List Int) (a b : Int), a ≤ b → (∀ v ∈ l, v ≤ b) → mxF l a ≤ b
  | [], a, b, h, _ => h
  | v :: r, a, b, h, hl => mxF_le r (max a v) b (by have := hl v (by simp); omega) (fun x hx => hl x (by simp [hx]))
theorem mxF_ge : ∀ (l : List Int) (a : Int), a ≤ mxF l a ∧ ∀ v ∈ l, v ≤ mxF l a
  | [], a => ⟨Int.le_refl _, fun _ h => by cases h⟩
  | v :: r, a => by
    have h := mxF_ge r (max a v)
    show a ≤ mxF r (max a v) ∧ ∀ x ∈ v :: r, x ≤ mxF r (max a v)
    refine ⟨by have := h.1; omega, fun x hx => ?_⟩
    rcases List.mem_cons.1 hx with rfl | hx
    · have := h.1; omega
    · exact h.2 x hx
theorem head_at {l : List Int} {v : Int} (h : At l 0 v) : l.headD 0 = v ∧ l.take 1 = [v] := by
  have := h.get
  cases l with
  | nil => simp at this
  | cons a r => simp at this; simp [this]
def mv (c : List Int) : Bool := okC c && decide (mxL c < 64)
def okM (m : Mch) : Bool := mv m.1 && mv m.2.1 && okC m.2.2.1 && ((m.1.length : Int) == (m.2.1.length : Int)) && ((m.1.length : Int) == (m.2.2.1.length : Int))
theorem okC_len {l : List Int} (h : okC l = true) : 8 ≤ (l.length : Int) ∧ (l.length : Int) ≤ 360 := by
  simp only [okC, Bool.and_eq_true, inR_iff] at h; exact h.1
theorem okC_el {l : List Int} (h : okC l = true) (hr : Rng l) : ∀ v ∈ l, 0 ≤ v ∧ v ≤ 10000 := by
  simp only [okC, Bool.and_eq_true, inR_iff, List.all_eq_true, okV] at h
  intro v hv
  have := h.2 v hv
  rw [hr.id hv] at this
  exact this
structure GoodM (m : Mch) : Prop where
  x : okC m.1 = true
  y : okC m.2.1 = true
  p : okC m.2.2.1 = true
  mx : mxL m.1 < 64
  my : mxL m.2.1 < 64
  xy : m.1.length = m.2.1.length
  xp : m.1.length = m.2.2.1.length
theorem goodM {m : Mch} (h : okM m = true) : GoodM m := by
  simp only [okM, mv, Bool.and_eq_true, decide_eq_true_eq, beq_iff_eq] at h
  obtain ⟨⟨⟨⟨⟨h1, h2⟩, h3, h4⟩, h5⟩, h6⟩, h7⟩ := h
  exact ⟨h1, h3, h5, h2, h4, by omega, by omega⟩

/-! ### Turns -/
/-- What marks hold a machine. -/
def mkM (m : Mch) (k : Int) : Mch := (mkL (wr .i16) m.1.length k, mkL (wr .i16) m.2.1.length (k + m.1.length), mkL (wr .i16) m.2.2.1.length (k + m.1.length + m.2.1.length), ())
def totM (m : Mch) : Int := (m.1.length : Int) + m.2.1.length + m.2.2.1.length
end Go.Cams
namespace Go.Cams
open Go Go.Fw
end Go.Cams


/- Two machines in one, in plain terms. -/
namespace Go.Cams
open Go Go.Fw
end Go.Cams


/- Events, in plain terms. -/
namespace Go.Cams
open Go Go.Fw
/-! ### Marks on events -/
end Go.Cams
namespace Go.Cams
open Go Go.Fw
end Go.Cams


/- Cutters, tips, and what a cutter leaves, in plain terms. -/
namespace Go.Cams
open Go Go.Fw
/-- An element, 0 where there is none. -/
def g (l : List Int) (i : Nat) : Int := l.getD i 0
theorem g_at {l : List Int} {i v : Int} (h : At l i v) : g l i.toNat = v := by
  have := h.get
  unfold g
  rw [List.getD_eq_getElem?_getD, this]; rfl
theorem g_idx {l : List Int} {i : Int} (h0 : 0 ≤ i) (h1 : i < l.length) : At l i (g l i.toNat) := by
  obtain ⟨v, hv⟩ := at_of (l := l) h0 h1
  rw [g_at hv]; exact hv
theorem g_mem {l : List Int} {i : Nat} (h : i < l.length) : g l i ∈ l := by
  have := g_idx (l := l) (i := i) (by omega) (by omega)
  simpa using this.mem
def cAt (l : List Int) (x : Int) : Int := g l (x % l.length).toNat

/-! ### Validity -/
def kOne (k : List Int) (i : Nat) : Bool := inR (wr .i64 (g k i)) 0 10000 && (g k (k.length - 1 - i) == g k i) && (decide (i = 0) || !decide (g k (i - 1) < g k i))
def allTo (p : Nat → Bool) (n : Nat) : Bool := (List.range n).all p
theorem allTo_iff (p : Nat → Bool) (n : Nat) : allTo p n = true ↔ ∀ i, i < n → p i = true := by simp [allTo]
def okK (k : List Int) : Bool := inR (k.length : Int) 1 31 && decide (k.length % 2 = 1) && (g k (k.length / 2) == 0) && allTo (kOne k) (k.length / 2 + 1)
/-! ### Tips -/
theorem cAt_mem {c : List Int} (h : 0 < c.length) (x : Int) : cAt c x ∈ c := by
  have h1 := Int.emod_nonneg x (show (c.length : Int) ≠ 0 by omega)
  have h2 := Int.emod_lt_of_pos x (show 0 < (c.length : Int) by omega)
  exact g_mem (by omega)
/-! ### Cuts -/
end Go.Cams
namespace Go.Cams
open Go Go.Fw
theorem rng_bd {l : List Int} (hl : (l.length : Int) ≤ 1000000) (h : ∀ v ∈ l, 0 ≤ v ∧ v ≤ 10000) : Rng l := ⟨by omega, fun v hv => by have := h v hv; omega⟩
end Go.Cams


/- Waste, and the best cutter, in plain terms. -/
namespace Go.Cams
open Go Go.Fw
structure RngS (K : List (List Int)) : Prop where
  len : (K.length : Int) * 24 ≤ 140737488351232
  el : ∀ k ∈ K, Rng k
theorem RngS.len' {K : List (List Int)} (h : RngS K) : (K.length : Int) ≤ 5864062014635 := by have := h.len; omega
def okKs (K : List (List Int)) : Bool := K.all okK
/-! ### What is left is not less -/
theorem getD_at {α : Type} {l : List α} {i : Int} {v d : α} (h : At l i v) : l.getD i.toNat d = v := by rw [List.getD_eq_getElem?_getD, h.get]; rfl
end Go.Cams


/- Cuts, in plain terms. -/
namespace Go.Cams
open Go Go.Fw
abbrev Ct : Type := Int × (Int × (Int × Unit))
structure RngC (L : List Ct) : Prop where
  len : (L.length : Int) * 6 ≤ 140737488351232
  el : ∀ v ∈ L, (-32768 ≤ v.1 ∧ v.1 ≤ 32767) ∧ (-32768 ≤ v.2.1 ∧ v.2.1 ≤ 32767) ∧ (-128 ≤ v.2.2.1 ∧ v.2.2.1 ≤ 127)
theorem RngC.len' {L : List Ct} (h : RngC L) : (L.length : Int) ≤ 23456248058538 := by have := h.len; omega
theorem RngC.i1 {L : List Ct} (h : RngC L) {v : Ct} (hv : v ∈ L) : wr .i64 v.1 = v.1 := by have := (h.el v hv).1; exact wrap_id (by omega) (by omega)
theorem RngC.i2 {L : List Ct} (h : RngC L) {v : Ct} (hv : v ∈ L) : wr .i64 v.2.1 = v.2.1 := by have := (h.el v hv).2.1; exact wrap_id (by omega) (by omega)
theorem RngC.i3 {L : List Ct} (h : RngC L) {v : Ct} (hv : v ∈ L) : wr .i64 v.2.2.1 = v.2.2.1 := by have := (h.el v hv).2.2; exact wrap_id (by omega) (by omega)
def ctOk (m : Int) (v : Ct) : Bool := inR (wr .i64 v.1) 0 359 && inR (wr .i64 v.2.1) 0 10000 && inR (wr .i64 v.2.2.1) 0 (wr .i64 (m - 1))
def okCt (L : List Ct) (m : Int) : Bool := decide ((L.length : Int) ≤ 400) && L.all (ctOk m)
def onCt (L : List Ct) (n : Int) : Bool := L.all fun v => !decide (wr .i64 v.1 ≥ n)
def okCuts (L : List Ct) (K : List (List Int)) : Bool := inR (K.length : Int) 1 8 && okKs K && okCt L K.length
def gvCode (c : List Int) (K : List (List Int)) (L : List Ct) : Int := if okC c = true then (if okCuts L K = true then (if onCt L c.length = true then 0 else 2) else 1) else 1
end Go.Cams


/- Machines that draw, in plain terms. -/
namespace Go.Cams
open Go Go.Fw
abbrev Mk : Type := List Int
abbrev Stp : Type := List Int × (Bool × Unit)
/-- A mark on the plate. -/
structure OnP (a : Mk) : Prop where
  len : a.length = 2
  x : 0 ≤ g a 0 ∧ g a 0 ≤ 63
  y : 0 ≤ g a 1 ∧ g a 1 ≤ 63
theorem OnP.eq {a : Mk} (h : OnP a) : a = [g a 0, g a 1] := by
  have hl := h.len
  match a, hl with
  | [x, y], _ => rfl
theorem onP_pair {x y : Int} (hx : 0 ≤ x ∧ x ≤ 63) (hy : 0 ≤ y ∧ y ≤ 63) : OnP [x, y] := ⟨rfl, hx, hy⟩
def siz (x : Int) : Int := if x < 0 then -x else x
def far (a b : Mk) : Int := max (siz (g a 0 - g b 0)) (siz (g a 1 - g b 1))
/-- The nearest whole number of a fraction. -/
def nr (x n : Int) : Int := (2 * x + n) / (2 * n)
def pt (a b : Mk) (k : Int) (i : Nat) : Int := g a i + nr (k * (g b i - g a i)) (far a b)
def ptM (a b : Mk) (k : Int) : Mk := [pt a b k 0, pt a b k 1]
def lineM (a b : Mk) : List Mk := if far a b = 0 then [a] else (List.range (far a b + 1).toNat).map fun k => ptM a b (k : Nat)
theorem far_bd {a b : Mk} (ha : OnP a) (hb : OnP b) : 0 ≤ far a b ∧ far a b ≤ 63 ∧ (∀ i : Nat, i = 0 ∨ i = 1 → -far a b ≤ g b i - g a i ∧ g b i - g a i ≤ far a b) := by
  have h1 := ha.x; have h2 := ha.y; have h3 := hb.x; have h4 := hb.y
  have e : far a b = max (siz (g a 0 - g b 0)) (siz (g a 1 - g b 1)) := rfl
  have e1 : siz (g a 0 - g b 0) = if g a 0 - g b 0 < 0 then -(g a 0 - g b 0) else g a 0 - g b 0 := rfl
  have e2 : siz (g a 1 - g b 1) = if g a 1 - g b 1 < 0 then -(g a 1 - g b 1) else g a 1 - g b 1 := rfl
  refine ⟨?_, ?_, fun i hi => ?_⟩
  · split at e1 <;> omega
  · split at e1 <;> split at e2 <;> omega
  · rcases hi with rfl | rfl
    · split at e1 <;> omega
    · split at e2 <;> omega
theorem nr_bd {k d n : Int} (hn : 0 < n) (k0 : 0 ≤ k) (k1 : k ≤ n) (h1 : -n ≤ d) (h2 : d ≤ n) : (0 ≤ d → 0 ≤ nr (k * d) n ∧ nr (k * d) n ≤ d) ∧ (d ≤ 0 → d ≤ nr (k * d) n ∧ nr (k * d) n ≤ 0) := by
  have hnn : (2 * (n * d) + n) / (2 * n) = d := by
    rw [show 2 * (n * d) + n = n + (2 * n) * d by rw [Int.mul_assoc]; omega, Int.add_mul_ediv_left _ _ (by omega)]
    rw [Int.ediv_eq_zero_of_lt (by omega) (by omega)]; omega
  have h00 : (2 * 0 + n) / (2 * n) = 0 := Int.ediv_eq_zero_of_lt (by omega) (by omega)
  unfold nr
  constructor
  · intro hd
    have a : 0 ≤ k * d := Int.mul_nonneg k0 hd
    have b : k * d ≤ n * d := Int.mul_le_mul_of_nonneg_right k1 hd
    have c := Int.ediv_le_ediv (c := 2 * n) (by omega) (show 2 * 0 + n ≤ 2 * (k * d) + n by omega)
    have e := Int.ediv_le_ediv (c := 2 * n) (by omega) (show 2 * (k * d) + n ≤ 2 * (n * d) + n by omega)
    omega
  · intro hd
    have a : k * d ≤ 0 := Int.mul_nonpos_of_nonneg_of_nonpos k0 hd
    have b : n * d ≤ k * d := Int.mul_le_mul_of_nonpos_right k1 hd
    have c := Int.ediv_le_ediv (c := 2 * n) (by omega) (show 2 * (k * d) + n ≤ 2 * 0 + n by omega)
    have e := Int.ediv_le_ediv (c := 2 * n) (by omega) (show 2 * (n * d) + n ≤ 2 * (k * d) + n by omega)
    omega
theorem pt_bd {a b : Mk} (ha : OnP a) (hb : OnP b) (hn : far a b ≠ 0) {k : Int} (k0 : 0 ≤ k) (k1 : k ≤ far a b) {i : Nat} (hi : i = 0 ∨ i = 1) : 0 ≤ pt a b k i ∧ pt a b k i ≤ 63 := by
  obtain ⟨f0, f1, f2⟩ := far_bd ha hb
  have hx := ha.x; have hy := ha.y; have kx := hb.x; have ky := hb.y
  obtain ⟨b1, b2⟩ := nr_bd (show 0 < far a b by omega) k0 k1 (f2 i hi).1 (f2 i hi).2
  have hga : 0 ≤ g a i ∧ g a i ≤ 63 := by rcases hi with rfl | rfl <;> assumption
  have hgb : 0 ≤ g b i ∧ g b i ≤ 63 := by rcases hi with rfl | rfl <;> assumption
  unfold pt
  rcases Int.le_total 0 (g b i - g a i) with h | h
  · have := b1 h; omega
  · have := b2 h; omega
theorem nr_zero {n : Int} (hn : 0 < n) : nr 0 n = 0 := by
  unfold nr
  exact Int.ediv_eq_zero_of_lt (by omega) (by omega)
theorem ptM_zero {a b : Mk} (ha : OnP a) (hb : OnP b) (hn : far a b ≠ 0) : ptM a b 0 = a := by
  obtain ⟨f0, _, _⟩ := far_bd ha hb
  have h : ∀ i, pt a b 0 i = g a i := fun i => by
    unfold pt
    rw [Int.zero_mul, nr_zero (by omega)]; omega
  unfold ptM
  rw [h, h]
  exact ha.eq.symm
theorem lineM_on {a b : Mk} (ha : OnP a) (hb : OnP b) : ∀ m ∈ lineM a b, OnP m := by
  intro m hm
  unfold lineM at hm
  split at hm
  · simp at hm; subst hm; exact ha
  · rename_i hn
    simp only [List.mem_map, List.mem_range] at hm
    obtain ⟨k, hk, rfl⟩ := hm
    exact onP_pair (pt_bd ha hb hn (by omega) (by omega) (.inl rfl)) (pt_bd ha hb hn (by omega) (by omega) (.inr rfl))
theorem lineM_same {a : Mk} : lineM a a = [a] := by
  unfold lineM
  rw [if_pos]
  unfold far siz
  simp
/-- Ink on a plate. -/
def inkP (p : List Int) (m : Mk) : List Int := p.set (g m 1).toNat (bitsI .or .u64 (g p (g m 1).toNat) (shl_ .u64 1 (g m 0)))
def inkL (p : List Int) (l : List Mk) : List Int := l.foldl inkP p
/-- The stops of a machine. -/
def stopM (m : Mch) (i : Nat) : Stp := ([g m.1 i, g m.2.1 i], (g m.2.2.1 i == 0), ())
theorem mx_el {l : List Int} (h : mxL l < 64) : ∀ v ∈ l, v ≤ 63 := fun v hv => by
  have := (mxF_ge l (l.headD 0)).2 v hv
  unfold mxL at h; omega
theorem stop_on {m : Mch} (hr : RngM m) (G : GoodM m) {i : Nat} (h : i < m.1.length) : OnP (stopM m i).1 := by
  have h1 := okC_el G.x hr.x _ (g_mem h)
  have h2 := mx_el G.mx _ (g_mem h)
  have h3 := okC_el G.y hr.y _ (g_mem (i := i) (by have := G.xy; omega))
  have h4 := mx_el G.my _ (g_mem (i := i) (by have := G.xy; omega))
  exact onP_pair ⟨h1.1, h2⟩ ⟨h3.1, h4⟩
/-- What the first stops draw. -/
def drawTo (m : Mch) : Nat → List Int
  | 0 => List.replicate 64 0
  | i + 1 => if (stopM m i).2.1 = true then (if (stopM m ((i + 1) % m.1.length)).2.1 = true then inkL (inkP (drawTo m i) (stopM m i).1) (lineM (stopM m i).1 (stopM m ((i + 1) % m.1.length)).1) else inkP (drawTo m i) (stopM m i).1) else drawTo m i
end Go.Cams


/- Motions by laws, runs of a cam, and programs that are found, in plain terms. -/
namespace Go.Cams
open Go Go.Fw
/-! ### Runs -/
def kdOf (x : Int) : Int := if x > 0 then 1 else if x < 0 then -1 else 0
def kd (c : List Int) (x : Int) : Int := kdOf (cAt c (x + 1) - cAt c x)
/-- How many steps ahead of a place are of the kind of step 0, no more than so many. -/
def bkF (K : Int → Int) : Nat → Nat → Nat
  | 0, b => b
  | f + 1, b => if K (-(b : Int) - 1) = K 0 then bkF K f (b + 1) else b
/-- How long a run is. -/
def rlF (K : Int → Int) (s : Int) : Nat → Nat → Nat
  | 0, l => l
  | f + 1, l => if K (s + l) = K s then rlF K s f (l + 1) else l
def rl (K : Int → Int) (s : Int) (left : Nat) : Nat := rlF K s (left - 1) 1
/-- Runs, from a step on, so many steps. -/
def rsF (c : List Int) : Nat → Int → Nat → List Ct
  | 0, _, _ => []
  | f + 1, s, left => if left = 0 then [] else (kd c s, s % c.length, ((rl (kd c) s left : Nat) : Int), ()) :: rsF c f (s + (rl (kd c) s left : Nat)) (left - rl (kd c) s left)
def rs (c : List Int) (s : Int) (left : Nat) : List Ct := rsF c left s left
/-- Steps ahead of step 0 that are of its kind: all of them, or none but so many. -/
def bk (c : List Int) : Nat := bkF (kd c) c.length 0
/-! ### Motions that are found -/
/-! ### Marks of three numbers -/
end Go.Cams


/- Plans of cuts, in plain terms. -/
namespace Go.Cams
open Go Go.Fw
/-- A layer of cuts ahead of a step. -/
def la (t : List Int) (above layer w : Int) : Nat → List Ct → Option (List Ct)
  | 0, o => some o
  | s + 1, o => (la t above layer w s o).bind fun o => if g t s ≥ above then some o else if o.length = 400 then none else some (o ++ [((s : Int), max layer (g t s), w, ())])
end Go.Cams


/- Stops that are planned, in plain terms. -/
namespace Go.Cams
open Go Go.Fw
abbrev Stk : Type := List Mk
def gM (L : List Mk) (i : Nat) : Mk := L.getD i []
theorem gM_idx {L : List Mk} {i : Int} (h0 : 0 ≤ i) (h1 : i < L.length) : At L i (gM L i.toNat) := by
  obtain ⟨v, hv⟩ := at_of (l := L) h0 h1
  have : gM L i.toNat = v := getD_at hv
  rw [this]; exact hv
theorem lineM_get {a b : Mk} (hn : far a b ≠ 0) {i : Nat} (h : i < (far a b + 1).toNat) : gM (lineM a b) i = ptM a b (i : Nat) := by
  unfold gM lineM
  rw [if_neg hn, List.getD_eq_getElem?_getD, List.getElem?_map, List.getElem?_range h]
  rfl
theorem lineM_length {a b : Mk} (ha : OnP a) (hb : OnP b) : ((lineM a b).length : Int) = far a b + 1 := by
  obtain ⟨f0, _, _⟩ := far_bd ha hb
  unfold lineM
  split
  · rename_i h; rw [h]; rfl
  · simp; omega
theorem far_zero {a b : Mk} (ha : OnP a) (hb : OnP b) (h : far a b = 0) : a = b := by
  obtain ⟨_, _, f2⟩ := far_bd ha hb
  have h0 := f2 0 (.inl rfl)
  have h1 := f2 1 (.inr rfl)
  rw [ha.eq, hb.eq]
  rw [show g a 0 = g b 0 by omega, show g a 1 = g b 1 by omega]
theorem nr_full {d n : Int} (hn : 0 < n) (k : Int) (hd : d = n ∨ d = -n) : nr (k * d) n = if d = n then k else -k := by
  unfold nr
  rcases hd with rfl | rfl
  · rw [if_pos rfl, show 2 * (k * d) + d = d + (2 * d) * k by rw [Int.mul_assoc, Int.mul_comm d k]; omega, Int.add_mul_ediv_left _ _ (by omega), Int.ediv_eq_zero_of_lt (by omega) (by omega)]; omega
  · rw [if_neg (by omega), show 2 * (k * -n) + n = n + (2 * n) * (-k) by rw [Int.mul_neg k n, Int.mul_neg 2 (k * n), Int.mul_neg (2 * n) k, Int.mul_assoc, Int.mul_comm n k]; omega, Int.add_mul_ediv_left _ _ (by omega), Int.ediv_eq_zero_of_lt (by omega) (by omega)]; omega
theorem nr_end {d n : Int} (hn : 0 < n) : nr (n * d) n = d := by
  unfold nr
  rw [show 2 * (n * d) + n = n + (2 * n) * d by rw [Int.mul_assoc]; omega, Int.add_mul_ediv_left _ _ (by omega), Int.ediv_eq_zero_of_lt (by omega) (by omega)]; omega
theorem nr_step {d n k : Int} (hn : 0 < n) (h1 : -n ≤ d) (h2 : d ≤ n) : -1 ≤ nr ((k + 1) * d) n - nr (k * d) n ∧ nr ((k + 1) * d) n - nr (k * d) n ≤ 1 := by
  unfold nr
  rw [Int.add_mul, Int.one_mul]
  obtain ⟨e, he⟩ : ∃ e, e = k * d := ⟨_, rfl⟩
  rw [← he]
  have a := Int.ediv_le_ediv (c := 2 * n) (by omega) (show 2 * (e + d) + n ≤ (2 * e + n) + 2 * n * 1 by omega)
  rw [Int.add_mul_ediv_left _ _ (by omega)] at a
  have b := Int.ediv_le_ediv (c := 2 * n) (by omega) (show (2 * e + n) + 2 * n * (-1) ≤ 2 * (e + d) + n by omega)
  rw [Int.add_mul_ediv_left _ _ (by omega)] at b
  omega
theorem ptM_end {a b : Mk} (ha : OnP a) (hb : OnP b) (hn : far a b ≠ 0) : ptM a b (far a b) = b := by
  obtain ⟨f0, _, _⟩ := far_bd ha hb
  have h : ∀ i, pt a b (far a b) i = g b i := fun i => by
    unfold pt
    rw [nr_end (by omega)]; omega
  unfold ptM
  rw [h, h]
  exact hb.eq.symm
theorem lineM_one {a b : Mk} (ha : OnP a) (hb : OnP b) (h : far a b = 1) : lineM a b = [a, b] := by
  have h0 := ptM_zero ha hb (by omega)
  have h1 := ptM_end ha hb (by omega)
  rw [h] at h1
  unfold lineM
  rw [if_neg (by omega), h]
  show [ptM a b ((0 : Nat) : Int), ptM a b ((1 : Nat) : Int)] = _
  rw [show ((0 : Nat) : Int) = 0 from rfl, show ((1 : Nat) : Int) = 1 from rfl, h0, h1]
theorem line_step {a b : Mk} (ha : OnP a) (hb : OnP b) {i : Nat} (h : (i : Int) < far a b) : lineM (gM (lineM a b) i) (gM (lineM a b) (i + 1)) = [gM (lineM a b) i, gM (lineM a b) (i + 1)] := by
  obtain ⟨f0, f1, f2⟩ := far_bd ha hb
  have hn : far a b ≠ 0 := by omega
  rw [lineM_get hn (by omega), lineM_get hn (by omega)]
  have p0 := onP_pair (pt_bd ha hb hn (k := (i : Nat)) (by omega) (by omega) (.inl rfl)) (pt_bd ha hb hn (k := (i : Nat)) (by omega) (by omega) (.inr rfl))
  have p1 := onP_pair (pt_bd ha hb hn (k := ((i + 1 : Nat) : Int)) (by omega) (by omega) (.inl rfl)) (pt_bd ha hb hn (k := ((i + 1 : Nat) : Int)) (by omega) (by omega) (.inr rfl))
  refine lineM_one p0 p1 ?_
  have s0 := nr_step (k := (i : Int)) (show 0 < far a b by omega) (f2 0 (.inl rfl)).1 (f2 0 (.inl rfl)).2
  have s1 := nr_step (k := (i : Int)) (show 0 < far a b by omega) (f2 1 (.inr rfl)).1 (f2 1 (.inr rfl)).2
  have e0 : pt a b ((i + 1 : Nat) : Int) 0 - pt a b (i : Int) 0 = nr (((i : Int) + 1) * (g b 0 - g a 0)) (far a b) - nr ((i : Int) * (g b 0 - g a 0)) (far a b) := by
    unfold pt
    rw [show ((i + 1 : Nat) : Int) = (i : Int) + 1 by omega]; omega
  have e1 : pt a b ((i + 1 : Nat) : Int) 1 - pt a b (i : Int) 1 = nr (((i : Int) + 1) * (g b 1 - g a 1)) (far a b) - nr ((i : Int) * (g b 1 - g a 1)) (far a b) := by
    unfold pt
    rw [show ((i + 1 : Nat) : Int) = (i : Int) + 1 by omega]; omega
  have full : ∀ d, d = far a b ∨ d = -far a b → nr (((i : Int) + 1) * d) (far a b) - nr ((i : Int) * d) (far a b) = 1 ∨ nr (((i : Int) + 1) * d) (far a b) - nr ((i : Int) * d) (far a b) = -1 := fun d hd => by
    rw [nr_full (by omega) _ hd, nr_full (by omega) _ hd]
    split <;> omega
  have ef : far a b = max (siz (g a 0 - g b 0)) (siz (g a 1 - g b 1)) := rfl
  have d0 : siz (g a 0 - g b 0) = if g a 0 - g b 0 < 0 then -(g a 0 - g b 0) else g a 0 - g b 0 := rfl
  have d1 : siz (g a 1 - g b 1) = if g a 1 - g b 1 < 0 then -(g a 1 - g b 1) else g a 1 - g b 1 := rfl
  show max (siz (pt a b (i : Int) 0 - pt a b ((i + 1 : Nat) : Int) 0)) (siz (pt a b (i : Int) 1 - pt a b ((i + 1 : Nat) : Int) 1)) = 1
  have h3 : ∀ x, siz x = if x < 0 then -x else x := fun _ => rfl
  rw [h3, h3]
  have hor : g b 0 - g a 0 = far a b ∨ g b 0 - g a 0 = -far a b ∨ g b 1 - g a 1 = far a b ∨ g b 1 - g a 1 = -far a b := by
    split at d0 <;> split at d1 <;> omega
  rcases hor with hh | hh | hh | hh
  · have := full _ (.inl hh)
    split <;> split <;> omega
  · have := full _ (.inr hh)
    split <;> split <;> omega
  · have := full _ (.inl hh)
    split <;> split <;> omega
  · have := full _ (.inr hh)
    split <;> split <;> omega
theorem seg_two {L : List Mk} {i : Nat} (h : i + 1 < L.length) : (L.take (i + 2)).drop i = [gM L i, gM L (i + 1)] := by
  have e0 : L[i]? = some (gM L i) := by unfold gM; rw [List.getD_eq_getElem?_getD, List.getElem?_eq_getElem (by omega)]; rfl
  have e1 : L[i + 1]? = some (gM L (i + 1)) := by unfold gM; rw [List.getD_eq_getElem?_getD, List.getElem?_eq_getElem (by omega)]; rfl
  rw [List.take_add_one, List.take_add_one, e0, e1]
  simp only [Option.toList_some, List.append_assoc]
  rw [List.drop_append_of_le_length (by simp; omega), List.drop_of_length_le (by simp; omega)]
  rfl
/-- The place to go to: as far as the line is the same. -/
def bkJ (L : List Mk) (i : Nat) : Nat → Nat
  | 0 => 0
  | j + 1 => if lineM (gM L i) (gM L (j + 1)) = (L.take (j + 2)).drop i then j + 1 else bkJ L i j
theorem bkJ_le (L : List Mk) (i : Nat) : ∀ j, bkJ L i j ≤ j
  | 0 => Nat.le_refl _
  | j + 1 => by
    unfold bkJ
    split
    · exact Nat.le_refl _
    · have := bkJ_le L i j; omega
theorem bkJ_gt {a b : Mk} (ha : OnP a) (hb : OnP b) {i : Nat} (h : (i : Int) < far a b) : ∀ j, i < j → j < (lineM a b).length → i < bkJ (lineM a b) i j
  | 0, hj, _ => by omega
  | j + 1, hj, hl => by
    unfold bkJ
    split
    · exact hj
    · rename_i hc
      by_cases e : i = j
      · subst e
        exact absurd (by rw [line_step ha hb h, seg_two hl]) hc
      · exact bkJ_gt ha hb h j (by omega) (by omega)
def toJ (most : Nat) (down : Bool) (L : List Mk) (i : Nat) : Nat := if down = true then bkJ L i (min (i + most) (L.length - 1)) else min (i + most) (L.length - 1)
def goF (most : Nat) (down : Bool) (L : List Mk) : Nat → Nat → List Stp
  | 0, _ => []
  | f + 1, i => if i < L.length - 1 then (gM L (toJ most down L i), down, ()) :: goF most down L f (toJ most down L i) else []
theorem toJ_bd {most : Nat} (hm : 1 ≤ most) (down : Bool) {a b : Mk} (ha : OnP a) (hb : OnP b) {i : Nat} (h : i < (lineM a b).length - 1) : i < toJ most down (lineM a b) i ∧ toJ most down (lineM a b) i ≤ (lineM a b).length - 1 := by
  have hl := lineM_length ha hb
  unfold toJ
  split
  · have h1 := bkJ_gt ha hb (i := i) (by omega) (min (i + most) ((lineM a b).length - 1)) (by omega) (by omega)
    have h2 := bkJ_le (lineM a b) i (min (i + most) ((lineM a b).length - 1))
    omega
  · omega
def goL (most : Nat) (down : Bool) (a b : Mk) : List Stp := goF most down (lineM a b) 64 0
theorem goF_last (most : Nat) (down : Bool) (L : List Mk) (f : Nat) {i : Nat} (h : ¬ i < L.length - 1) : goF most down L f i = [] := by
  cases f with
  | zero => rfl
  | succ f => unfold goF; rw [if_neg h]
theorem line_last {a b : Mk} (ha : OnP a) (hb : OnP b) : gM (lineM a b) ((lineM a b).length - 1) = b := by
  have hl := lineM_length ha hb
  obtain ⟨f0, _, _⟩ := far_bd ha hb
  by_cases hn : far a b = 0
  · have := far_zero ha hb hn
    subst this
    rw [lineM_same]; rfl
  · rw [lineM_get hn (by omega), show (((lineM a b).length - 1 : Nat) : Int) = far a b by omega, ptM_end ha hb hn]
/-! ### Strokes -/
structure RngT (K : List Stk) : Prop where
  len : (K.length : Int) * 24 ≤ 140737488351232
  el : ∀ s ∈ K, (s.length : Int) * 4 ≤ 140737488351232 ∧ ∀ m ∈ s, m.length = 2 ∧ ∀ v ∈ m, -32768 ≤ v ∧ v ≤ 32767
def drF (most : Nat) (st : Mk × List Stp) (m : Mk) : Mk × List Stp := (m, st.2 ++ goL most true st.1 m)
def o0 : Mk := List.replicate 2 0
/-! ### Sizes and marks -/
theorem RngT.len' {K : List Stk} (h : RngT K) : (K.length : Int) ≤ 5864062014635 := by have := h.len; omega
end Go.Cams


/- Machines that are made of stops, in plain terms. -/
namespace Go.Cams
open Go Go.Fw
end Go.Cams


/- Stretches of cams, their grids of bits and their fillings, in plain terms. -/
namespace Go.Cams
open Go Go.Fw

/-! ### Lists told by a function -/
def tb {α : Type} (n : Nat) (G : Nat → α) : List α := (List.range n).map G
theorem tb_len {α : Type} (n : Nat) (G : Nat → α) : (tb n G).length = n := by simp [tb]
theorem tb_get {α : Type} {n : Nat} {G : Nat → α} {i : Nat} (h : i < n) : (tb n G)[i]? = some (G i) := by simp [tb, h]
theorem tb_ext {α : Type} {n : Nat} {G G' : Nat → α} (h : ∀ j, j < n → G j = G' j) : tb n G = tb n G' := List.map_congr_left fun j hj => h j (by simpa using hj)
theorem tb_rep {α : Type} (n : Nat) (a : α) : List.replicate n a = tb n fun _ => a := by
  apply List.ext_getElem?
  intro i
  by_cases h : i < n
  · rw [tb_get h, List.getElem?_replicate, if_pos h]
  · rw [List.getElem?_eq_none (by simpa using h), List.getElem?_eq_none (by rw [tb_len]; omega)]
theorem tb_set {α : Type} (n : Nat) (G : Nat → α) (i : Nat) (v : α) : (tb n G).set i v = tb n fun j => if j = i then v else G j := by
  apply List.ext_getElem?
  intro j
  by_cases h : j < n
  · rw [tb_get h, List.getElem?_set]
    by_cases e : i = j
    · subst e; simp [tb_len, h]
    · rw [if_neg e, tb_get h, if_neg (fun h => e h.symm)]
  · rw [List.getElem?_eq_none (by rw [List.length_set, tb_len]; omega), List.getElem?_eq_none (by rw [tb_len]; omega)]
/-! ### Rows of bits -/
def mkN (p : Nat → Bool) : Nat → Nat
  | 0 => 0
  | n + 1 => 2 ^ n * (if p n = true then 1 else 0) + mkN p n
theorem mkN_lt (p : Nat → Bool) : ∀ n, mkN p n < 2 ^ n
  | 0 => by simp [mkN]
  | n + 1 => by
    have := mkN_lt p n
    have e : 2 ^ (n + 1) = 2 ^ n + 2 ^ n := by rw [Nat.pow_succ]; omega
    unfold mkN
    split <;> omega
theorem mkN_bit (p : Nat → Bool) : ∀ (n y : Nat), (mkN p n).testBit y = (decide (y < n) && p y)
  | 0, y => by simp [mkN]
  | n + 1, y => by
    unfold mkN
    rw [Nat.testBit_two_pow_mul_add _ (mkN_lt p n), mkN_bit p n y]
    by_cases h : y < n
    · rw [if_pos h]; simp [h, show y < n + 1 by omega]
    · rw [if_neg h]
      by_cases h2 : y = n
      · subst h2
        simp only [Nat.sub_self]
        split <;> rename_i h3 <;> simp [h3]
      · have e : decide (y < n + 1) = false := decide_eq_false (by omega)
        rw [e, Bool.false_and]
        split
        · have : (1 : Nat) = 2 ^ 1 - 1 := rfl
          rw [this, Nat.testBit_two_pow_sub_one]
          exact decide_eq_false (by omega)
        · simp
theorem mkN_congr {p q : Nat → Bool} : ∀ {n : Nat}, (∀ y, y < n → p y = q y) → mkN p n = mkN q n
  | 0, _ => rfl
  | n + 1, h => by
    unfold mkN
    rw [h n (by omega), mkN_congr fun y hy => h y (by omega)]
theorem mkN_eq {p : Nat → Bool} {n x : Nat} (hx : x < 2 ^ n) (h : ∀ y, y < n → x.testBit y = p y) : x = mkN p n := by
  apply Nat.eq_of_testBit_eq
  intro y
  rw [mkN_bit]
  by_cases hy : y < n
  · rw [h y hy]; simp [hy]
  · rw [Nat.testBit_lt_two_pow (Nat.lt_of_lt_of_le hx (Nat.pow_le_pow_right (by omega) (by omega)))]
    simp [hy]
theorem mkN_zero {p : Nat → Bool} {n : Nat} (h : ∀ y, y < n → p y = false) : mkN p n = 0 := (mkN_eq (p := p) (x := 0) (Nat.pow_pos (by omega)) (by simpa using fun y hy => (h y hy))).symm
/-- A row of 64 bits, as the program has it. -/
def row (p : Nat → Bool) : Int := ((mkN p 64 : Nat) : Int)
theorem row_lt (p : Nat → Bool) : mkN p 64 < 18446744073709551616 := mkN_lt p 64
theorem row_congr {p q : Nat → Bool} (h : ∀ y, y < 64 → p y = q y) : row p = row q := by unfold row; rw [mkN_congr h]
theorem wrU {x : Int} (h0 : 0 ≤ x) (h1 : x < 18446744073709551616) : wr .u64 x = x := by
  show IntKind.u64.wrap x = x
  simp [IntKind.wrap, IntKind.signed, IntKind.bits]; omega
theorem ofInt_nat {a : Nat} (h : a < 18446744073709551616) : (BitVec.ofInt 64 (a : Int)).toNat = a := by
  rw [BitVec.ofInt_natCast, BitVec.toNat_ofNat]; exact Nat.mod_eq_of_lt (by omega)
theorem or_nat {a b : Nat} (ha : a < 18446744073709551616) (hb : b < 18446744073709551616) : bitsI .or .u64 (a : Int) (b : Int) = ((a ||| b : Nat) : Int) := by
  show IntKind.u64.wrap ((BitVec.ofInt 64 (a : Int) ||| BitVec.ofInt 64 (b : Int)).toNat : Int) = _
  rw [BitVec.toNat_or, ofInt_nat ha, ofInt_nat hb]
  have : a ||| b < 2 ^ 64 := Nat.or_lt_two_pow (by omega) (by omega)
  exact wrU (by omega) (by omega)
theorem row_or (p q : Nat → Bool) : bitsI .or .u64 (row p) (row q) = row fun y => p y || q y := by
  unfold row
  rw [or_nat (row_lt p) (row_lt q)]
  refine Int.ofNat_inj.2 (mkN_eq (Nat.or_lt_two_pow (row_lt p) (row_lt q)) fun y hy => ?_)
  rw [Nat.testBit_or, mkN_bit, mkN_bit]; simp [hy]
theorem row_one {y : Nat} (hy : y < 64) : shl_ .u64 (1 : Int) (y : Int) = row fun z => z == y := by
  show IntKind.u64.wrap (1 * 2 ^ (min (y : Int).toNat 64)) = _
  have h2 : 2 ^ y < 2 ^ 64 := Nat.pow_lt_pow_right (by omega) hy
  have e : (1 : Int) * 2 ^ (min (y : Int).toNat 64) = ((2 ^ y : Nat) : Int) := by
    rw [Int.toNat_natCast, Nat.min_eq_left (by omega), Int.one_mul]; simp
  rw [e]
  have : IntKind.u64.wrap ((2 ^ y : Nat) : Int) = ((2 ^ y : Nat) : Int) := wrU (Int.natCast_nonneg _) (Int.ofNat_lt.2 h2)
  rw [this]
  unfold row
  refine Int.ofNat_inj.2 (mkN_eq h2 fun z hz => ?_)
  rw [Nat.testBit_two_pow]
  by_cases h : y = z
  · subst h; simp
  · have h' : ¬ z = y := fun e => h e.symm
    simp [h, h']
end Go.Cams


/- Stretches: which heights may follow, what can be reached, and fillings, in plain terms. -/
namespace Go.Cams
open Go Go.Fw
def hgt (c : List Int) (lo s : Int) : Int := cAt c s - lo
structure GoodS (c : List Int) (f m lo b : Int) : Prop where
  ok : okC c = true
  hf : 0 ≤ f ∧ f < c.length
  hm : 1 ≤ m ∧ m ≤ 40
  hm2 : m ≤ c.length - 4
  hlo : 0 ≤ lo ∧ lo ≤ 9937
  hb : 0 ≤ b ∧ b ≤ 40000
  h1 : 0 ≤ hgt c lo (f - 2) ∧ hgt c lo (f - 2) ≤ 63
  h2 : 0 ≤ hgt c lo (f - 1) ∧ hgt c lo (f - 1) ≤ 63
  h3 : 0 ≤ hgt c lo (f + m) ∧ hgt c lo (f + m) ≤ 63
  h4 : 0 ≤ hgt c lo (f + m + 1) ∧ hgt c lo (f + m + 1) ≤ 63
theorem GoodS.len {c : List Int} {f m lo b : Int} (h : GoodS c f m lo b) : 8 ≤ (c.length : Int) ∧ (c.length : Int) ≤ 360 := okC_len h.ok
/-! ### The spans -/
/-! ### Grids that are being made -/
end Go.Cams
namespace Go.Cams
open Go Go.Fw
end Go.Cams
namespace Go.Cams
open Go Go.Fw
end Go.Cams


/- Fillings that are put into cams, and repairs, in plain terms. -/
namespace Go.Cams
open Go Go.Fw
end Go.Cams
namespace Go.Cams
open Go Go.Fw
end Go.Cams


/- Cuts that are done one behind another, in plain terms. -/
namespace Go.Cams
open Go Go.Fw
end Go.Cams


/- The number of bits of a word, in plain terms. -/
namespace Go.Cams
open Go Go.Fw
def b1 (a : Nat) : Nat := (a / 2 &&& 85) + (a &&& 85)
def b2 (a : Nat) : Nat := (a / 4 &&& 51) + (a &&& 51)
def b3 (a : Nat) : Nat := (a / 16 + a) &&& 15
end Go.Cams


/- Two plates compared, in plain terms. -/
namespace Go.Cams
open Go Go.Fw
theorem g_tb {n : Nat} {G : Nat → Int} {i : Nat} (h : i < n) : g (tb n G) i = G i := by
  unfold g
  rw [List.getD_eq_getElem?_getD, tb_get h]; rfl
end Go.Cams


/- Texts of cams, in plain terms. -/
namespace Go.Cams
open Go Go.Fw
def tx (l : List UInt8) : ByteArray := ⟨l.toArray⟩
theorem tx_app (a b : List UInt8) : tx a ++ tx b = tx (a ++ b) := by
  apply ByteArray.ext
  simp [tx, ByteArray.data_append]
theorem tx_size (a : List UInt8) : (tx a).size = a.length := by
  show (a.toArray).size = _
  simp
theorem tx_list (a : List UInt8) : (tx a).data.toList = a := rfl
theorem dec_len {u : Nat} (h : u ≤ 9223372036854775807) : (Lib.decDigits u).length ≤ 21 := by
  have := Lib.itoa_length_le (u : Int) (by omega) (by omega)
  rwa [Lib.itoa_nonneg] at this
theorem dec_small {u : Nat} (h : u < 10) : Lib.decDigits u = [UInt8.ofNat (48 + u)] := Lib.decDigits_one h
theorem dec_big {u : Nat} (h : ¬ u < 10) : Lib.decDigits u = Lib.decDigits (u / 10) ++ [UInt8.ofNat (48 + u % 10)] := by rw [Lib.decDigits, dif_neg h]
/-- Runs of the same number: the number, and how often. -/
def rle : List Int → List (Int × Nat)
  | [] => []
  | v :: r => match rle r with
    | [] => [(v, 1)]
    | (w, k) :: t => if w = v then (w, k + 1) :: t else (v, 1) :: (w, k) :: t
theorem rle_cons (v : Int) (r : List Int) : rle (v :: r) = match rle r with
    | [] => [(v, 1)]
    | (w, k) :: t => if w = v then (w, k + 1) :: t else (v, 1) :: (w, k) :: t := rfl
theorem rle_head : ∀ (l : List Int) {w : Int} {k : Nat} {t : List (Int × Nat)}, rle l = (w, k) :: t → l.head? = some w
  | [], _, _, _, h => by cases h
  | v :: r, w, k, t, h => by
    rw [rle_cons] at h
    split at h
    · simp only [List.cons.injEq, Prod.mk.injEq] at h; simp [h.1.1]
    · split at h
      · rename_i e
        simp only [List.cons.injEq, Prod.mk.injEq] at h
        simp [← e, h.1.1]
      · simp only [List.cons.injEq, Prod.mk.injEq] at h; simp [h.1.1]
theorem rle_run (v : Int) {t : List Int} (ht : t.head? ≠ some v) : ∀ k, rle (List.replicate (k + 1) v ++ t) = (v, k + 1) :: rle t
  | 0 => by
    simp only [List.replicate_succ, List.replicate_zero, List.cons_append, List.nil_append]
    rw [rle_cons]
    split
    · rename_i h
      rw [h]
    · rename_i w k r h
      have := rle_head t h
      rw [if_neg (fun e => ht (by rw [this, e])), h]
  | k + 1 => by
    have ih := rle_run v ht k
    rw [List.replicate_succ, List.cons_append, rle_cons, ih]
    simp
/-- A stretch of the same number within a list. -/
theorem rle_drop {c : List Int} {i j : Nat} (h1 : i < j) (h2 : j ≤ c.length) (h3 : ∀ u, i ≤ u → u < j → g c u = g c i) (h4 : j = c.length ∨ g c j ≠ g c i) : rle (c.drop i) = (g c i, j - i) :: rle (c.drop j) := by
  have e : c.drop i = List.replicate (j - i - 1 + 1) (g c i) ++ c.drop j := by
    apply List.ext_getElem?
    intro n
    rw [List.getElem?_drop, show j - i - 1 + 1 = j - i by omega]
    by_cases hn : n < j - i
    · rw [List.getElem?_append_left (by simpa using hn), List.getElem?_replicate, if_pos hn]
      have := h3 (i + n) (by omega) (by omega)
      unfold g at this ⊢
      rw [← this, List.getD_eq_getElem?_getD, List.getElem?_eq_getElem (by omega)]
      rfl
    · rw [List.getElem?_append_right (by simp; omega), List.getElem?_drop, List.length_replicate]
      congr 1; omega
  rw [e, rle_run]
  · congr 2; omega
  · rcases h4 with h4 | h4
    · rw [h4, List.drop_length]; simp
    · intro h
      rw [List.head?_drop] at h
      apply h4
      unfold g
      rw [List.getD_eq_getElem?_getD, h]; rfl
theorem rle_len : ∀ l : List Int, (rle l).length ≤ l.length
  | [] => Nat.le_refl _
  | v :: r => by
    have := rle_len r
    rw [rle_cons]
    split
    · simp
    · rename_i h
      rw [h] at this
      split
      · simpa using Nat.le_succ_of_le this
      · simpa using this
def wordL (x : Int × Nat) : List UInt8 := if x.2 > 1 then Lib.decDigits x.1.toNat ++ 42 :: Lib.decDigits x.2 else Lib.decDigits x.1.toNat
theorem wordL_len {x : Int × Nat} (h1 : x.1 ≤ 10000000) (h2 : x.2 ≤ 10000000) : (wordL x).length ≤ 43 := by
  have a := dec_len (u := x.1.toNat) (by omega)
  have b := dec_len (u := x.2) (by omega)
  unfold wordL
  split
  · simp; omega
  · omega
def camJ (c : List Int) : List UInt8 := Lib.join ((rle c).map wordL) [32]
def camT (c : List Int) : ByteArray := if okC c = true then tx (camJ c) else tx []
theorem join_len (s : List UInt8) : ∀ (ws : List (List UInt8)) {m : Nat}, (∀ w ∈ ws, w.length ≤ m) → (Lib.join ws s).length ≤ ws.length * (m + s.length)
  | [], _, _ => by simp [Lib.join_nil]
  | x :: r, m, h => by
    have hx := h x (by simp)
    have ht : ∀ r : List (List UInt8), (∀ w ∈ r, w.length ≤ m) → (Lib.joinTail s r).length ≤ r.length * (m + s.length) := by
      intro r
      induction r with
      | nil => intro _; simp [Lib.joinTail]
      | cons y r ih =>
        intro h
        have h1 := h y (by simp)
        have h2 := ih fun w hw => h w (by simp [hw])
        simp only [Lib.joinTail, List.map_cons, List.flatten_cons, List.length_append, List.length_cons] at h2 ⊢
        rw [Nat.add_mul]
        omega
    have := ht r fun w hw => h w (by simp [hw])
    rw [Lib.join_cons, List.length_append, List.length_cons, Nat.add_mul]
    omega
end Go.Cams
namespace Go.Cams
open Go Go.Fw
theorem szT {a b : List UInt8} (ha : a.length ≤ 1000000000) (hb : b.length ≤ 1000000000) : decide ((((tx a).size + (tx b).size : Nat) : Int) ≤ 4611686018427387904) = true := by
  rw [tx_size, tx_size]
  exact decide_eq_true (by omega)
end Go.Cams
namespace Go.Cams
open Go Go.Fw
theorem rle_el : ∀ (l : List Int), ∀ x ∈ rle l, x.1 ∈ l ∧ x.2 ≤ l.length
  | [], x, h => by cases h
  | v :: r, x, h => by
    have ih := rle_el r
    rw [rle_cons] at h
    split at h
    · simp at h; rw [h]; simp
    · rename_i w k t e
      rw [e] at ih
      split at h
      · rcases List.mem_cons.1 h with h | h
        · have := ih (w, k) (by simp)
          rw [h]
          exact ⟨List.mem_cons_of_mem _ this.1, by simp; exact this.2⟩
        · have := ih x (List.mem_cons_of_mem _ h)
          exact ⟨List.mem_cons_of_mem _ this.1, by simp; omega⟩
      · rcases List.mem_cons.1 h with h | h
        · rw [h]; simp
        · have := ih x h
          exact ⟨List.mem_cons_of_mem _ this.1, by simp; omega⟩
theorem camJ_len {c : List Int} (hl : c.length ≤ 1000) (hC : ∀ v ∈ c, 0 ≤ v ∧ v ≤ 10000) : (camJ c).length ≤ 1000000 := by
  have h1 := rle_len c
  have h := join_len [32] ((rle c).map wordL) (m := 43) (fun w hw => by
    obtain ⟨x, hx, rfl⟩ := List.mem_map.1 hw
    have := rle_el c x hx
    have := hC _ this.1
    exact wordL_len (by omega) (by omega))
  simp only [List.length_map, List.length_cons, List.length_nil] at h
  unfold camJ
  omega
theorem machC : (⟨#[120, 32]⟩ : ByteArray) = tx [120, 32] ∧ (⟨#[10, 121, 32]⟩ : ByteArray) = tx [10, 121, 32] ∧ (⟨#[10, 112, 101, 110, 32]⟩ : ByteArray) = tx [10, 112, 101, 110, 32] ∧ (⟨#[10]⟩ : ByteArray) = tx [10] := ⟨rfl, rfl, rfl, rfl⟩
def machT (m : Mch) : ByteArray := tx (((((([120, 32] ++ camJ m.1) ++ [10, 121, 32]) ++ camJ m.2.1) ++ [10, 112, 101, 110, 32]) ++ camJ m.2.2.1) ++ [10])
def mtR (m : Mch) : ByteArray := if okM m = true then machT m else tx []
end Go.Cams


/- Programs and their texts, in plain terms. -/
namespace Go.Cams
open Go Go.Fw
structure RngMo (L : List Ct) : Prop where
  len : (L.length : Int) * 6 ≤ 140737488351232
  el : ∀ v ∈ L, (-128 ≤ v.1 ∧ v.1 ≤ 127) ∧ (-32768 ≤ v.2.1 ∧ v.2.1 ≤ 32767) ∧ (-32768 ≤ v.2.2.1 ∧ v.2.2.1 ≤ 32767)
theorem RngMo.len' {L : List Ct} (h : RngMo L) : (L.length : Int) ≤ 23456248058538 := by have := h.len; omega
theorem RngMo.i1 {L : List Ct} (h : RngMo L) {v : Ct} (hv : v ∈ L) : wr .i64 v.1 = v.1 := by have := (h.el v hv).1; exact wrap_id (by omega) (by omega)
theorem RngMo.i2 {L : List Ct} (h : RngMo L) {v : Ct} (hv : v ∈ L) : wr .i64 v.2.1 = v.2.1 := by have := (h.el v hv).2.1; exact wrap_id (by omega) (by omega)
theorem RngMo.i3 {L : List Ct} (h : RngMo L) {v : Ct} (hv : v ∈ L) : wr .i64 v.2.2.1 = v.2.2.1 := by have := (h.el v hv).2.2; exact wrap_id (by omega) (by omega)
end Go.Cams


/- What is drawn out of bytes, and lifts between others, in plain terms. -/
namespace Go.Cams
open Go Go.Fw
/-- A source of numbers: the bytes, how many have been read, and its state. -/
abbrev Src : Type := List Int × (Int × (Int × Unit))
/-- A number of times that a source is still read. -/
def SrcAt (k : Int) (s : Src) : Prop := (∀ v ∈ s.1, 0 ≤ v ∧ v ≤ 255) ∧ (s.1.length : Int) ≤ 1000000 ∧ 0 ≤ s.2.1 ∧ s.2.1 ≤ k
theorem SrcAt.mono {k j : Int} {s : Src} (h : SrcAt k s) (hk : k ≤ j) : SrcAt j s := ⟨h.1, h.2.1, h.2.2.1, Int.le_trans h.2.2.2 hk⟩
end Go.Cams
namespace Go.Fw
end Go.Fw
namespace Go.Cams
open Go Go.Fw
end Go.Cams
namespace Go.Fw
variable {α β σ : Type}
/-- A result of which something is told. -/
def EvtX (f : Nat → Option α) (Q : α → Prop) : Prop := ∃ y, Q y ∧ Evt f y
theorem EvtX.next {f g : Nat → Option α} {Q : α → Prop} (h : EvtX g Q) (e : ∀ n, f (n + 1) = g n) : EvtX f Q := by
  obtain ⟨y, hy, hE⟩ := h
  exact ⟨y, hy, hE.next e⟩
theorem EvtX.bind {f : Nat → Option β} {g : Nat → β → Option α} {x : β} {Q : α → Prop} (h : Evt f x) (k : EvtX (fun n => g n x) Q) : EvtX (fun n => (f n).bind (g n)) Q := by
  obtain ⟨y, hy, hE⟩ := k
  exact ⟨y, hy, Evt.bind h hE⟩
end Go.Fw
namespace Go.Cams
open Go Go.Fw
/-- A cam as it is drawn. -/
structure SmC (c : List Int) : Prop where
  len : 8 ≤ (c.length : Int) ∧ (c.length : Int) ≤ 45
  el : ∀ v ∈ c, 0 ≤ v ∧ v ≤ 59
theorem SmC.rng {c : List Int} (S : SmC c) : Rng c := rng_bd (by have := S.len; omega) fun v hv => by have := S.el v hv; omega
theorem SmC.ok {c : List Int} (S : SmC c) : okC c = true := by
  unfold okC
  have hl := S.len
  simp only [Bool.and_eq_true, inR_iff, List.all_eq_true]
  refine ⟨by omega, fun v hv => ?_⟩
  have := S.el v hv
  unfold okV
  rw [wrap_id (x := v) (by omega) (by omega), inR_iff]
  omega
end Go.Cams
namespace Go.Fw
variable {α β σ : Type}
theorem EvtX.no {c : Bool} {f g : Nat → Option α} {Q : α → Prop} (h : ¬ c = true) (k : EvtX g Q) : EvtX (fun n => if c = true then f n else g n) Q := by
  obtain ⟨y, hy, hE⟩ := k
  exact ⟨y, hy, Evt.no h hE⟩
theorem EvtX.yes {c : Bool} {f g : Nat → Option α} {Q : α → Prop} (h : c = true) (k : EvtX f Q) : EvtX (fun n => if c = true then f n else g n) Q := by
  obtain ⟨y, hy, hE⟩ := k
  exact ⟨y, hy, Evt.yes h hE⟩
theorem EvtX.chk {c : Bool} {f : Nat → Option α} {Q : α → Prop} (h : c = true) (k : EvtX f Q) : EvtX (fun n => chk c (f n)) Q := by
  obtain ⟨y, hy, hE⟩ := k
  exact ⟨y, hy, Evt.chk h hE⟩
end Go.Fw


/- Cutters as they are drawn, and which can replace which, in plain terms. -/
namespace Go.Cams
open Go Go.Fw
def dst (H j : Nat) : Nat := if j ≤ H then H - j else j - H
def symK (H : Nat) (h : Nat → Int) : List Int := tb (2 * H + 1) fun j => h (dst H j)
structure Ris (H : Nat) (h : Nat → Int) : Prop where
  zero : h 0 = 0
  up : ∀ a b, a ≤ b → b ≤ H → h a ≤ h b
  hi : ∀ a, a ≤ H → h a ≤ 1000
theorem Ris.lo {H : Nat} {h : Nat → Int} (R : Ris H h) {a : Nat} (ha : a ≤ H) : 0 ≤ h a := by
  have := R.up 0 a (by omega) ha
  rw [R.zero] at this; exact this
theorem dst_le {H j : Nat} (h : j < 2 * H + 1) : dst H j ≤ H := by unfold dst; split <;> omega
theorem symK_len (H : Nat) (h : Nat → Int) : (symK H h).length = 2 * H + 1 := tb_len _ _
theorem symK_g {H : Nat} {h : Nat → Int} {j : Nat} (hj : j < 2 * H + 1) : g (symK H h) j = h (dst H j) := g_tb hj
theorem symK_rng {H : Nat} {h : Nat → Int} (R : Ris H h) (hH : H ≤ 15) : Rng (symK H h) := rng_bd (by rw [symK_len]; omega) fun v hv => by
  unfold symK tb at hv
  obtain ⟨j, hj, rfl⟩ := List.mem_map.1 hv
  have hd := dst_le (List.mem_range.1 hj)
  have h1 := R.lo hd
  have h2 := R.hi _ hd
  omega
theorem symK_ok {H : Nat} {h : Nat → Int} (R : Ris H h) (hH : H ≤ 15) : okK (symK H h) = true := by
  have hl := symK_len H h
  have hh : (symK H h).length / 2 = H := by omega
  unfold okK
  simp only [Bool.and_eq_true, decide_eq_true_eq, beq_iff_eq, inR_iff]
  refine ⟨⟨⟨by omega, by omega⟩, ?_⟩, ?_⟩
  · rw [hh, symK_g (by omega)]
    unfold dst
    rw [if_pos (Nat.le_refl _), Nat.sub_self, R.zero]
  · rw [hh, allTo_iff]
    intro i hi
    have d1 : dst H i = H - i := by unfold dst; rw [if_pos (by omega)]
    have d2 : dst H (2 * H + 1 - 1 - i) = H - i := by unfold dst; split <;> omega
    have h1 := R.lo (a := H - i) (by omega)
    have h2 := R.hi (H - i) (by omega)
    unfold kOne
    rw [hl, symK_g (by omega), symK_g (by omega), d1, d2, wrap_id (x := h (H - i)) (by omega) (by omega)]
    simp only [Bool.and_eq_true, inR_iff, Bool.or_eq_true, decide_eq_true_eq, beq_self_eq_true, and_true]
    refine ⟨by omega, ?_⟩
    by_cases h0 : i = 0
    · exact .inl h0
    · right
      have d3 : dst H (i - 1) = H - i + 1 := by unfold dst; rw [if_pos (by omega)]; omega
      rw [symK_g (by omega), d3]
      have := R.up (H - i) (H - i + 1) (by omega) (by omega)
      simp only [Bool.not_eq_true', decide_eq_false_iff_not]
      omega
structure SmK (k : List Int) : Prop where
  rng : Rng k
  ok : okK k = true
theorem SmK.of {H : Nat} {h : Nat → Int} (R : Ris H h) (hH : H ≤ 15) : SmK (symK H h) := ⟨symK_rng R hH, symK_ok R hH⟩
end Go.Cams


/- Which cutter can replace which, in plain terms. -/
namespace Go.Cams
open Go Go.Fw
/-- How high a cutter stands on another one. -/
def stTo (a b : List Int) (off : Nat) : Nat → Int
  | 0 => 0
  | i + 1 => max (stTo a b off i) (g b (off + i) - g a i)
def st (a b : List Int) (off : Nat) : Int := stTo a b off a.length
end Go.Cams
namespace Go.Cams
open Go Go.Fw
end Go.Cams


/- A cam that is read as a program is made again by it, in plain terms. -/
namespace Go.Cams
open Go Go.Fw
end Go.Cams
namespace Go.Cams
open Go Go.Fw
end Go.Cams
namespace Go.Cams
end Go.Cams


/- The lifts of a motion rise evenly, in plain terms. -/
namespace Go.Cams
open Go Go.Fw
end Go.Cams
namespace Go.Cams
open Go Go.Fw
end Go.Cams


/- The least number of steps of a motion, its bends, and planned programs, in plain terms. -/
namespace Go.Cams
open Go Go.Fw
/-! ### Bends of a motion -/
/-! ### Planned programs -/
end Go.Cams


/- Drawn cams, lag and feet, in plain terms. -/
namespace Go.Cams
open Go Go.Fw
/-- A cam as it is drawn. -/
structure SmD (c : List Int) : Prop where
  len : 8 ≤ (c.length : Int) ∧ (c.length : Int) ≤ 36
  el : ∀ v ∈ c, 0 ≤ v ∧ v ≤ 60
theorem SmD.rng {c : List Int} (S : SmD c) : Rng c := rng_bd (by have := S.len; omega) fun v hv => by have := S.el v hv; omega
theorem okC_of {c : List Int} (h : 8 ≤ (c.length : Int) ∧ (c.length : Int) ≤ 360) (he : ∀ v ∈ c, 0 ≤ v ∧ v ≤ 10000) : okC c = true := by
  unfold okC
  simp only [Bool.and_eq_true, inR_iff, List.all_eq_true]
  exact ⟨h, fun v hv => by
    have := he v hv
    unfold okV
    rw [inR_iff, wrap_id (by omega) (by omega)]
    exact this⟩
theorem SmD.ok {c : List Int} (S : SmD c) : okC c = true := okC_of (by have := S.len; omega) fun v hv => by have := S.el v hv; omega
def grow (b : Int) (m : Nat) : Nat → List Int × Int → List Int × Int
  | 0, s => s
  | k + 1, s => if s.1.length < m then grow b m k (s.1 ++ [max 0 (min 60 (s.2 + b))], max 0 (min 60 (s.2 + b))) else s
/-! ### What lies beside -/
/-! ### Lag -/
end Go.Cams
namespace Go.Cams
open Go Go.Fw
end Go.Cams


/- Cams that are made of cams, and runs, in plain terms. -/
namespace Go.Cams
open Go Go.Fw
/-! ### Runs -/
def lenS : List Ct → Int
  | [] => 0
  | v :: r => v.2.2.1 + lenS r
def RunOk (c : List Int) : Int → List Ct → Prop
  | _, [] => True
  | s, v :: r => v.1 = kd c s ∧ v.2.1 = s % c.length ∧ 1 ≤ v.2.2.1 ∧ (∀ k : Int, 0 ≤ k → k < v.2.2.1 → kd c (s + k) = v.1) ∧ (r ≠ [] → kd c (s + v.2.2.1) ≠ v.1) ∧ RunOk c (s + v.2.2.1) r
structure RunAt (c : List Int) (s : Int) (L : List Ct) (i : Nat) (v : Ct) : Prop where
  kind : v.1 = kd c (s + lenS (L.take i))
  start : v.2.1 = (s + lenS (L.take i)) % c.length
  one : 1 ≤ v.2.2.1
  all : ∀ k : Int, 0 ≤ k → k < v.2.2.1 → kd c (s + lenS (L.take i) + k) = v.1
  next : i + 1 < L.length → kd c (s + lenS (L.take i) + v.2.2.1) ≠ v.1
theorem RunOk.at {c : List Int} : ∀ {L : List Ct} {s : Int} {i : Nat} {v : Ct}, RunOk c s L → L[i]? = some v → RunAt c s L i v
  | [], _, _, _, _, h => by simp at h
  | u :: r, s, 0, v, ⟨h1, h2, h3, h4, h5, _⟩, h => by
    simp at h
    subst h
    have e : s + lenS ((u :: r).take 0) = s := by simp [lenS]
    refine ⟨by rw [e]; exact h1, by rw [e]; exact h2, h3, by rw [e]; exact h4, fun hl => ?_⟩
    rw [e]
    exact h5 fun e => by rw [e] at hl; simp at hl
  | u :: r, s, i + 1, v, ⟨_, _, _, _, _, h6⟩, h => by
    simp at h
    have A := RunOk.at h6 h
    have e : s + lenS ((u :: r).take (i + 1)) = s + u.2.2.1 + lenS (r.take i) := by rw [List.take_succ_cons, lenS]; omega
    exact ⟨by rw [e]; exact A.kind, by rw [e]; exact A.start, A.one, by rw [e]; exact A.all, fun hl => by rw [e]; exact A.next (by simp at hl; omega)⟩
end Go.Cams


/- Plans of cuts leave what a cutter leaves at best, in plain terms. -/
namespace Go.Cams
open Go Go.Fw
/-- Cuts of one cutter alone. -/
structure OneK (m : Nat) (L : List Ct) : Prop where
  l : (L.length : Int) ≤ 400
  el : ∀ v ∈ L, (0 ≤ v.1 ∧ v.1 < (m : Int)) ∧ (0 ≤ v.2.1 ∧ v.2.1 ≤ 10000) ∧ v.2.2.1 = 0
theorem OneK.rng {m : Nat} {L : List Ct} (h : OneK m L) (hm : m ≤ 360) : RngC L := ⟨by have := h.l; omega, fun v hv => by have := h.el v hv; omega⟩
theorem OneK.cuts {m : Nat} {L : List Ct} (h : OneK m L) (hm : m ≤ 360) {k : List Int} (hk : okK k = true) : okCuts L [k] = true := by
  have hr := h.rng hm
  simp only [okCuts, okCt, Bool.and_eq_true, inR_iff, decide_eq_true_eq, List.all_eq_true]
  refine ⟨⟨by simp, by simp [okKs, hk]⟩, h.l, fun v hv => ?_⟩
  have := h.el v hv
  simp only [ctOk, Bool.and_eq_true, inR_iff]
  rw [hr.i1 hv, hr.i2 hv, hr.i3 hv, wrap_id (by simp) (by simp)]
  simp only [List.length_cons, List.length_nil]
  omega
theorem OneK.on {m : Nat} {L : List Ct} (h : OneK m L) (hm : m ≤ 360) : onCt L (m : Int) = true := by
  have hr := h.rng hm
  simp only [onCt, List.all_eq_true]
  intro v hv
  have := h.el v hv
  rw [hr.i1 hv]
  simp
  omega
theorem OneK.code {c : List Int} {L : List Ct} (h : OneK c.length L) (ok : okC c = true) {k : List Int} (hk : okK k = true) : gvCode c [k] L = 0 := by
  have := okC_len ok
  unfold gvCode
  rw [if_pos ok, if_pos (h.cuts (by omega) hk), if_pos (h.on (by omega))]
/-! ### Cuts without those that take nothing -/
end Go.Cams


/- Fillings keep within their bounds, least bounds are least, and what is reached proves it, in plain terms. -/
namespace Go.Cams
open Go Go.Fw
/-- The heights of a cam from two steps ahead of a stretch on. -/
def hN (c : List Int) (f lo : Int) (j : Nat) : Nat := (hgt c lo (f - 2 + j)).toNat
/-! ### What a filling is -/
/-! ### What is reached -/
end Go.Cams


/- What strokes a machine's stops draw: traced with a stroke at hand, and by lengthening the last one. -/
namespace Go.Cams
open Go Go.Fw
theorem onP_rng {m : Mk} (h : OnP m) : ∀ v ∈ m, -32768 ≤ v ∧ v ≤ 32767 := by
  have hx := h.x; have hy := h.y; have hl := h.len
  match m, hl with
  | [a, b], _ =>
    have hx : 0 ≤ a ∧ a ≤ 63 := hx
    have hy : 0 ≤ b ∧ b ≤ 63 := hy
    intro v hv
    simp only [List.mem_cons, List.not_mem_nil, or_false] at hv
    rcases hv with rfl | rfl <;> omega
end Go.Cams


/- What is drawn, as a set of marks: by stops, by strokes, by strokes that are traced, by stops that are planned. -/
namespace Go.Cams
open Go Go.Fw
theorem rev_ind {α : Type} {P : List α → Prop} (h0 : P []) (h1 : ∀ l a, P l → P (l ++ [a])) (l : List α) : P l := by
  rw [← List.reverse_reverse l]
  induction l.reverse with
  | nil => exact h0
  | cons a r ih => rw [List.reverse_cons]; exact h1 _ _ ih
/-! ### Plates of marks -/
def plt (L : List Mk) : List Int := tb 64 fun y => row fun x => decide ([(x : Int), (y : Int)] ∈ L)
theorem inkP_plate (L : List Mk) {m : Mk} (h : OnP m) : inkP (plt L) m = plt (L ++ [m]) := by
  have hx := h.x; have hy := h.y
  have hm := h.eq
  obtain ⟨x, ex⟩ : ∃ x : Nat, g m 0 = x := ⟨(g m 0).toNat, by omega⟩
  obtain ⟨y, ey⟩ : ∃ y : Nat, g m 1 = y := ⟨(g m 1).toNat, by omega⟩
  unfold inkP plt
  have hg : g (tb 64 fun y => row fun x => decide ([(x : Int), (y : Int)] ∈ L)) y = row fun x => decide ([(x : Int), (y : Int)] ∈ L) := by
    unfold g
    rw [List.getD_eq_getElem?_getD, tb_get (by omega)]; rfl
  rw [ex, ey, Int.toNat_natCast, hg, row_one (by omega), row_or, tb_set]
  refine tb_ext fun j hj => ?_
  rw [ex, ey] at hm
  by_cases e : j = y
  · subst e
    rw [if_pos rfl]
    refine row_congr fun z hz => ?_
    rw [hm]
    by_cases e2 : z = x
    · subst e2; simp
    · have : ([(z : Int), (j : Int)] : Mk) ≠ [(x : Int), (j : Int)] := fun h => e2 (by injection h with h _; omega)
      have h2 : ¬ (z : Int) = (x : Int) := by omega
      simp [e2, h2]
  · rw [if_neg e]
    refine row_congr fun z hz => ?_
    rw [hm]
    have h2 : ¬ (j : Int) = (y : Int) := by omega
    simp [h2]
theorem plate_nil : plt [] = List.replicate 64 0 := by
  unfold plt
  rw [tb_rep]
  refine tb_ext fun j hj => ?_
  unfold row
  rw [mkN_zero fun y hy => by simp]; rfl
theorem inkL_plate : ∀ (M L : List Mk), (∀ m ∈ M, OnP m) → inkL (plt L) M = plt (L ++ M)
  | [], L, _ => by simp [inkL]
  | m :: M, L, h => by
    show inkL (inkP (plt L) m) M = _
    rw [inkP_plate L (h m (by simp)), inkL_plate M (L ++ [m]) fun x hx => h x (by simp [hx])]
    simp
/-! ### Marks that stops draw -/
def onk (a : Stp) : List Mk := if a.2.1 = true then [a.1] else []
def sgm (a b : Stp) : List Mk := if a.2.1 = true ∧ b.2.1 = true then lineM a.1 b.1 else []
def drw : List Stp → List Mk
  | [] => []
  | [a] => onk a
  | a :: b :: r => onk a ++ (sgm a b ++ drw (b :: r))
theorem drw_snoc : ∀ (l : List Stp) (a b : Stp) (x : Mk), x ∈ drw (l ++ [a] ++ [b]) ↔ x ∈ drw (l ++ [a]) ∨ x ∈ sgm a b ∨ x ∈ onk b
  | [], a, b, x => by simp [drw]
  | [c], a, b, x => by
    simp only [drw, List.cons_append, List.nil_append, List.mem_append]
    constructor <;> intro h
    · rcases h with h | h | h | h | h <;> simp [h]
    · rcases h with (h | h | h) | h | h <;> simp [h]
  | c :: d :: l, a, b, x => by
    have ih := drw_snoc (d :: l) a b x
    simp only [List.cons_append] at ih
    simp only [List.cons_append, drw, List.mem_append, ih]
    constructor <;> intro h
    · rcases h with h | h | h | h | h <;> simp [h]
    · rcases h with (h | h | h) | h | h <;> simp [h]
theorem drw_mem : ∀ (l : List Stp) (s : Stp), s ∈ l → s.2.1 = true → s.1 ∈ drw l
  | [], _, h, _ => by simp at h
  | [a], s, h, hd => by
    simp only [List.mem_singleton] at h
    subst h
    simp [drw, onk, hd]
  | a :: b :: r, s, h, hd => by
    simp only [drw, List.mem_append]
    rcases List.mem_cons.1 h with h | h
    · subst h; simp [onk, hd]
    · exact .inr (.inr (drw_mem (b :: r) s h hd))
theorem drw_up (l : List Stp) {b : Stp} (hb : b.2.1 = false) (x : Mk) : x ∈ drw (l ++ [b]) ↔ x ∈ drw l := by
  rcases List.eq_nil_or_concat l with rfl | ⟨l, a, rfl⟩
  · simp [drw, onk, hb]
  · rw [List.concat_eq_append, drw_snoc]; simp [sgm, onk, hb]
theorem drw_ups (l : List Stp) : ∀ (m : List Stp), (∀ b ∈ m, b.2.1 = false) → ∀ x, x ∈ drw (l ++ m) ↔ x ∈ drw l := by
  intro m
  refine rev_ind (P := fun m => (∀ b ∈ m, b.2.1 = false) → ∀ x, x ∈ drw (l ++ m) ↔ x ∈ drw l) (fun _ x => by simp) (fun m b ih h x => ?_) m
  · rw [← List.append_assoc, drw_up _ (h b (by simp)), ih fun c hc => h c (by simp [hc])]
/-! ### Marks that strokes draw -/
def dwn (m : Mk) : Stp := (m, true, ())
/-! ### Strokes that are traced draw what the stops draw -/
end Go.Cams


/- Stops that are planned draw what the strokes draw, and are not far apart, in plain terms. -/
namespace Go.Cams
open Go Go.Fw
/-! ### Machines -/
/-- The marks that the first stops of a machine draw. -/
def mks (m : Mch) : Nat → List Mk
  | 0 => []
  | i + 1 => mks m i ++ (onk (stopM m i) ++ sgm (stopM m i) (stopM m ((i + 1) % m.1.length)))
theorem drawTo_mks (m : Mch) (hon : ∀ i, i < m.1.length → OnP (stopM m i).1) : ∀ i, i ≤ m.1.length → drawTo m i = plt (mks m i)
  | 0, _ => plate_nil.symm
  | i + 1, hi => by
    have h1 := hon i (by omega)
    have h2 := hon ((i + 1) % m.1.length) (Nat.mod_lt _ (by omega))
    have e : ∀ L, plt (mks m i ++ L) = plt (mks m i ++ L) := fun _ => rfl
    unfold drawTo mks
    rw [drawTo_mks m hon i (by omega)]
    by_cases c : (stopM m i).2.1 = true
    · rw [if_pos c]
      have o1 : onk (stopM m i) = [(stopM m i).1] := by simp [onk, c]
      by_cases c2 : (stopM m ((i + 1) % m.1.length)).2.1 = true
      · have o2 : sgm (stopM m i) (stopM m ((i + 1) % m.1.length)) = lineM (stopM m i).1 (stopM m ((i + 1) % m.1.length)).1 := by unfold sgm; rw [if_pos ⟨c, c2⟩]
        rw [if_pos c2, inkP_plate _ h1, inkL_plate _ _ (lineM_on h1 h2), o1, o2, List.append_assoc]
      · have o2 : sgm (stopM m i) (stopM m ((i + 1) % m.1.length)) = [] := by unfold sgm; rw [if_neg (fun e => c2 e.2)]
        rw [if_neg c2, inkP_plate _ h1, o1, o2, List.append_nil]
    · have o1 : onk (stopM m i) = [] := by simp [onk, c]
      have o2 : sgm (stopM m i) (stopM m ((i + 1) % m.1.length)) = [] := by unfold sgm; rw [if_neg (fun e => c e.1)]
      rw [if_neg c, o1, o2]; simp
/-! ### Plans -/
theorem bkJ_spec (L : List Mk) (i : Nat) : ∀ j, bkJ L i j = 0 ∨ lineM (gM L i) (gM L (bkJ L i j)) = (L.take (bkJ L i j + 1)).drop i
  | 0 => .inl rfl
  | j + 1 => by
    unfold bkJ
    split
    · rename_i h; exact .inr h
    · exact bkJ_spec L i j
theorem goF_down {most : Nat} (hm : 1 ≤ most) {a b : Mk} (ha : OnP a) (hb : OnP b) : ∀ (f i : Nat) (A : List Stp), i < (lineM a b).length → (lineM a b).length ≤ f + i → (∀ x, x ∈ drw (A ++ [dwn (gM (lineM a b) i)] ++ goF most true (lineM a b) f i) ↔ x ∈ drw (A ++ [dwn (gM (lineM a b) i)]) ∨ x ∈ (lineM a b).drop i) ∧ ∃ B, A ++ [dwn (gM (lineM a b) i)] ++ goF most true (lineM a b) f i = B ++ [dwn b]
  | 0, i, A, hi, hf => by omega
  | f + 1, i, A, hi, hf => by
    have hl := line_last ha hb
    unfold goF
    by_cases h : i < (lineM a b).length - 1
    · rw [if_pos h]
      have hj := toJ_bd hm true ha hb h
      obtain ⟨j, ej⟩ : ∃ j, j = toJ most true (lineM a b) i := ⟨_, rfl⟩
      rw [← ej] at hj ⊢
      have hline : lineM (gM (lineM a b) i) (gM (lineM a b) j) = ((lineM a b).take (j + 1)).drop i := by
        have := bkJ_spec (lineM a b) i (min (i + most) ((lineM a b).length - 1))
        have e : toJ most true (lineM a b) i = bkJ (lineM a b) i (min (i + most) ((lineM a b).length - 1)) := by unfold toJ; rw [if_pos rfl]
        rw [← e, ← ej] at this
        rcases this with h | h
        · omega
        · exact h
      obtain ⟨ih1, ih2⟩ := goF_down hm ha hb f j (A ++ [dwn (gM (lineM a b) i)]) (by omega) (by omega)
      have e : A ++ [dwn (gM (lineM a b) i)] ++ (gM (lineM a b) j, true, ()) :: goF most true (lineM a b) f j = A ++ [dwn (gM (lineM a b) i)] ++ [dwn (gM (lineM a b) j)] ++ goF most true (lineM a b) f j := by simp [dwn]
      rw [e]
      refine ⟨fun x => ?_, ih2⟩
      rw [ih1, drw_snoc]
      have h2 : x ∈ sgm (dwn (gM (lineM a b) i)) (dwn (gM (lineM a b) j)) ↔ x ∈ ((lineM a b).take (j + 1)).drop i := by
        unfold sgm
        rw [if_pos ⟨rfl, rfl⟩, ← hline]; rfl
      have h3 : x ∈ onk (dwn (gM (lineM a b) j)) ↔ x = gM (lineM a b) j := by simp [onk, dwn]
      rw [h2, h3]
      have h4 : (lineM a b).drop i = ((lineM a b).take (j + 1)).drop i ++ (lineM a b).drop (j + 1) := by
        conv => lhs; rw [← List.take_append_drop (j + 1) (lineM a b)]
        rw [List.drop_append_of_le_length (by simp; omega)]
      have h5 : x ∈ (lineM a b).drop j ↔ x = gM (lineM a b) j ∨ x ∈ (lineM a b).drop (j + 1) := by
        have hg := gM_idx (L := lineM a b) (i := (j : Int)) (by omega) (by omega)
        have := hg.drop
        rw [Int.toNat_natCast] at this
        rw [this, List.mem_cons]
        have : ((j : Int) + 1).toNat = j + 1 := by omega
        rw [this]
      have h6 : gM (lineM a b) j ∈ ((lineM a b).take (j + 1)).drop i := by
        have hg := (gM_idx (L := lineM a b) (i := (j : Int)) (by omega) (by omega)).get
        rw [Int.toNat_natCast] at hg
        have : (((lineM a b).take (j + 1)).drop i)[j - i]? = some (gM (lineM a b) j) := by
          rw [List.getElem?_drop, List.getElem?_take, if_pos (by omega), show i + (j - i) = j by omega, hg]
        exact List.mem_of_getElem? this
      rw [h5, h4, List.mem_append]
      constructor <;> intro h
      · rcases h with (h | h | h) | h | h
        · simp [h]
        · simp [h]
        · subst h; simp [h6]
        · subst h; simp [h6]
        · simp [h]
      · rcases h with h | h | h <;> simp [h]
    · rw [if_neg h]
      have hi2 : i = (lineM a b).length - 1 := by omega
      refine ⟨fun x => ?_, A, by rw [hi2, hl]; simp⟩
      have hd : (lineM a b).drop i = [gM (lineM a b) i] := by
        have hg := gM_idx (L := lineM a b) (i := (i : Int)) (by omega) (by omega)
        have := hg.drop
        rw [Int.toNat_natCast, show ((i : Int) + 1).toNat = i + 1 by omega, List.drop_of_length_le (i := i + 1) (by omega)] at this
        exact this
      rw [hd, List.append_nil, List.mem_singleton]
      constructor
      · exact .inl
      · rintro (h | rfl)
        · exact h
        · exact drw_mem _ (dwn (gM (lineM a b) i)) (by simp) rfl
theorem goF_ups (most : Nat) (L : List Mk) : ∀ f i, ∀ b ∈ goF most false L f i, b.2.1 = false
  | 0, _, b, h => by simp [goF] at h
  | f + 1, i, b, h => by
    unfold goF at h
    split at h
    · rcases List.mem_cons.1 h with rfl | h
      · rfl
      · exact goF_ups most L f _ b h
    · simp at h
/-- What is known of the stops that are planned so far: where the last is, and what they draw. -/
structure PlD (st : Mk × List Stp) (S : Mk → Prop) : Prop where
  at_ : OnP st.1
  draws : ∀ x, x ∈ drw st.2 ↔ S x
  last : ∀ k a, st.2 = k ++ [a] → a.1 = st.1
theorem gM_zero_line {a b : Mk} (ha : OnP a) (hb : OnP b) : gM (lineM a b) 0 = a := by
  by_cases h : far a b = 0
  · unfold lineM; rw [if_pos h]; rfl
  · obtain ⟨f0, _, _⟩ := far_bd ha hb
    rw [lineM_get h (by omega)]
    exact ptM_zero ha hb h
theorem goF_end {most : Nat} (hm : 1 ≤ most) (down : Bool) {a b : Mk} (ha : OnP a) (hb : OnP b) : ∀ (f i : Nat), i < (lineM a b).length → (lineM a b).length ≤ f + i → ∀ k v, goF most down (lineM a b) f i = k ++ [v] → v.1 = b
  | 0, i, hi, hf => by omega
  | f + 1, i, hi, hf => by
    intro k v e
    unfold goF at e
    split at e
    · rename_i h
      have hj := toJ_bd hm down ha hb h
      by_cases h2 : toJ most down (lineM a b) i < (lineM a b).length - 1
      · cases k with
        | nil =>
          exfalso
          have hne : goF most down (lineM a b) f (toJ most down (lineM a b) i) ≠ [] := by
            cases f with
            | zero => omega
            | succ f => unfold goF; rw [if_pos h2]; simp
          simp at e
          exact hne e.2
        | cons c k =>
          simp only [List.cons_append, List.cons.injEq] at e
          exact goF_end hm down ha hb f _ (by omega) (by omega) k v e.2
      · rw [goF_last most down (lineM a b) f h2] at e
        have e2 : k = [] ∧ (gM (lineM a b) (toJ most down (lineM a b) i), down, ()) = v := by
          have := List.append_inj' (s₁ := []) (t₁ := [(gM (lineM a b) (toJ most down (lineM a b) i), down, ())]) (s₂ := k) (t₂ := [v]) e rfl
          exact ⟨this.1.symm, by simpa using this.2⟩
        rw [← e2.2]
        have : toJ most down (lineM a b) i = (lineM a b).length - 1 := by omega
        show gM (lineM a b) (toJ most down (lineM a b) i) = b
        rw [this, line_last ha hb]
    · simp at e
theorem goL_nil {most : Nat} {down : Bool} {a b : Mk} (ha : OnP a) (hb : OnP b) (h : goL most down a b = []) : a = b := by
  have hl := lineM_length ha hb
  obtain ⟨f0, _, _⟩ := far_bd ha hb
  unfold goL goF at h
  split at h
  · simp at h
  · exact far_zero ha hb (by omega)
theorem PlD.up {most : Nat} (hm : 1 ≤ most) {st : Mk × List Stp} {S : Mk → Prop} (h : PlD st S) {b : Mk} (hb : OnP b) : PlD (b, st.2 ++ goL most false st.1 b) S := by
  have hl := lineM_length h.at_ hb
  obtain ⟨f0, f1, _⟩ := far_bd h.at_ hb
  refine ⟨hb, fun x => ?_, fun k v e => ?_⟩
  · show x ∈ drw (st.2 ++ goL most false st.1 b) ↔ _
    unfold goL
    rw [drw_ups _ _ (goF_ups most _ _ _), h.draws]
  · rcases List.eq_nil_or_concat (goL most false st.1 b) with h2 | ⟨q, w, h2⟩
    · have e : st.2 ++ goL most false st.1 b = k ++ [v] := e
      rw [h2, List.append_nil] at e
      rw [h.last k v e]
      exact goL_nil h.at_ hb h2
    · rw [List.concat_eq_append] at h2
      have e : st.2 ++ goL most false st.1 b = k ++ [v] := e
      rw [h2, ← List.append_assoc] at e
      have e2 : w = v := by have := (List.append_inj' e rfl).2; simpa using this
      rw [← e2]
      exact goF_end hm false h.at_ hb 64 0 (by omega) (by omega) q w h2
theorem PlD.put {st : Mk × List Stp} {S : Mk → Prop} (h : PlD st S) : PlD (st.1, st.2 ++ [dwn st.1]) (fun x => S x ∨ x = st.1) := by
  refine ⟨h.at_, fun x => ?_, fun k v e => ?_⟩
  · show x ∈ drw (st.2 ++ [dwn st.1]) ↔ _
    rcases List.eq_nil_or_concat st.2 with h2 | ⟨q, w, h2⟩
    · have := h.draws x
      rw [h2] at this ⊢
      rw [← this]
      simp [drw, onk, dwn]
    · rw [List.concat_eq_append] at h2
      have hw := h.last q w h2
      have := h.draws x
      rw [h2] at this ⊢
      rw [drw_snoc, this]
      have h3 : x ∈ sgm w (dwn st.1) → x = st.1 := by
        intro h
        unfold sgm at h
        split at h
        · rw [hw] at h
          have e : lineM st.1 (dwn st.1).1 = [st.1] := lineM_same
          rw [e] at h
          simpa using h
        · simp at h
      have h4 : x ∈ onk (dwn st.1) ↔ x = st.1 := by simp [onk, dwn]
      rw [h4]
      constructor <;> intro h
      · rcases h with h | h | h
        · simp [h]
        · simp [h3 h]
        · simp [h]
      · rcases h with h | h <;> simp [h]
  · have e : st.2 ++ [dwn st.1] = k ++ [v] := e
    have e2 : dwn st.1 = v := by have := (List.append_inj' e rfl).2; simpa using this
    rw [← e2]; rfl
theorem PlD.down {most : Nat} (hm : 1 ≤ most) {st : Mk × List Stp} {S : Mk → Prop} (h : PlD st S) (hd : ∃ k, st.2 = k ++ [dwn st.1]) {b : Mk} (hb : OnP b) : PlD (drF most st b) (fun x => S x ∨ x ∈ lineM st.1 b) ∧ ∃ k, (drF most st b).2 = k ++ [dwn (drF most st b).1] := by
  have hl := lineM_length h.at_ hb
  obtain ⟨f0, f1, _⟩ := far_bd h.at_ hb
  obtain ⟨k, hk⟩ := hd
  have h0 := gM_zero_line h.at_ hb
  obtain ⟨h1, B, h2⟩ := goF_down hm h.at_ hb 64 0 k (by omega) (by omega)
  rw [h0, ← hk] at h1 h2
  have e : (drF most st b).2 = st.2 ++ goF most true (lineM st.1 b) 64 0 := rfl
  refine ⟨⟨hb, fun x => ?_, fun q v ev => ?_⟩, B, by rw [e, h2]; rfl⟩
  · rw [e, h1, h.draws, List.drop_zero]
  · rw [e, h2] at ev
    have e2 : dwn b = v := by have := (List.append_inj' ev rfl).2; simpa using this
    rw [← e2]; rfl
end Go.Cams


/- Machines that are compiled of strokes, in plain terms. -/
namespace Go.Cams
open Go Go.Fw
/-! ### Near -/
def endM (a : Mk) : List Stp → Mk
  | [] => a
  | s :: r => endM s.1 r
def Ch (most : Int) (a : Mk) : List Stp → Prop
  | [] => True
  | s :: r => far a s.1 ≤ most ∧ Ch most s.1 r
theorem ch_append {most : Int} : ∀ (l r : List Stp) (a : Mk), Ch most a (l ++ r) ↔ Ch most a l ∧ Ch most (endM a l) r
  | [], r, a => by simp [Ch, endM]
  | s :: l, r, a => by simp [Ch, endM, ch_append l r s.1, and_assoc]
theorem endM_snoc : ∀ (l : List Stp) (a : Mk) (s : Stp), endM a (l ++ [s]) = s.1
  | [], a, s => rfl
  | c :: l, a, s => endM_snoc l c.1 s
theorem far_self (a : Mk) : far a a = 0 := by unfold far siz; simp
/-- Stops that are near one another, on the plate, and end at a place. -/
structure Near (most : Nat) (st : Mk × List Stp) : Prop where
  at_ : OnP st.1
  ch : Ch most o0 st.2
  end_ : endM o0 st.2 = st.1
  on : ∀ v ∈ st.2, OnP v.1
theorem Near.put {most : Nat} {st : Mk × List Stp} (h : Near most st) (d : Bool) : Near most (st.1, st.2 ++ [(st.1, d, ())]) := by
  refine ⟨h.at_, ?_, by rw [endM_snoc], fun v hv => ?_⟩
  · rw [ch_append, h.end_]
    exact ⟨h.ch, by rw [far_self]; omega, trivial⟩
  · rcases List.mem_append.1 hv with hv | hv
    · exact h.on v hv
    · rw [List.mem_singleton.1 hv]; exact h.at_
/-! ### The machine -/
end Go.Cams


/- Inner loops with untold results; drawn strokes. -/
namespace Go.Fw
variable {α β σ τ : Type}
end Go.Fw
namespace Go.Cams
open Go Go.Fw
/-- Strokes as they are drawn. -/
def SmT (K : List Stk) : Prop := K.length ≤ 4 ∧ ∀ s ∈ K, (1 ≤ s.length ∧ s.length ≤ 4) ∧ ∀ m ∈ s, OnP m
theorem SmT.good {K : List Stk} (h : SmT K) : ∀ s ∈ K, (1 ≤ (s.length : Int) ∧ (s.length : Int) ≤ 60) ∧ ∀ m ∈ s, OnP m := fun s hs => ⟨by have := (h.2 s hs).1; omega, (h.2 s hs).2⟩
theorem SmT.rng {K : List Stk} (h : SmT K) : RngT K := ⟨by have := h.1; omega, fun s hs => ⟨by have := (h.2 s hs).1; omega, fun m hm => ⟨((h.2 s hs).2 m hm).len, onP_rng ((h.2 s hs).2 m hm)⟩⟩⟩
/-- No move is longer than told. -/
theorem Ch.get {most : Int} : ∀ {l : List Stp} {a : Mk}, Ch most a l → ∀ {i : Nat} {s t : Stp}, l[i]? = some s → l[i + 1]? = some t → far s.1 t.1 ≤ most
  | [], _, _, i, s, t, h, _ => by simp at h
  | [c], _, _, i, s, t, _, h => by simp at h
  | c :: d :: r, a, h, 0, s, t, h1, h2 => by
    simp at h1 h2
    subst h1; subst h2
    exact h.2.1
  | c :: d :: r, a, h, i + 1, s, t, h1, h2 => Ch.get (l := d :: r) (a := c.1) h.2 (i := i) (by simpa using h1) (by simpa using h2)
theorem Ch.first {most : Int} {l : List Stp} {a : Mk} {t : Stp} (h : Ch most a l) (h2 : l[0]? = some t) : far a t.1 ≤ most := by
  cases l with
  | nil => simp at h2
  | cons c r => simp at h2; subst h2; exact h.1
end Go.Cams
namespace Go.Cams
open Go Go.Fw
end Go.Cams


/- Flat cutters and feet; springs that keep a follower on its cam; shafts that turn with the machine, in plain terms. -/
namespace Go.Cams
open Go Go.Fw
/-! ### Flat cutters -/
/-! ### Springs -/
/-! ### Shafts that turn with the machine -/
end Go.Cams


/- Slopes, bases and wear of cams, in plain terms. -/
namespace Go.Cams
open Go Go.Fw
/-! ### Tracks -/
/-! ### Landings and wear -/
end Go.Cams


/- Slopes and bases, in plain terms. -/
namespace Go.Cams
open Go Go.Fw
abbrev Slp : Type := Int × (Int × Unit)
/-! ### Bases -/
/-! ### Bounds -/
end Go.Cams
namespace Go.Cams
open Go Go.Fw
/-- A slope that can be compared. -/
structure SlB (s : Slp) : Prop where
  p : -1000000000 ≤ s.1 ∧ s.1 ≤ 1000000000
  q : 1 ≤ s.2.1 ∧ s.2.1 ≤ 1000000000
theorem SlB.siz {s : Slp} (h : SlB s) : 0 ≤ Cams.siz s.1 ∧ Cams.siz s.1 ≤ 1000000000 := by
  have := h.p
  unfold Cams.siz; split <;> omega
end Go.Cams
namespace Go.Cams
open Go Go.Fw
end Go.Cams


/- Followers: flown steps, the hardest landing, springs that let go. In plain terms. -/
namespace Go.Cams
open Go Go.Fw
end Go.Cams


/- Texts cut at a byte, numbers read. In plain terms. -/
namespace Go.Cams
open Go Go.Fw
theorem mod48 {d : Nat} (h : d < 10) : (UInt8.ofNat (48 + d)).toNat = 48 + d := by
  rw [UInt8.toNat_ofNat']; omega
/-- A numeral's bytes are digits. -/
theorem dec_dig : ∀ (u : Nat) (c : UInt8), c ∈ Lib.decDigits u → 48 ≤ c.toNat ∧ c.toNat ≤ 57 := by
  intro u
  induction u using Nat.strongRecOn with
  | ind u ih =>
    intro c hc
    by_cases h : u < 10
    · rw [dec_small h] at hc
      rw [List.mem_singleton.1 hc, mod48 h]; omega
    · rw [dec_big h] at hc
      rcases List.mem_append.1 hc with hc | hc
      · exact ih (u / 10) (by omega) c hc
      · rw [List.mem_singleton.1 hc, mod48 (Nat.mod_lt _ (by omega))]; omega
theorem dec_ne (u : Nat) : Lib.decDigits u ≠ [] := by
  by_cases h : u < 10
  · rw [dec_small h]; simp
  · rw [dec_big h]; simp
theorem parse_dec {M : Nat} (hM : M ≤ 18446744073709551615) : ∀ (u : Nat), u ≤ M → ∀ r, Lib.parseUintM M 0 (Lib.decDigits u ++ r) = Lib.parseUintM M u r := by
  intro u
  induction u using Nat.strongRecOn with
  | ind u ih =>
    intro hu r
    by_cases h : u < 10
    · rw [dec_small h]
      simp only [List.cons_append, List.nil_append, Lib.parseUintM, mod48 h]
      rw [if_pos (by omega), if_neg (by omega), if_neg (by omega), show 0 * 10 + (48 + u - 48) = u by omega]
    · rw [dec_big h, List.append_assoc, ih (u / 10) (by omega) (by omega)]
      have hm : u % 10 < 10 := Nat.mod_lt _ (by omega)
      simp only [List.cons_append, List.nil_append, Lib.parseUintM, mod48 hm]
      rw [if_pos (by omega), if_neg (by omega), if_neg (by omega), show u / 10 * 10 + (48 + u % 10 - 48) = u by omega]
theorem parse_int {u : Nat} (h : u ≤ 9223372036854775807) : Lib.parseIntB 64 (Lib.decDigits u) = .ok (u : Int) := by
  have hp := parse_dec (M := 2 ^ 64 - 1) (by decide) u (by omega) []
  rw [List.append_nil] at hp
  have hd := dec_dig u
  have hn := dec_ne u
  generalize Lib.decDigits u = l at hp hd hn
  cases l with
  | nil => exact absurd rfl hn
  | cons c r =>
    have hc := hd c (by simp)
    unfold Lib.parseIntB
    simp only
    rw [if_neg (by omega)]
    unfold Lib.parseUintB
    rw [if_neg hn, hp]
    simp only [Lib.parseUintM]
    rw [if_neg (by omega), if_neg (by omega), if_neg (by omega)]
/-! ### Texts cut at a byte -/
theorem ix_hit {c : UInt8} {w : List UInt8} (h : c ∉ w) (r : List UInt8) : Lib.index (w ++ c :: r) [c] = (w.length : Nat) := by
  refine Lib.index_first (by simp) ?_ fun j hj => ?_
  · unfold Lib.occAt
    rw [List.drop_left' rfl]
    simp
  · cases ho : Lib.occAt (w ++ c :: r) [c] j with
    | false => rfl
    | true =>
      have := Lib.occAt_head (c := c) (t := []) rfl ho
      rw [List.getElem?_append_left hj] at this
      exact absurd (List.mem_of_getElem? this) h
theorem ix_miss {c : UInt8} {w : List UInt8} (h : c ∉ w) : Lib.index w [c] = -1 := by
  refine Lib.index_none fun j hj => ?_
  cases ho : Lib.occAt w [c] j with
  | false => rfl
  | true => exact absurd (List.mem_of_getElem? (Lib.occAt_head (c := c) (t := []) rfl ho)) h
theorem split_join {c : UInt8} : ∀ (w : List UInt8) (ws : List (List UInt8)), c ∉ w → (∀ v ∈ ws, c ∉ v) → Lib.splitK [c] 0 (Lib.count (Lib.join (w :: ws) [c]) [c]) (Lib.join (w :: ws) [c]) = w :: ws
  | w, [], h, _ => by
    show Lib.splitK [c] 0 (Lib.count (Lib.join [w] [c]) [c]) (Lib.join [w] [c]) = [w]
    have e : Lib.join [w] [c] = w := by simp [Lib.join]
    rw [e, Lib.count_miss (ix_miss h)]
    rfl
  | w, v :: ws, h, hs => by
    have e : Lib.join (w :: v :: ws) [c] = w ++ c :: Lib.join (v :: ws) [c] := by simp [Lib.join]
    have ix := ix_hit h (Lib.join (v :: ws) [c])
    rw [e, Lib.count_hit (by simp) ix, Nat.add_comm 1]
    have hd : (w ++ c :: Lib.join (v :: ws) [c]).drop (w.length + 1) = Lib.join (v :: ws) [c] := by simp
    have ih := split_join v ws (hs v (by simp)) fun u hu => hs u (by simp [hu])
    rw [List.length_singleton, hd]
    unfold Lib.splitK
    rw [if_neg (by rw [ix]; simp), ix, Int.toNat_natCast, List.length_singleton, hd, ih]
    simp
theorem tx_map : ∀ {l : List ByteArray} {ws : List (List UInt8)}, l.map (·.data.toList) = ws → l = ws.map tx := by
  intro l ws h
  subst h
  rw [List.map_map]
  exact ((List.map_congr_left fun a _ => rfl).trans (List.map_id l)).symm
theorem split_tx {c : UInt8} {w : List UInt8} {ws : List (List UInt8)} (h : c ∉ w) (hs : ∀ v ∈ ws, c ∉ v) : Lib.splitB (tx [c]) 0 (Lib.countB (tx (Lib.join (w :: ws) [c])) (tx [c])) (tx (Lib.join (w :: ws) [c])) = (w :: ws).map tx :=
  tx_map ((Lib.splitB_data _ _ _ _).trans (split_join w ws h hs))
end Go.Cams


/- Tracks of followers: on the cam or above it. In plain terms. -/
namespace Go.Cams
open Go Go.Fw
end Go.Cams


/- Texts cut at each byte of a kind; numerals read strictly and with a check. In plain terms. -/
namespace Go.Cams
open Go Go.Fw
theorem tx_self (a : ByteArray) : tx a.data.toList = a := by cases a; rfl
theorem tx_of (a : ByteArray) : ∃ l, a = tx l := ⟨_, (tx_self a).symm⟩
theorem tx_inj {a b : List UInt8} (h : tx a = tx b) : a = b := by
  have := congrArg (fun x : ByteArray => x.data.toList) h
  exact this
theorem tx_toList (l : List UInt8) : (tx l).toList = l := by rw [ByteArray.toList_eq]; rfl
theorem tx_ext (l : List UInt8) (i j : Nat) : (tx l).extract i j = tx ((l.drop i).take (j - i)) := by
  rw [← tx_self ((tx l).extract i j)]
  congr 1
  exact Lib.extract_data _ _ _
theorem nums_tx (l : List UInt8) : numsOf (tx l) = l.map fun c => (c.toNat : Int) := rfl
theorem nums_at {l : List UInt8} {i : Nat} {c : UInt8} (h : l[i]? = some c) : idx (numsOf (tx l)) (i : Int) = some (c.toNat : Int) := by
  unfold idx
  rw [if_pos (by omega), nums_tx, Int.toNat_natCast, List.getElem?_map, h]
  rfl
theorem byte_eq {a b : UInt8} : ((a.toNat : Int) == (b.toNat : Int)) = (a == b) := by
  rw [Bool.eq_iff_iff, beq_iff_eq, beq_iff_eq]
  constructor
  · intro h; exact UInt8.toNat_inj.1 (by omega)
  · intro h; rw [h]
/-! ### Words between bytes of a kind -/
def splitC (c : UInt8) : List UInt8 → List (List UInt8)
  | [] => [[]]
  | x :: l => if x = c then [] :: splitC c l else match splitC c l with
    | [] => [[x]]
    | w :: ws => (x :: w) :: ws
theorem splitC_ne (c : UInt8) (l : List UInt8) : ∃ w ws, splitC c l = w :: ws := by
  cases l with
  | nil => exact ⟨_, _, rfl⟩
  | cons x l =>
    unfold splitC
    split
    · exact ⟨_, _, rfl⟩
    · split
      · exact ⟨_, _, rfl⟩
      · exact ⟨_, _, rfl⟩
theorem splitC_miss {c : UInt8} : ∀ {w : List UInt8}, c ∉ w → splitC c w = [w]
  | [], _ => rfl
  | x :: w, h => by
    simp only [List.mem_cons, not_or] at h
    unfold splitC
    rw [if_neg (fun e => h.1 e.symm), splitC_miss h.2]
theorem splitC_hit {c : UInt8} : ∀ {w : List UInt8}, c ∉ w → ∀ r, splitC c (w ++ c :: r) = w :: splitC c r
  | [], _, r => by
    show splitC c (c :: r) = _
    rw [splitC, if_pos rfl]
  | x :: w, h, r => by
    simp only [List.mem_cons, not_or] at h
    show splitC c (x :: (w ++ c :: r)) = _
    rw [splitC, if_neg (fun e => h.1 e.symm), splitC_hit h.2 r]
theorem splitC_spec (c : UInt8) : ∀ l : List UInt8, Lib.join (splitC c l) [c] = l ∧ ∀ w ∈ splitC c l, c ∉ w
  | [] => by simp [splitC, Lib.join]
  | x :: l => by
    obtain ⟨h1, h2⟩ := splitC_spec c l
    obtain ⟨w, ws, e⟩ := splitC_ne c l
    unfold splitC
    rw [e] at h1 h2 ⊢
    split
    · rename_i hx
      subst hx
      refine ⟨?_, ?_⟩
      · show Lib.join ([] :: w :: ws) [x] = _
        have : Lib.join ([] :: w :: ws) [x] = x :: Lib.join (w :: ws) [x] := by simp [Lib.join]
        rw [this, h1]
      · intro v hv
        rcases List.mem_cons.1 hv with rfl | hv
        · simp
        · exact h2 v hv
    · rename_i hx
      refine ⟨?_, ?_⟩
      · cases ws with
        | nil =>
          have h0 : Lib.join [w] [c] = w := by simp [Lib.join]
          rw [h0] at h1
          simp [Lib.join, h1]
        | cons v vs =>
          have h0 : Lib.join (w :: v :: vs) [c] = w ++ c :: Lib.join (v :: vs) [c] := by simp [Lib.join]
          have h3 : Lib.join ((x :: w) :: v :: vs) [c] = x :: (w ++ c :: Lib.join (v :: vs) [c]) := by simp [Lib.join]
          rw [h3, ← h0, h1]
      · intro v hv
        rcases List.mem_cons.1 hv with rfl | hv
        · intro hm
          rcases List.mem_cons.1 hm with e | hm
          · exact hx e.symm
          · exact h2 w (by simp) hm
        · exact h2 v (by simp [hv])
theorem splitC_join {c : UInt8} : ∀ (w : List UInt8) (ws : List (List UInt8)), c ∉ w → (∀ v ∈ ws, c ∉ v) → splitC c (Lib.join (w :: ws) [c]) = w :: ws
  | w, [], h, _ => by
    have e : Lib.join [w] [c] = w := by simp [Lib.join]
    rw [e, splitC_miss h]
  | w, v :: ws, h, hs => by
    have e : Lib.join (w :: v :: ws) [c] = w ++ c :: Lib.join (v :: ws) [c] := by simp [Lib.join]
    rw [e, splitC_hit h, splitC_join v ws (hs v (by simp)) fun u hu => hs u (by simp [hu])]
theorem splitC_len (c : UInt8) : ∀ l : List UInt8, (splitC c l).length ≤ l.length + 1
  | [] => by simp [splitC]
  | x :: l => by
    have := splitC_len c l
    unfold splitC
    split
    · simp; omega
    · split
      · simp
      · rename_i e
        rw [e] at this
        simp at this ⊢; omega
theorem splitC_wlen {c : UInt8} : ∀ {l : List UInt8}, ∀ w ∈ splitC c l, w.length ≤ l.length
  | [], w, h => by simp [splitC] at h; simp [h]
  | x :: l, w, h => by
    unfold splitC at h
    split at h
    · rcases List.mem_cons.1 h with rfl | h
      · simp
      · have := splitC_wlen w h; simp; omega
    · obtain ⟨v, vs, e⟩ := splitC_ne c l
      rw [e] at h
      simp only [List.mem_cons] at h
      rcases h with rfl | h
      · have := splitC_wlen (l := l) v (by rw [e]; simp); simp; omega
      · have := splitC_wlen (l := l) w (by rw [e]; simp [h]); simp; omega
theorem split_all (c : UInt8) (l : List UInt8) : Lib.splitB (tx [c]) 0 (Lib.countB (tx l) (tx [c])) (tx l) = (splitC c l).map tx := by
  obtain ⟨h1, h2⟩ := splitC_spec c l
  obtain ⟨w, ws, e⟩ := splitC_ne c l
  have := split_tx (c := c) (w := w) (ws := ws) (h2 w (by rw [e]; simp)) fun v hv => h2 v (by rw [e]; simp [hv])
  rw [← e, h1] at this
  exact this
theorem cut_hit {c : UInt8} {w : List UInt8} (h : c ∉ w) (r : List UInt8) : Lib.cut (w ++ c :: r) [c] = (w, r, true) := by
  have ix := ix_hit h r
  unfold Lib.cut
  rw [if_pos (by omega), ix, Int.toNat_natCast]
  simp
theorem cut_miss {c : UInt8} {w : List UInt8} (h : c ∉ w) : Lib.cut w [c] = (w, [], false) := by
  have ix := ix_miss h
  unfold Lib.cut
  rw [if_neg (by omega)]
/-! ### Numerals -/
def isDg (c : UInt8) : Bool := decide (48 ≤ c.toNat) && decide (c.toNat ≤ 57)
theorem isDg_iff {c : UInt8} : isDg c = true ↔ 48 ≤ c.toNat ∧ c.toNat ≤ 57 := by simp [isDg]
def numV : List UInt8 → Nat → Nat
  | [], n => n
  | c :: l, n => numV l (10 * n + (c.toNat - 48))
theorem numV_app : ∀ (a b : List UInt8) (n : Nat), numV (a ++ b) n = numV b (numV a n)
  | [], _, _ => rfl
  | _ :: a, b, _ => numV_app a b _
theorem numV_dec : ∀ (u : Nat), numV (Lib.decDigits u) 0 = u := by
  intro u
  induction u using Nat.strongRecOn with
  | ind u ih =>
    by_cases h : u < 10
    · rw [dec_small h]
      simp only [numV, mod48 h]; omega
    · rw [dec_big h, numV_app, ih (u / 10) (by omega)]
      have hm : u % 10 < 10 := Nat.mod_lt _ (by omega)
      simp only [numV, mod48 hm]; omega
theorem numV_lt : ∀ (l : List UInt8) (n k : Nat), (∀ c ∈ l, c.toNat ≤ 57) → n < 10 ^ k → numV l n < 10 ^ (k + l.length)
  | [], n, k, _, h => by simpa [numV] using h
  | c :: l, n, k, hc, h => by
    have h1 := hc c (by simp)
    have := numV_lt l (10 * n + (c.toNat - 48)) (k + 1) (fun d hd => hc d (by simp [hd])) (by rw [Nat.pow_succ]; omega)
    show numV l _ < _
    rw [show k + (c :: l).length = k + 1 + l.length by simp; omega]
    exact this
/-- Digits that do not begin with 0 spell their number's numeral. -/
theorem dec_numV : ∀ (l : List UInt8) (u : Nat), 1 ≤ u → (∀ c ∈ l, isDg c = true) → Lib.decDigits (numV l u) = Lib.decDigits u ++ l
  | [], u, _, _ => by simp [numV]
  | c :: l, u, hu, hd => by
    obtain ⟨h1, h2⟩ := isDg_iff.1 (hd c (by simp))
    have ih := dec_numV l (10 * u + (c.toNat - 48)) (by omega) fun d hd' => hd d (by simp [hd'])
    show Lib.decDigits (numV l _) = _
    rw [ih, dec_big (u := 10 * u + (c.toNat - 48)) (by omega), show (10 * u + (c.toNat - 48)) / 10 = u by omega, show 48 + (10 * u + (c.toNat - 48)) % 10 = c.toNat by omega, UInt8.ofNat_toNat]
    simp
theorem dec_of {l : List UInt8} (h0 : l ≠ []) (h1 : l.head? = some 48 → l.length ≤ 1) (hd : ∀ c ∈ l, isDg c = true) : Lib.decDigits (numV l 0) = l := by
  cases l with
  | nil => exact absurd rfl h0
  | cons c l =>
    obtain ⟨e1, e2⟩ := isDg_iff.1 (hd c (by simp))
    by_cases hc : c = 48
    · subst hc
      have := h1 rfl
      have : l = [] := List.length_eq_zero_iff.1 (by rw [List.length_cons] at this; omega)
      subst this
      rw [show numV [48] 0 = 0 from rfl, dec_small (by omega)]
      rfl
    · have hne : c.toNat ≠ 48 := fun e => hc (UInt8.toNat_inj.1 e)
      show Lib.decDigits (numV l (10 * 0 + (c.toNat - 48))) = _
      rw [dec_numV l _ (by omega) fun d hd' => hd d (by simp [hd']), dec_small (by omega), show 48 + (10 * 0 + (c.toNat - 48)) = c.toNat by omega, UInt8.ofNat_toNat]
      rfl
theorem dec_head : ∀ (u : Nat), (Lib.decDigits u).head? = some 48 → u = 0 := by
  intro u
  induction u using Nat.strongRecOn with
  | ind u ih =>
    intro h
    by_cases h10 : u < 10
    · rw [dec_small h10] at h
      simp only [List.head?_cons, Option.some.injEq] at h
      have := mod48 h10
      rw [h] at this
      have : (48 : UInt8).toNat = 48 := rfl
      omega
    · rw [dec_big h10, List.head?_append] at h
      cases hh : (Lib.decDigits (u / 10)).head? with
      | none => exact absurd (List.head?_eq_none_iff.1 hh) (dec_ne _)
      | some c =>
        rw [hh] at h
        simp at h
        subst h
        have := ih (u / 10) (by omega) hh
        omega
theorem dec_lenK : ∀ (k u : Nat), u < 10 ^ (k + 1) → (Lib.decDigits u).length ≤ k + 1
  | 0, u, h => by rw [dec_small (by simpa using h)]; simp
  | k + 1, u, h => by
    by_cases h10 : u < 10
    · rw [dec_small h10]; simp
    · rw [dec_big h10, List.length_append]
      have := dec_lenK k (u / 10) (by rw [Nat.pow_succ] at h; omega)
      simp; omega
/-- A number of at most nine digits, without a sign. -/
def numR (l : List UInt8) : Int × Bool :=
  if l ≠ [] ∧ l.length ≤ 9 ∧ (l.head? = some 48 → l.length ≤ 1) ∧ ∀ c ∈ l, isDg c = true then ((numV l 0 : Nat), true) else (0, false)
theorem numR_dec {u : Nat} (h : u < 1000000000) : numR (Lib.decDigits u) = ((u : Int), true) := by
  unfold numR
  rw [if_pos ⟨dec_ne u, dec_lenK 8 u (by simpa using h), fun e => by rw [dec_head u e, dec_small (by omega)]; simp, fun c hc => isDg_iff.2 (dec_dig u c hc)⟩, numV_dec]
theorem numR_ok {l : List UInt8} (h : (numR l).2 = true) : ∃ u : Nat, u < 1000000000 ∧ l = Lib.decDigits u ∧ (numR l).1 = u := by
  unfold numR at h ⊢
  split at h
  · rename_i hc
    rw [if_pos hc]
    obtain ⟨h0, h1, h2, h3⟩ := hc
    refine ⟨numV l 0, ?_, (dec_of h0 h2 h3).symm, rfl⟩
    have := numV_lt l 0 0 (fun c hc => (isDg_iff.1 (h3 c hc)).2) (by decide)
    have h9 : 10 ^ (0 + l.length) ≤ 10 ^ 9 := Nat.pow_le_pow_right (by omega) (by omega)
    omega
  · cases h
theorem numR_bd (l : List UInt8) : 0 ≤ (numR l).1 ∧ (numR l).1 < 1000000000 := by
  cases h : (numR l).2 with
  | true => obtain ⟨u, hu, _, e⟩ := numR_ok h; omega
  | false =>
    unfold numR at h ⊢
    split at h
    · cases h
    · rename_i hc
      rw [if_neg hc]; exact ⟨Int.le_refl _, by decide⟩
/-- A number that is written as it is read. -/
def numI (l : List UInt8) : Int × Bool := match Lib.parseIntB 64 l with
  | .ok v => (v, Lib.itoa v == l)
  | .range => (Lib.intSat 64 l, false)
  | _ => (0, false)
theorem parse_bd {l : List UInt8} {v : Int} (h : Lib.parseIntB 64 l = .ok v) : -9223372036854775808 ≤ v ∧ v ≤ 9223372036854775807 := by
  unfold Lib.parseIntB at h
  cases l with
  | nil => cases h
  | cons c r =>
    simp only at h
    split at h
    · cases h
    · cases h
    · split at h
      · cases h
      · split at h
        · cases h
        · rename_i h1 h2
          injection h with h
          simp only [Nat.reducePow, Nat.reduceSub] at h1 h2
          split at h
          · rename_i hn
            have : ¬ 9223372036854775808 < _ := fun e => h2 ⟨hn, e⟩
            omega
          · rename_i hn
            have : ¬ 9223372036854775808 ≤ _ := fun e => h1 ⟨hn, e⟩
            omega
theorem numI_bd (l : List UInt8) : -9223372036854775808 ≤ (numI l).1 ∧ (numI l).1 ≤ 9223372036854775807 := by
  unfold numI
  rcases h : Lib.parseIntB 64 l with v | _ | _
  · exact parse_bd h
  · exact ⟨show -9223372036854775808 ≤ (0 : Int) by decide, show (0 : Int) ≤ 9223372036854775807 by decide⟩
  · show _ ≤ Lib.intSat 64 l ∧ Lib.intSat 64 l ≤ _
    unfold Lib.intSat
    split <;> simp
theorem numI_dec {u : Nat} (h : u ≤ 9223372036854775807) : numI (Lib.decDigits u) = ((u : Int), true) := by
  unfold numI
  rw [parse_int h]
  simp [Lib.itoa, show ¬ ((u : Int) < 0) by omega]
end Go.Cams
namespace Go.Cams
open Go Go.Fw
theorem cut_at {l : List UInt8} {b i : Nat} {c : UInt8} (hb : b ≤ i) (h : l[i]? = some c) : l.drop b = (l.drop b).take (i - b) ++ c :: l.drop (i + 1) := by
  have e := drop_cons h
  rw [← e]
  conv => lhs; rw [← List.take_append_drop (i - b) (l.drop b)]
  rw [List.drop_drop, show b + (i - b) = i by omega]
theorem take_on {l : List UInt8} {b i : Nat} {c : UInt8} (hb : b ≤ i) (h : l[i]? = some c) : (l.drop b).take (i + 1 - b) = (l.drop b).take (i - b) ++ [c] := by
  rw [show i + 1 - b = (i - b) + 1 by omega, List.take_add_one, List.getElem?_drop, show b + (i - b) = i by omega, h]
  rfl
theorem take_rest {l : List UInt8} (b : Nat) : (l.drop b).take (l.length - b) = l.drop b := List.take_of_length_le (by rw [List.length_drop]; exact Nat.le_refl _)
theorem numR_no {l : List UInt8} (h : ¬ (l ≠ [] ∧ l.length ≤ 9 ∧ (l.head? = some 48 → l.length ≤ 1) ∧ ∀ c ∈ l, isDg c = true)) : numR l = (0, false) := if_neg h
/-- A digit more. -/
theorem dig_wr {n : Nat} {c : UInt8} (hn : n < 1000000000) (h : isDg c = true) : wr .i64 (wr .i64 (10 * (n : Int)) + wr .i64 (wr .u8 ((c.toNat : Int) - 48))) = ((10 * n + (c.toNat - 48) : Nat) : Int) := by
  obtain ⟨h1, h2⟩ := isDg_iff.1 h
  have e : wr .u8 ((c.toNat : Int) - 48) = (c.toNat : Int) - 48 := by
    show IntKind.u8.wrap _ = _
    simp [IntKind.wrap, IntKind.signed, IntKind.bits]; omega
  rw [e, wrap_id (x := (c.toNat : Int) - 48) (by omega) (by omega), wrap_id (x := 10 * (n : Int)) (by omega) (by omega), wrap_id (by omega) (by omega)]
  omega
end Go.Cams


/- Programs read from their texts. In plain terms. -/
namespace Go.Cams
open Go Go.Fw
theorem dec_no' {c : UInt8} (h : c.toNat < 48 ∨ 57 < c.toNat) (u : Nat) : c ∉ Lib.decDigits u := fun hm => by
  have := dec_dig u c hm
  omega
end Go.Cams
namespace Go.Cams
open Go Go.Fw
end Go.Cams


/- Cams read from their texts. In plain terms. -/
namespace Go.Cams
open Go Go.Fw
def foldO {α σ : Type} (f : σ → α → Option σ) : σ → List α → Option σ
  | s, [] => some s
  | s, x :: l => match f s x with
    | some t => foldO f t l
    | none => none
theorem foldO_snoc {α σ : Type} {f : σ → α → Option σ} {x : α} : ∀ {l : List α} {s t : σ}, foldO f s l = some t → foldO f s (l ++ [x]) = f t x
  | [], s, t, h => by
    injection h with h
    subst h
    simp only [List.nil_append, foldO]
    split <;> simp_all
  | y :: l, s, t, h => by
    simp only [foldO, List.cons_append] at h ⊢
    split at h
    · exact foldO_snoc h
    · cases h
theorem foldO_app {α σ : Type} {f : σ → α → Option σ} : ∀ {l m : List α} {s t : σ}, foldO f s l = some t → foldO f s (l ++ m) = foldO f t m
  | [], m, s, t, h => by injection h with h; subst h; rfl
  | y :: l, m, s, t, h => by
    simp only [foldO, List.cons_append] at h ⊢
    split at h
    · exact foldO_app h
    · cases h
theorem foldO_none {α σ : Type} {f : σ → α → Option σ} {x : α} {l : List α} {s t : σ} {i : Nat} (h : foldO f s (l.take i) = some t) (hi : l[i]? = some x) (hx : f t x = none) : foldO f s l = none := by
  have e : l = l.take i ++ x :: l.drop (i + 1) := by
    rw [← drop_cons hi, List.take_append_drop]
  rw [e, foldO_app h]
  simp [foldO, hx]
theorem foldO_next {α σ : Type} {f : σ → α → Option σ} {x : α} {l : List α} {s t : σ} {i : Nat} (h : foldO f s (l.take i) = some t) (hi : l[i]? = some x) : foldO f s (l.take (i + 1)) = f t x := by
  rw [List.take_add_one, hi]
  exact foldO_snoc h
/-! ### Runs -/
theorem rle_app : ∀ (c d : List Int), (∀ v, c.getLast? = some v → d.head? ≠ some v) → rle (c ++ d) = rle c ++ rle d
  | [], d, _ => rfl
  | [a], d, h => by
    have hd : d.head? ≠ some a := h a rfl
    have := rle_run a hd 0
    simpa [rle] using this
  | a :: b :: r, d, h => by
    have ih := rle_app (b :: r) d (fun v hv => h v (by rw [List.getLast?_cons_cons]; exact hv))
    show rle (a :: ((b :: r) ++ d)) = _
    rw [rle_cons, ih, rle_cons a (b :: r)]
    cases hr : rle (b :: r) with
    | nil =>
      have := rle_cons b r
      rw [hr] at this
      split at this
      · cases this
      · split at this <;> cases this
    | cons x t =>
      simp only [List.cons_append]
      split <;> rfl
theorem rle_rep {v : Int} {k : Nat} (hk : 1 ≤ k) : rle (List.replicate k v) = [(v, k)] := by
  obtain ⟨k, rfl⟩ : ∃ j, k = j + 1 := ⟨k - 1, by omega⟩
  have := rle_run v (t := []) (by simp) k
  simpa [rle] using this
theorem rle_more {c : List Int} {v : Int} {k : Nat} (hk : 1 ≤ k) (h : c.getLast? ≠ some v) : rle (c ++ List.replicate k v) = rle c ++ [(v, k)] := by
  rw [rle_app c _ (fun u hu e => ?_), rle_rep hk]
  obtain ⟨k, rfl⟩ : ∃ j, k = j + 1 := ⟨k - 1, by omega⟩
  simp only [List.replicate_succ, List.head?_cons, Option.some.injEq] at e
  subst e
  exact h hu
/-- Runs laid out. -/
def lay : List (Int × Nat) → List Int
  | [] => []
  | x :: r => List.replicate x.2 x.1 ++ lay r
theorem lay_app : ∀ (a b : List (Int × Nat)), lay (a ++ b) = lay a ++ lay b
  | [], _ => rfl
  | x :: a, b => by simp [lay, lay_app a b]
theorem lay_rle : ∀ l : List Int, lay (rle l) = l
  | [] => rfl
  | v :: r => by
    have ih := lay_rle r
    rw [rle_cons]
    split
    · rename_i h
      rw [h] at ih
      simp only [lay] at ih
      simp [lay, ← ih]
    · rename_i w k t h
      rw [h] at ih
      split
      · rename_i e
        subst e
        simp only [lay] at ih ⊢
        rw [List.replicate_succ, List.cons_append, ih]
      · simp only [lay] at ih ⊢
        rw [ih]; rfl
/-- Runs beside each other differ, and none is empty. -/
def Chn : List (Int × Nat) → Prop
  | [] => True
  | [x] => 1 ≤ x.2
  | x :: y :: r => 1 ≤ x.2 ∧ x.1 ≠ y.1 ∧ Chn (y :: r)
theorem chn_rle : ∀ l : List Int, Chn (rle l)
  | [] => trivial
  | v :: r => by
    have ih := chn_rle r
    rw [rle_cons]
    split
    · exact Nat.le_refl 1
    · rename_i w k t h
      rw [h] at ih
      split
      · cases t with
        | nil => exact Nat.succ_le_succ (Nat.zero_le _)
        | cons y t => exact ⟨Nat.succ_le_succ (Nat.zero_le _), ih.2.1, ih.2.2⟩
      · rename_i hne
        exact ⟨Nat.le_refl 1, fun e => hne e.symm, ih⟩
theorem lay_last {a : List (Int × Nat)} {x : Int × Nat} (hx : 1 ≤ x.2) : (lay (a ++ [x])).getLast? = some x.1 := by
  rw [lay_app]
  simp only [lay, List.append_nil]
  obtain ⟨k, hk⟩ : ∃ j, x.2 = j + 1 := ⟨x.2 - 1, by omega⟩
  rw [hk, List.replicate_succ', ← List.append_assoc, List.getLast?_append]
  simp
/-- What holds of each step holds of the whole. -/
theorem fold_runs {f : List Int → List UInt8 → Option (List Int)} {m : Nat} (hf : ∀ (c : List Int) (x : Int × Nat), 0 ≤ x.1 → x.1 ≤ 10000 → 1 ≤ x.2 → c.length + x.2 ≤ m → c.getLast? ≠ some x.1 → f c (wordL x) = some (c ++ List.replicate x.2 x.1)) :
    ∀ (rs done : List (Int × Nat)), Chn rs → (∀ x ∈ rs, 0 ≤ x.1 ∧ x.1 ≤ 10000) → (∀ x y, done.getLast? = some x → rs.head? = some y → x.1 ≠ y.1) → (∀ x, done.getLast? = some x → 1 ≤ x.2) → (lay (done ++ rs)).length ≤ m → foldO f (lay done) (rs.map wordL) = some (lay (done ++ rs))
  | [], done, _, _, _, _, _ => by simp [foldO]
  | x :: rs, done, hc, hv, hd, h1, hl => by
    have hx : 1 ≤ x.2 := by
      cases rs with
      | nil => exact hc
      | cons y r => exact hc.1
    have hv0 := hv x (by simp)
    have hl' : (lay done).length + x.2 ≤ m := by
      rw [lay_app] at hl
      simp only [lay, List.length_append, List.length_replicate] at hl
      omega
    have hlast : (lay done).getLast? ≠ some x.1 := by
      rcases List.eq_nil_or_concat done with rfl | ⟨d, y, rfl⟩
      · simp [lay]
      · have hy := h1 y (by simp)
        rw [List.concat_eq_append, lay_last hy]
        intro e
        injection e with e
        exact hd y x (by simp) (by simp) e
    rw [List.map_cons]
    simp only [foldO]
    rw [hf (lay done) x hv0.1 hv0.2 hx hl' hlast]
    have e : lay done ++ List.replicate x.2 x.1 = lay (done ++ [x]) := by rw [lay_app]; simp [lay]
    simp only [e]
    have ih := fold_runs hf rs (done ++ [x]) (by cases rs with | nil => trivial | cons y r => exact hc.2.2) (fun y hy => hv y (by simp [hy])) (fun a b ha hb => by
      simp at ha
      subst ha
      cases rs with
      | nil => cases hb
      | cons y r => injection hb with hb; subst hb; exact hc.2.1) (fun a ha => by simp at ha; subst ha; exact hx) (by simpa using hl)
    simpa using ih
/-! ### Words of runs -/
/-- A word read strictly. -/
def srW (c : List Int) (w : List UInt8) : Option (List Int) := match splitC 42 w with
  | [a] => if (numR a).2 = true ∧ (numR a).1 ≤ 10000 ∧ c.length + 1 ≤ 360 ∧ c.getLast? ≠ some (numR a).1 then some (c ++ List.replicate 1 (numR a).1) else none
  | [a, b] => if (numR a).2 = true ∧ (numR b).2 = true ∧ 1 < (numR b).1 ∧ (numR a).1 ≤ 10000 ∧ c.length + (numR b).1.toNat ≤ 360 ∧ c.getLast? ≠ some (numR a).1 then some (c ++ List.replicate (numR b).1.toNat (numR a).1) else none
  | _ => none
/-- How often a lift comes. -/
def timesI (l : List UInt8) : Int := if (numI l).2 = true then (numI l).1 else 1
def irW (c : List Int) (w : List UInt8) : Option (List Int) :=
  if inR (numI (Lib.cut w [42]).1).1 0 10000 = true ∧ inR (timesI (Lib.cut w [42]).2.1) 1 (360 - c.length) = true then some (c ++ List.replicate (timesI (Lib.cut w [42]).2.1).toNat (numI (Lib.cut w [42]).1).1) else none
theorem srW_word (c : List Int) (x : Int × Nat) (h0 : 0 ≤ x.1) (h1 : x.1 ≤ 10000) (h2 : 1 ≤ x.2) (h3 : c.length + x.2 ≤ 360) (h4 : c.getLast? ≠ some x.1) : srW c (wordL x) = some (c ++ List.replicate x.2 x.1) := by
  obtain ⟨v, k⟩ := x
  obtain ⟨v, rfl⟩ := Int.eq_ofNat_of_zero_le h0
  simp only at h0 h1 h2 h3 h4
  unfold srW wordL
  simp only [Int.toNat_natCast]
  by_cases hk : k > 1
  · rw [if_pos hk, splitC_hit (dec_no' (by decide) v), splitC_miss (dec_no' (by decide) k)]
    simp only [numR_dec (u := v) (by omega), numR_dec (u := k) (by omega), Int.toNat_natCast]
    rw [if_pos ⟨trivial, trivial, by omega, by omega, h3, h4⟩]
  · rw [if_neg hk, splitC_miss (dec_no' (by decide) v)]
    obtain rfl : k = 1 := by omega
    simp only [numR_dec (u := v) (by omega)]
    rw [if_pos ⟨trivial, by omega, h3, h4⟩]
theorem irW_word (c : List Int) (x : Int × Nat) (h0 : 0 ≤ x.1) (h1 : x.1 ≤ 10000) (h2 : 1 ≤ x.2) (h3 : c.length + x.2 ≤ 360) (_ : c.getLast? ≠ some x.1) : irW c (wordL x) = some (c ++ List.replicate x.2 x.1) := by
  obtain ⟨v, k⟩ := x
  obtain ⟨v, rfl⟩ := Int.eq_ofNat_of_zero_le h0
  simp only at h0 h1 h2 h3
  unfold irW wordL timesI
  simp only [Int.toNat_natCast]
  by_cases hk : k > 1
  · rw [if_pos hk, cut_hit (dec_no' (by decide) v)]
    simp only [numI_dec (u := v) (by omega), numI_dec (u := k) (by omega), if_true, Int.toNat_natCast]
    rw [if_pos ⟨inR_iff.2 ⟨by omega, by omega⟩, inR_iff.2 ⟨by omega, by omega⟩⟩]
  · rw [if_neg hk, cut_miss (dec_no' (by decide) v)]
    obtain rfl : k = 1 := by omega
    have e : numI [] = (0, false) := rfl
    simp only [numI_dec (u := v) (by omega), e]
    rw [if_pos ⟨inR_iff.2 ⟨by omega, by omega⟩, inR_iff.2 ⟨by simp, by simp; omega⟩⟩]
    rfl
theorem srW_ok {c d : List Int} {w : List UInt8} (h : srW c w = some d) : ∃ x : Int × Nat, w = wordL x ∧ 0 ≤ x.1 ∧ x.1 ≤ 10000 ∧ 1 ≤ x.2 ∧ c.length + x.2 ≤ 360 ∧ c.getLast? ≠ some x.1 ∧ d = c ++ List.replicate x.2 x.1 := by
  have hj := (splitC_spec 42 w).1
  unfold srW at h
  split at h
  · rename_i a e
    rw [e] at hj
    split at h
    · rename_i hc
      injection h with h
      obtain ⟨u, hu, ea, eu⟩ := numR_ok hc.1
      refine ⟨((numR a).1, 1), ?_, by show 0 ≤ (numR a).1; omega, hc.2.1, Nat.le_refl _, hc.2.2.1, hc.2.2.2, h.symm⟩
      unfold wordL
      rw [if_neg (by simp), eu, Int.toNat_natCast, ← ea, ← hj]
      simp [Lib.join]
    · cases h
  · rename_i a b e
    rw [e] at hj
    split at h
    · rename_i hc
      injection h with h
      obtain ⟨u, hu, ea, eu⟩ := numR_ok hc.1
      obtain ⟨t, ht, eb, et⟩ := numR_ok hc.2.1
      have h2 := hc.2.2.1
      refine ⟨((numR a).1, (numR b).1.toNat), ?_, by show 0 ≤ (numR a).1; omega, hc.2.2.2.1, by show 1 ≤ (numR b).1.toNat; omega, hc.2.2.2.2.1, hc.2.2.2.2.2, h.symm⟩
      unfold wordL
      rw [if_pos (by show (numR b).1.toNat > 1; omega), eu, et, Int.toNat_natCast, Int.toNat_natCast, ← ea, ← eb, ← hj]
      simp [Lib.join]
    · cases h
  · cases h
theorem wordL_no (x : Int × Nat) : (32 : UInt8) ∉ wordL x := by
  unfold wordL
  split
  · intro h
    rcases List.mem_append.1 h with h | h
    · exact dec_no' (by decide) _ h
    · rcases List.mem_cons.1 h with h | h
      · revert h; decide
      · exact dec_no' (by decide) _ h
  · exact dec_no' (by decide) _
theorem srW_fold : ∀ (ws : List (List UInt8)) {c0 c : List Int}, c0.length ≤ 360 → (∀ v ∈ c0, 0 ≤ v ∧ v ≤ 10000) → foldO srW c0 ws = some c → (rle c).map wordL = (rle c0).map wordL ++ ws ∧ c.length ≤ 360 ∧ ∀ v ∈ c, 0 ≤ v ∧ v ≤ 10000
  | [], c0, c, hl, hv, h => by
    injection h with h
    subst h
    exact ⟨by simp, hl, hv⟩
  | w :: ws, c0, c, hl, hv, h => by
    simp only [foldO] at h
    split at h
    · rename_i d hd
      obtain ⟨x, ew, x0, x1, x2, x3, x4, ed⟩ := srW_ok hd
      subst ed
      obtain ⟨h1, h2, h3⟩ := srW_fold ws (by simp; omega) (fun v hv' => by
        rcases List.mem_append.1 hv' with hv' | hv'
        · exact hv v hv'
        · rw [(List.mem_replicate.1 hv').2]; exact ⟨x0, x1⟩) h
      refine ⟨?_, h2, h3⟩
      rw [h1, rle_more x2 x4, List.map_append, ew]
      simp
    · cases h
/-- What is known of a cam as far as it is read. -/
def GoodC (c : List Int) : Prop := c.length ≤ 360 ∧ ∀ v ∈ c, 0 ≤ v ∧ v ≤ 10000
theorem GoodC.rng {c : List Int} (h : GoodC c) : Rng c := ⟨by have := h.1; omega, fun v hv => by have := h.2 v hv; omega⟩
theorem irW_good {c d : List Int} {w : List UInt8} (hc : GoodC c) (h : irW c w = some d) : GoodC d := by
  unfold irW at h
  split at h
  · rename_i hh
    injection h with h
    subst h
    have h1 := inR_iff.1 hh.1
    have h2 := inR_iff.1 hh.2
    have h3 := hc.1
    refine ⟨by rw [List.length_append, List.length_replicate]; omega, fun v hv => ?_⟩
    rcases List.mem_append.1 hv with hv | hv
    · exact hc.2 v hv
    · rw [(List.mem_replicate.1 hv).2]; exact h1
  · cases h
theorem irW_fold : ∀ (ws : List (List UInt8)) {c0 c : List Int}, GoodC c0 → foldO irW c0 ws = some c → GoodC c
  | [], c0, c, hg, h => by injection h with h; subst h; exact hg
  | w :: ws, c0, c, hg, h => by
    simp only [foldO] at h
    split at h
    · rename_i d hd
      exact irW_fold ws (irW_good hg hd) h
    · cases h
theorem good0 : GoodC [] := ⟨by simp, by simp⟩
theorem srW_good {ws : List (List UInt8)} {c : List Int} (h : foldO srW [] ws = some c) : GoodC c := (srW_fold ws (c0 := []) (by simp) (by simp) h).2
theorem camJ_split {c : List Int} (h : okC c = true) : splitC 32 (camJ c) = (rle c).map wordL := by
  have hl := okC_len h
  cases hr : rle c with
  | nil =>
    have := lay_rle c
    rw [hr] at this
    rw [← this] at hl
    simp [lay] at hl
  | cons x r =>
    unfold camJ
    rw [hr]
    exact splitC_join _ _ (wordL_no x) fun v hv => by
      obtain ⟨y, _, rfl⟩ := List.mem_map.1 hv
      exact wordL_no y
theorem fold_text {f : List Int → List UInt8 → Option (List Int)} (hf : ∀ (c : List Int) (x : Int × Nat), 0 ≤ x.1 → x.1 ≤ 10000 → 1 ≤ x.2 → c.length + x.2 ≤ 360 → c.getLast? ≠ some x.1 → f c (wordL x) = some (c ++ List.replicate x.2 x.1))
    {c : List Int} (hr : Rng c) (h : okC c = true) : foldO f [] (splitC 32 (camJ c)) = some c := by
  have hl := okC_len h
  have he := okC_el h hr
  rw [camJ_split h]
  have := fold_runs hf (rle c) [] (chn_rle c) (fun x hx => he _ (rle_el c x hx).1) (fun x y hx => by simp at hx) (fun x hx => by simp at hx) (by rw [List.nil_append, lay_rle]; omega)
  rw [List.nil_append, lay_rle] at this
  exact this
/-- What both answer. -/
def rdC (l : List UInt8) : List Int × Int := match foldO srW [] (splitC 32 l) with
  | some c => if okC c = true then (c, 0) else ([], 5)
  | none => ([], 5)
theorem rdC_text {c : List Int} (hr : Rng c) (h : okC c = true) : rdC (camJ c) = (c, 0) := by
  unfold rdC
  rw [fold_text srW_word hr h]
  simp only
  rw [if_pos h]
theorem rdC_back {l : List UInt8} {c : List Int} (h : foldO srW [] (splitC 32 l) = some c) : camJ c = l := by
  obtain ⟨h1, _, _⟩ := srW_fold _ (c0 := []) (by simp) (by simp) h
  unfold camJ
  rw [h1]
  show Lib.join ((rle []).map wordL ++ _) [32] = l
  exact (splitC_spec 32 l).1
theorem rdC_eq (l : List UInt8) : rdC l = match foldO irW [] (splitC 32 l) with
  | some c => if okC c = true ∧ camJ c = l then (c, 0) else ([], 5)
  | none => ([], 5) := by
  unfold rdC
  cases hs : foldO srW [] (splitC 32 l) with
  | some c =>
    have hr := (srW_good hs).rng
    have e := rdC_back hs
    simp only
    by_cases ho : okC c = true
    · have := fold_text irW_word hr ho
      rw [e] at this
      rw [this]
      simp only
      rw [if_pos ho, if_pos ⟨ho, e⟩]
    · rw [if_neg ho]
      cases hi : foldO irW [] (splitC 32 l) with
      | none => rfl
      | some d =>
        simp only
        by_cases hq : okC d = true ∧ camJ d = l
        · have := fold_text srW_word (irW_fold _ good0 hi).rng hq.1
          rw [hq.2, hs] at this
          injection this with this
          subst this
          exact absurd hq.1 ho
        · rw [if_neg hq]
  | none =>
    simp only
    cases hi : foldO irW [] (splitC 32 l) with
    | none => rfl
    | some d =>
      simp only
      by_cases hq : okC d = true ∧ camJ d = l
      · have := fold_text srW_word (irW_fold _ good0 hi).rng hq.1
        rw [hq.2, hs] at this
        cases this
      · rw [if_neg hq]
theorem rdC_good (l : List UInt8) : GoodC (rdC l).1 := by
  unfold rdC
  split
  · rename_i c h
    split
    · exact srW_good h
    · exact good0
  · exact good0
end Go.Cams


/- Texts of shafts. In plain terms. -/
namespace Go.Cams
open Go Go.Fw
structure RngSf (s : Sft) : Prop where
  n : -32768 ≤ s.1 ∧ s.1 ≤ 32767
  d : -32768 ≤ s.2.1 ∧ s.2.1 ≤ 32767
  p : -32768 ≤ s.2.2.1 ∧ s.2.2.1 ≤ 32767
  c : Rng s.2.2.2.1
end Go.Cams


/- Shafts read from their texts. In plain terms. -/
namespace Go.Cams
open Go Go.Fw
theorem splitK_hit {c : UInt8} {w : List UInt8} (h : c ∉ w) (k : Nat) (r : List UInt8) : Lib.splitK [c] 0 (k + 1) (w ++ c :: r) = w :: Lib.splitK [c] 0 k r := by
  have ix := ix_hit h r
  have e : Lib.splitK [c] 0 (k + 1) (w ++ c :: r) = if Lib.index (w ++ c :: r) [c] == -1 then [w ++ c :: r] else (w ++ c :: r).take ((Lib.index (w ++ c :: r) [c]).toNat + 0) :: Lib.splitK [c] 0 k ((w ++ c :: r).drop ((Lib.index (w ++ c :: r) [c]).toNat + [c].length)) := rfl
  rw [e, if_neg (by rw [ix]; simp), ix, Int.toNat_natCast]
  simp
/-- A shaft's line. -/
def liL (s : Sft) : List UInt8 := Lib.decDigits s.1.toNat ++ 32 :: (Lib.decDigits s.2.1.toNat ++ 32 :: (Lib.decDigits s.2.2.1.toNat ++ 32 :: camJ s.2.2.2.1))
theorem splitK_wlen {c : UInt8} : ∀ (k : Nat) (l : List UInt8), ∀ w ∈ Lib.splitK [c] 0 k l, w.length ≤ l.length
  | 0, l, w, h => by
    rw [show Lib.splitK [c] 0 0 l = [l] from rfl, List.mem_singleton] at h
    rw [h]; exact Nat.le_refl _
  | k + 1, l, w, h => by
    rw [show Lib.splitK [c] 0 (k + 1) l = if Lib.index l [c] == -1 then [l] else l.take ((Lib.index l [c]).toNat + 0) :: Lib.splitK [c] 0 k (l.drop ((Lib.index l [c]).toNat + [c].length)) from rfl] at h
    split at h
    · rw [List.mem_singleton] at h
      rw [h]; exact Nat.le_refl _
    · rcases List.mem_cons.1 h with rfl | h
      · rw [List.length_take]; omega
      · have := splitK_wlen k _ w h
        rw [List.length_drop] at this
        omega
theorem join_cons2 (w v : List UInt8) (ws : List (List UInt8)) (c : UInt8) : Lib.join (w :: v :: ws) [c] = w ++ c :: Lib.join (v :: ws) [c] := by simp [Lib.join]
theorem liL_no (s : Sft) : (10 : UInt8) ∉ liL s := by
  unfold liL
  intro h
  have hw : ∀ x, (10 : UInt8) ∉ wordL x := fun x h => by
    unfold wordL at h
    split at h
    · rcases List.mem_append.1 h with h | h
      · exact dec_no' (by decide) _ h
      · rcases List.mem_cons.1 h with h | h
        · revert h; decide
        · exact dec_no' (by decide) _ h
    · exact dec_no' (by decide) _ h
  have hj : ∀ (ws : List (List UInt8)), (∀ w ∈ ws, (10 : UInt8) ∉ w) → (10 : UInt8) ∉ Lib.join ws [32] := by
    intro ws
    induction ws with
    | nil => intro _ h; simp [Lib.join] at h
    | cons w ws ih =>
      intro hws h
      cases ws with
      | nil =>
        have e : Lib.join [w] [32] = w := by simp [Lib.join]
        rw [e] at h
        exact hws w (by simp) h
      | cons v vs =>
        rw [join_cons2] at h
        rcases List.mem_append.1 h with h | h
        · exact hws w (by simp) h
        · rcases List.mem_cons.1 h with h | h
          · revert h; decide
          · exact ih (fun x hx => hws x (by simp [hx])) h
  rcases List.mem_append.1 h with h | h
  · exact dec_no' (by decide) _ h
  rcases List.mem_cons.1 h with h | h
  · revert h; decide
  rcases List.mem_append.1 h with h | h
  · exact dec_no' (by decide) _ h
  rcases List.mem_cons.1 h with h | h
  · revert h; decide
  rcases List.mem_append.1 h with h | h
  · exact dec_no' (by decide) _ h
  rcases List.mem_cons.1 h with h | h
  · revert h; decide
  · refine hj _ (fun w hw' => ?_) h
    obtain ⟨x, _, rfl⟩ := List.mem_map.1 hw'
    exact hw x
/-! ### Lines -/
def linesT (ls : List (List UInt8)) : List UInt8 := (ls.map (· ++ [10])).flatten
theorem linesT_join : ∀ ls : List (List UInt8), Lib.join (ls ++ [[]]) [10] = linesT ls
  | [] => by simp [Lib.join, linesT]
  | [w] => by simp [Lib.join, linesT]
  | w :: v :: ls => by
    have ih := linesT_join (v :: ls)
    have e : (w :: v :: ls) ++ [[]] = w :: v :: (ls ++ [[]]) := rfl
    rw [e, join_cons2]
    have e2 : v :: (ls ++ [[]]) = (v :: ls) ++ [[]] := rfl
    rw [e2, ih]
    simp [linesT]
theorem lines_split {ls : List (List UInt8)} (h : ∀ w ∈ ls, (10 : UInt8) ∉ w) : splitC 10 (linesT ls) = ls ++ [[]] := by
  rw [← linesT_join]
  cases ls with
  | nil => simp [Lib.join, splitC]
  | cons w ls =>
    exact splitC_join w (ls ++ [[]]) (h w (by simp)) fun v hv => by
      rcases List.mem_append.1 hv with hv | hv
      · exact h v (by simp [hv])
      · rw [List.mem_singleton.1 hv]; simp
end Go.Cams


/- Cuts' texts, and what a list of cuts of one cutter does. In plain terms. -/
namespace Go.Cams
open Go Go.Fw
theorem OneK.okCt {m : Nat} {L : List Ct} (h : OneK m L) (hm : m ≤ 360) : okCt L 8 = true := by
  have hr := h.rng hm
  simp only [Go.Cams.okCt, Bool.and_eq_true, decide_eq_true_eq, List.all_eq_true]
  refine ⟨h.l, fun v hv => ?_⟩
  have := h.el v hv
  simp only [ctOk, Bool.and_eq_true, inR_iff]
  rw [hr.i1 hv, hr.i2 hv, hr.i3 hv, wrap_id (by simp) (by simp)]
  omega
/-! ### Sums -/
end Go.Cams


/- Shafts' periods, in plain terms. -/
namespace Go.Cams
open Go Go.Fw
/-- A shaft that is drawn. -/
structure DrS (s : Sft) : Prop where
  n : 1 ≤ s.1 ∧ s.1 ≤ 3
  d : 1 ≤ s.2.1 ∧ s.2.1 ≤ 3
  l : 8 ≤ s.2.2.2.1.length ∧ s.2.2.2.1.length ≤ 16
  c : ∀ v ∈ s.2.2.2.1, 0 ≤ v ∧ v ≤ 9
  p : 0 ≤ s.2.2.1 ∧ s.2.2.1 < (s.2.2.2.1.length : Int)
theorem DrS.rng {s : Sft} (h : DrS s) : RngSf s := ⟨by have := h.n; omega, by have := h.d; omega, by have := h.p; have := h.l; omega, rng_bd (by have := h.l; omega) fun v hv => by have := h.c v hv; omega⟩
theorem DrS.ok {s : Sft} (h : DrS s) : okS s = true := by
  have h1 := h.n
  have h2 := h.d
  have h3 := h.l
  have h4 := h.p
  simp only [okS, okC, Bool.and_eq_true, inR_iff, List.all_eq_true]
  rw [wrap_id (x := s.1) (by omega) (by omega), wrap_id (x := s.2.1) (by omega) (by omega), wrap_id (x := s.2.2.1) (by omega) (by omega), wrap_id (by omega) (by omega)]
  refine ⟨⟨⟨by omega, by omega⟩, ⟨by omega, fun v hv => ?_⟩⟩, by omega⟩
  have := h.c v hv
  simp only [okV, inR_iff]
  rw [wrap_id (by omega) (by omega)]
  omega
end Go.Cams


/- Cams turned and mirrored, in plain terms. -/
namespace Go.Cams
open Go Go.Fw
def Per (c : List Int) (k : Int) : Prop := ∀ x, cAt c (x + k) = cAt c x
theorem Per.neg {c : List Int} {k : Int} (h : Per c k) : Per c (-k) := fun x => by
  have := h (x + -k)
  rw [← this]
  congr 1
  omega
/-! ### Mirrors -/
/-! ### Which of two turns comes first -/
def LexP (a b : Int → Int) (n : Nat) : Prop := ∃ i : Nat, i < n ∧ (∀ j : Nat, j < i → a j = b j) ∧ a i < b i
noncomputable instance lexD (a b : Int → Int) (n : Nat) : Decidable (LexP a b n) := Classical.propDecidable _
/-! ### Sums -/
/-! ### The greatest's place -/
end Go.Cams


/- Plates' texts in base 16, in plain terms. -/
namespace Go.Cams
open Go Go.Fw
end Go.Cams


/- Plates read from their texts in base 16, in plain terms. -/
namespace Go.Cams
open Go Go.Fw
end Go.Cams


/- Grids' texts, in plain terms. -/
namespace Go.Cams
open Go Go.Fw
/-! ### Repairs -/
end Go.Cams


/- Digits of base 16 gathered, in plain terms. -/
namespace Go.Cams
open Go Go.Fw
end Go.Cams


/- The greatest of numbers, as the reference finds it. -/
namespace Go.Cams
open Go Go.Fw
end Go.Cams


/- Free stretches of steps, in plain terms. -/
namespace Go.Cams
open Go Go.Fw
def hF (h : List Bool) (j : Nat) : Bool := h.getD (j % h.length) false
/-! ### Sorted -/
end Go.Cams


/- Even fillings, in plain terms. -/
namespace Go.Cams
open Go Go.Fw
end Go.Cams


/- Rounds, dwells, even fillings within a cam's range, in plain terms. -/
namespace Go.Cams
open Go Go.Fw
/-- What is kept: the steps, the range, the held lifts. -/
structure KpC (c : List Int) (h : List Bool) (lo hi : Int) (d : List Int) : Prop where
  len : d.length = c.length
  el : ∀ v ∈ d, lo ≤ v ∧ v ≤ hi
  held : ∀ i, i < c.length → hF h i = true → g d i = g c i
theorem KpC.at {c d : List Int} {h : List Bool} {lo hi : Int} (K : KpC c h lo hi d) (h0 : 0 < c.length) (x : Int) : lo ≤ cAt d x ∧ cAt d x ≤ hi := K.el _ (cAt_mem (by rw [K.len]; exact h0) x)
/-! ### Fillings -/
/-! ### Free steps, counted -/
/-! ### Sums -/
end Go.Cams


/- Machines that are turned, flipped, done one behind another; the time of the pen. In plain terms. -/
namespace Go.Cams
open Go Go.Fw
structure DrM (m : Mch) : Prop where
  len : 8 ≤ m.1.length ∧ m.1.length ≤ 27
  ly : m.2.1.length = m.1.length
  lp : m.2.2.1.length = m.1.length
  x : ∀ v ∈ m.1, 0 ≤ v ∧ v ≤ 63
  y : ∀ v ∈ m.2.1, 0 ≤ v ∧ v ≤ 63
  p : ∀ v ∈ m.2.2.1, 0 ≤ v ∧ v ≤ 1
theorem headD_el {l : List Int} {a b : Int} (h : 0 < l.length) (hb : ∀ v ∈ l, a ≤ v ∧ v ≤ b) : a ≤ l.headD 0 ∧ l.headD 0 ≤ b := by
  cases l with
  | nil => exact absurd h (by simp)
  | cons v r => exact hb v (by simp)
theorem mv_of {l : List Int} (h : 8 ≤ l.length ∧ l.length ≤ 360) (hb : ∀ v ∈ l, 0 ≤ v ∧ v ≤ 63) : mv l = true := by
  unfold mv
  rw [okC_of (by omega) (fun v hv => by have := hb v hv; omega)]
  have h1 := mxF_le l (l.headD 0) 63 (headD_el (by omega) hb).2 fun v hv => (hb v hv).2
  have : mxL l < 64 := by show mxF l (l.headD 0) < 64; omega
  simp [this]
theorem okM_of {m : Mch} (h : 8 ≤ m.1.length ∧ m.1.length ≤ 360) (ly : m.2.1.length = m.1.length) (lp : m.2.2.1.length = m.1.length) (x : ∀ v ∈ m.1, 0 ≤ v ∧ v ≤ 63) (y : ∀ v ∈ m.2.1, 0 ≤ v ∧ v ≤ 63) (p : ∀ v ∈ m.2.2.1, 0 ≤ v ∧ v ≤ 1) : okM m = true := by
  unfold okM
  rw [mv_of h x, mv_of (by omega) y, okC_of (c := m.2.2.1) (by omega) (fun v hv => by have := p v hv; omega), ly, lp]
  simp
theorem rngM_of' {m : Mch} (h : m.1.length ≤ 360) (ly : m.2.1.length = m.1.length) (lp : m.2.2.1.length = m.1.length) (x : ∀ v ∈ m.1, 0 ≤ v ∧ v ≤ 63) (y : ∀ v ∈ m.2.1, 0 ≤ v ∧ v ≤ 63) (p : ∀ v ∈ m.2.2.1, 0 ≤ v ∧ v ≤ 1) : RngM m :=
  ⟨rng_bd (by omega) fun v hv => by have := x v hv; omega, rng_bd (by omega) fun v hv => by have := y v hv; omega, rng_bd (by omega) fun v hv => by have := p v hv; omega⟩
theorem DrM.ok {m : Mch} (D : DrM m) : okM m = true := okM_of (by have := D.len; omega) D.ly D.lp D.x D.y D.p
theorem DrM.rng {m : Mch} (D : DrM m) : RngM m := rngM_of' (by have := D.len; omega) D.ly D.lp D.x D.y D.p
theorem DrM.good {m : Mch} (D : DrM m) : GoodM m := goodM D.ok
/-! ### Marks -/
theorem DrM.draws {m : Mch} (D : DrM m) : drawTo m m.1.length = plt (mks m m.1.length) := drawTo_mks m (fun _ hi => stop_on D.rng D.good hi) _ (Nat.le_refl _)
/-! ### Turned -/
/-! ### Backward twice -/
/-! ### Flipped -/
/-! ### Counted twice -/
/-! ### One behind another -/
/-! ### The time of the pen -/
end Go.Cams


/- Machines read back from their texts, in plain terms. -/
namespace Go.Cams
open Go Go.Fw
def splitN3 (l : List UInt8) : List (List UInt8) := Lib.splitK [10] 0 (min 3 (l.length + 1) - 1) l
theorem splitN3_tx (l : List UInt8) : Lib.splitB (tx [10]) 0 (min 3 ((tx l).size + 1) - 1) (tx l) = (splitN3 l).map tx := by
  rw [tx_size]
  exact tx_map (Lib.splitB_data _ _ _ _)
def machL (m : Mch) : List UInt8 := (((([120, 32] ++ camJ m.1) ++ [10, 121, 32]) ++ camJ m.2.1) ++ [10, 112, 101, 110, 32]) ++ camJ m.2.2.1 ++ [10]
theorem machT_L (m : Mch) : machT m = tx (machL m) := rfl
theorem trim_no {w : List UInt8} (h : (10 : UInt8) ∉ w) : Lib.trimSuffix w [10] = w := by
  unfold Lib.trimSuffix Lib.hasSuffix
  rw [if_neg]
  intro hs
  have := (List.isSuffixOf_iff_suffix.1 hs)
  exact h (this.subset (by simp))
theorem trim_yes (w : List UInt8) : Lib.trimSuffix (w ++ [10]) [10] = w := by
  unfold Lib.trimSuffix Lib.hasSuffix
  rw [if_pos (by simp [List.isSuffixOf_iff_suffix])]
  simp
theorem camJ_no10 (c : List Int) : (10 : UInt8) ∉ camJ c := fun h => liL_no ((0, 0, 0, c, ()) : Sft) (by
  unfold liL
  exact List.mem_append_right _ (List.mem_cons_of_mem _ (List.mem_append_right _ (List.mem_cons_of_mem _ (List.mem_append_right _ (List.mem_cons_of_mem _ h))))))
theorem splitN3_mach (m : Mch) : splitN3 (machL m) = [120 :: 32 :: camJ m.1, 121 :: 32 :: camJ m.2.1, (112 :: 101 :: 110 :: 32 :: camJ m.2.2.1) ++ [10]] := by
  have e : machL m = (120 :: 32 :: camJ m.1) ++ 10 :: ((121 :: 32 :: camJ m.2.1) ++ 10 :: ((112 :: 101 :: 110 :: 32 :: camJ m.2.2.1) ++ [10])) := by simp [machL]
  have hl : 3 ≤ (machL m).length + 1 := by rw [e]; simp
  have n1 : (10 : UInt8) ∉ (120 :: 32 :: camJ m.1 : List UInt8) := by
    have := camJ_no10 m.1
    simp [this]
  have n2 : (10 : UInt8) ∉ (121 :: 32 :: camJ m.2.1 : List UInt8) := by
    have := camJ_no10 m.2.1
    simp [this]
  unfold splitN3
  rw [Nat.min_eq_left hl, e, splitK_hit n1 1, splitK_hit n2 0]
  rfl
end Go.Cams


/- Machines read from their texts: both ways answer the same. In plain terms. -/
namespace Go.Cams
open Go Go.Fw
/-- What spec.l01Read answers. -/
def rdQ (l : List UInt8) : List Int × Bool × Unit := match foldO srW [] (splitC 32 l) with
  | some c => (c, okC c, ())
  | none => ([], false, ())
theorem rdQ_text {c : List Int} (hr : Rng c) (h : okC c = true) : rdQ (camJ c) = (c, true, ()) := by
  unfold rdQ
  rw [fold_text srW_word hr h]
  simp only
  rw [h]
theorem rdQ_ok {l : List UInt8} (h : (rdQ l).2.1 = true) : camJ (rdQ l).1 = l ∧ okC (rdQ l).1 = true ∧ Rng (rdQ l).1 := by
  unfold rdQ at h ⊢
  cases hs : foldO srW [] (splitC 32 l) with
  | none => rw [hs] at h; cases h
  | some c =>
    rw [hs] at h
    exact ⟨rdC_back hs, h, (srW_good hs).rng⟩
def lcS (w a : List UInt8) : List Int × Bool × Unit := if w.isPrefixOf a = true then rdQ (a.drop w.length) else ([], false, ())
theorem lcS_hit (w r : List UInt8) : lcS w (w ++ r) = rdQ r := by
  unfold lcS
  rw [if_pos (by simp [List.isPrefixOf_iff_prefix]), List.drop_left]
theorem lcS_ok {w a : List UInt8} (h : (lcS w a).2.1 = true) : w ++ camJ (lcS w a).1 = a ∧ okC (lcS w a).1 = true ∧ Rng (lcS w a).1 := by
  unfold lcS at h ⊢
  split at h
  · rename_i hp
    rw [if_pos hp]
    obtain ⟨h1, h2, h3⟩ := rdQ_ok h
    obtain ⟨r, rfl⟩ := List.isPrefixOf_iff_prefix.1 hp
    rw [List.drop_left] at h1 h2 h3 ⊢
    exact ⟨by rw [h1], h2, h3⟩
  · cases h
def errM : Mch × Int × Unit := (([], [], [], ()), 5, ())
/-- What the reference answers. -/
def rdMS (l : List UInt8) : Mch × Int × Unit := match splitC 10 l with
  | [a, b, c, d] => if d = [] ∧ ((lcS [120, 32] a).2.1 = true ∧ (lcS [121, 32] b).2.1 = true ∧ (lcS [112, 101, 110, 32] c).2.1 = true ∧ okM ((lcS [120, 32] a).1, (lcS [121, 32] b).1, (lcS [112, 101, 110, 32] c).1, ()) = true) then (((lcS [120, 32] a).1, (lcS [121, 32] b).1, (lcS [112, 101, 110, 32] c).1, ()), 0, ()) else errM
  | _ => errM
/-- A cam of a line, as impl reads it. -/
def lcI (w : List UInt8) : List Int := (rdC (Lib.cut (Lib.trimSuffix w [10]) [32]).2.1).1
def rdMc (l : List UInt8) (i : Nat) : List Int := match (splitN3 l)[i]? with
  | some w => lcI w
  | none => []
def rdMm (l : List UInt8) : Mch := (rdMc l 0, rdMc l 1, rdMc l 2, ())
/-- What impl answers. -/
def rdMI (l : List UInt8) : Mch × Int × Unit := if okM (rdMm l) = true ∧ machL (rdMm l) = l then (rdMm l, 0, ()) else errM
theorem mach_cut (m : Mch) : lcI (120 :: 32 :: camJ m.1) = (rdC (camJ m.1)).1 ∧ lcI (121 :: 32 :: camJ m.2.1) = (rdC (camJ m.2.1)).1 ∧ lcI ((112 :: 101 :: 110 :: 32 :: camJ m.2.2.1) ++ [10]) = (rdC (camJ m.2.2.1)).1 := by
  have n1 : (10 : UInt8) ∉ (120 :: 32 :: camJ m.1 : List UInt8) := by
    have := camJ_no10 m.1
    simp [this]
  have n2 : (10 : UInt8) ∉ (121 :: 32 :: camJ m.2.1 : List UInt8) := by
    have := camJ_no10 m.2.1
    simp [this]
  have hC1 : Lib.cut (120 :: 32 :: camJ m.1 : List UInt8) [32] = ([120], camJ m.1, true) := cut_hit (w := [120]) (by decide) _
  have hC2 : Lib.cut (121 :: 32 :: camJ m.2.1 : List UInt8) [32] = ([121], camJ m.2.1, true) := cut_hit (w := [121]) (by decide) _
  have hC3 : Lib.cut (112 :: 101 :: 110 :: 32 :: camJ m.2.2.1 : List UInt8) [32] = ([112, 101, 110], camJ m.2.2.1, true) := cut_hit (w := [112, 101, 110]) (by decide) _
  unfold lcI
  rw [trim_no n1, trim_no n2, trim_yes, hC1, hC2, hC3]
  exact ⟨rfl, rfl, rfl⟩
theorem rdMI_text {m : Mch} (hr : RngM m) (h : okM m = true) : rdMI (machL m) = (m, 0, ()) := by
  have G := goodM h
  obtain ⟨h1, h2, h3⟩ := mach_cut m
  rw [rdC_text hr.x G.x] at h1
  rw [rdC_text hr.y G.y] at h2
  rw [rdC_text hr.p G.p] at h3
  have e : rdMm (machL m) = m := by
    have e0 : rdMc (machL m) 0 = m.1 := by unfold rdMc; rw [splitN3_mach]; exact h1
    have e1 : rdMc (machL m) 1 = m.2.1 := by unfold rdMc; rw [splitN3_mach]; exact h2
    have e2 : rdMc (machL m) 2 = m.2.2.1 := by unfold rdMc; rw [splitN3_mach]; exact h3
    unfold rdMm
    rw [e0, e1, e2]
  unfold rdMI
  rw [e, if_pos ⟨h, rfl⟩]
theorem lcI_rng (w : List UInt8) : Rng (lcI w) := (rdC_good _).rng
theorem rdMc_rng (l : List UInt8) (i : Nat) : Rng (rdMc l i) := by
  unfold rdMc
  split
  · exact lcI_rng _
  · exact rng_bd (by simp) (by simp)
theorem rdMm_rng (l : List UInt8) : RngM (rdMm l) := ⟨rdMc_rng l 0, rdMc_rng l 1, rdMc_rng l 2⟩
theorem mach_split (m : Mch) : splitC 10 (machL m) = [[120, 32] ++ camJ m.1, [121, 32] ++ camJ m.2.1, [112, 101, 110, 32] ++ camJ m.2.2.1, []] := by
  have e : machL m = linesT [[120, 32] ++ camJ m.1, [121, 32] ++ camJ m.2.1, [112, 101, 110, 32] ++ camJ m.2.2.1] := by simp [machL, linesT]
  rw [e, lines_split]
  · rfl
  · intro w hw
    have n1 := camJ_no10 m.1
    have n2 := camJ_no10 m.2.1
    have n3 := camJ_no10 m.2.2.1
    simp only [List.mem_cons, List.not_mem_nil, or_false] at hw
    rcases hw with rfl | rfl | rfl <;> simp [n1, n2, n3]
theorem rdMS_text {m : Mch} (hr : RngM m) (h : okM m = true) : rdMS (machL m) = (m, 0, ()) := by
  have G := goodM h
  unfold rdMS
  rw [mach_split]
  simp only
  rw [lcS_hit, lcS_hit, lcS_hit, rdQ_text hr.x G.x, rdQ_text hr.y G.y, rdQ_text hr.p G.p]
  rw [if_pos ⟨trivial, rfl, rfl, rfl, h⟩]
theorem rdMS_back (l : List UInt8) : rdMS l = errM ∨ ∃ m, RngM m ∧ okM m = true ∧ l = machL m := by
  unfold rdMS
  split
  · rename_i a b c d hs
    split
    · rename_i h
      obtain ⟨rfl, h1, h2, h3, h4⟩ := h
      obtain ⟨a1, a2, a3⟩ := lcS_ok h1
      obtain ⟨b1, b2, b3⟩ := lcS_ok h2
      obtain ⟨c1, c2, c3⟩ := lcS_ok h3
      refine .inr ⟨_, ⟨a3, b3, c3⟩, h4, ?_⟩
      have hj := (splitC_spec 10 l).1
      rw [hs] at hj
      have e : machL ((lcS [120, 32] a).1, (lcS [121, 32] b).1, (lcS [112, 101, 110, 32] c).1, ()) = linesT [[120, 32] ++ camJ (lcS [120, 32] a).1, [121, 32] ++ camJ (lcS [121, 32] b).1, [112, 101, 110, 32] ++ camJ (lcS [112, 101, 110, 32] c).1] := by simp [machL, linesT]
      rw [e, a1, b1, c1, ← linesT_join]
      exact hj.symm
    · exact .inl rfl
  · exact .inl rfl
theorem rdM_both (l : List UInt8) : rdMS l = rdMI l := by
  rcases rdMS_back l with e | ⟨m, hr, ho, rfl⟩
  · by_cases h : okM (rdMm l) = true ∧ machL (rdMm l) = l
    · have h1 := rdMS_text (rdMm_rng l) h.1
      have h2 := rdMI_text (rdMm_rng l) h.1
      rw [h.2] at h1 h2
      rw [h1, h2]
    · rw [e]
      exact (if_neg h).symm
  · rw [rdMS_text hr ho, rdMI_text hr ho]
theorem rdMI_small (l : List UInt8) : ((rdMI l).1.1.length : Int) ≤ 360 ∧ ((rdMI l).1.2.1.length : Int) ≤ 360 ∧ ((rdMI l).1.2.2.1.length : Int) ≤ 360 := by
  unfold rdMI
  split
  · rename_i h
    have G := goodM h.1
    have h1 := okC_len G.x
    have h2 := okC_len G.y
    have h3 := okC_len G.p
    exact ⟨h1.2, h2.2, h3.2⟩
  · simp [errM]
end Go.Cams

