/- Machines that draw, in plain terms. -/
import Derived.Test.YtdhgdfofgeccgaaPu10
namespace Go.Cams
open Go Go.Fw
abbrev Mk : Type := List Int
abbrev Stp : Type := List Int × (Bool × Unit)
theorem wrapU64 {x : Int} (h1 : 0 ≤ x) (h2 : x ≤ 18446744073709551615) : wr .u64 x = x := by
  show IntKind.u64.wrap x = x
  simp [IntKind.wrap, IntKind.bits, IntKind.signed]
  omega
/-- A mark on the plate. -/
structure OnP (a : Mk) : Prop where
  len : a.length = 2
  x : 0 ≤ g a 0 ∧ g a 0 ≤ 63
  y : 0 ≤ g a 1 ∧ g a 1 ≤ 63
theorem OnP.get0 {a : Mk} (h : OnP a) : a[0]? = some (g a 0) := by
  have := (g_idx (l := a) (i := 0) (by omega) (by have := h.len; omega)).get
  simpa using this
theorem OnP.get1 {a : Mk} (h : OnP a) : a[1]? = some (g a 1) := by
  have := (g_idx (l := a) (i := 1) (by omega) (by have := h.len; omega)).get
  simpa using this
theorem OnP.idx0 {a : Mk} (h : OnP a) : idx a 0 = some (g a 0) := (g_idx (l := a) (i := 0) (by omega) (by have := h.len; omega)).idx
theorem OnP.idx1 {a : Mk} (h : OnP a) : idx a 1 = some (g a 1) := (g_idx (l := a) (i := 1) (by omega) (by have := h.len; omega)).idx
theorem OnP.eq {a : Mk} (h : OnP a) : a = [g a 0, g a 1] := by
  have hl := h.len
  match a, hl with
  | [x, y], _ => rfl
theorem onP_pair {x y : Int} (hx : 0 ≤ x ∧ x ≤ 63) (hy : 0 ≤ y ∧ y ≤ 63) : OnP [x, y] := ⟨rfl, hx, hy⟩
def siz (x : Int) : Int := if x < 0 then -x else x
def far (a b : Mk) : Int := max (siz (g a 0 - g b 0)) (siz (g a 1 - g b 1))
/-- The nearest whole number of a fraction. -/
def nr (x n : Int) : Int := (2 * x + n) / (2 * n)
def pt (a b : Mk) (k : Int) (i : Nat) : Int := g a i + nr (k * (g b i - g a i)) (far a b)
def ptM (a b : Mk) (k : Int) : Mk := [pt a b k 0, pt a b k 1]
def lineM (a b : Mk) : List Mk := if far a b = 0 then [a] else (List.range (far a b + 1).toNat).map fun k => ptM a b (k : Nat)
theorem far_bd {a b : Mk} (ha : OnP a) (hb : OnP b) : 0 ≤ far a b ∧ far a b ≤ 63 ∧ (∀ i : Nat, i = 0 ∨ i = 1 → -far a b ≤ g b i - g a i ∧ g b i - g a i ≤ far a b) := by
  have h1 := ha.x; have h2 := ha.y; have h3 := hb.x; have h4 := hb.y
  have e : far a b = max (siz (g a 0 - g b 0)) (siz (g a 1 - g b 1)) := rfl
  have e1 : siz (g a 0 - g b 0) = if g a 0 - g b 0 < 0 then -(g a 0 - g b 0) else g a 0 - g b 0 := rfl
  have e2 : siz (g a 1 - g b 1) = if g a 1 - g b 1 < 0 then -(g a 1 - g b 1) else g a 1 - g b 1 := rfl
  refine ⟨?_, ?_, fun i hi => ?_⟩
  · split at e1 <;> omega
  · split at e1 <;> split at e2 <;> omega
  · rcases hi with rfl | rfl
    · split at e1 <;> omega
    · split at e2 <;> omega
theorem nr_bd {k d n : Int} (hn : 0 < n) (k0 : 0 ≤ k) (k1 : k ≤ n) (h1 : -n ≤ d) (h2 : d ≤ n) : (0 ≤ d → 0 ≤ nr (k * d) n ∧ nr (k * d) n ≤ d) ∧ (d ≤ 0 → d ≤ nr (k * d) n ∧ nr (k * d) n ≤ 0) := by
  have hnn : (2 * (n * d) + n) / (2 * n) = d := by
    rw [show 2 * (n * d) + n = n + (2 * n) * d by rw [Int.mul_assoc]; omega, Int.add_mul_ediv_left _ _ (by omega)]
    rw [Int.ediv_eq_zero_of_lt (by omega) (by omega)]; omega
  have h00 : (2 * 0 + n) / (2 * n) = 0 := Int.ediv_eq_zero_of_lt (by omega) (by omega)
  unfold nr
  constructor
  · intro hd
    have a : 0 ≤ k * d := Int.mul_nonneg k0 hd
    have b : k * d ≤ n * d := Int.mul_le_mul_of_nonneg_right k1 hd
    have c := Int.ediv_le_ediv (c := 2 * n) (by omega) (show 2 * 0 + n ≤ 2 * (k * d) + n by omega)
    have e := Int.ediv_le_ediv (c := 2 * n) (by omega) (show 2 * (k * d) + n ≤ 2 * (n * d) + n by omega)
    omega
  · intro hd
    have a : k * d ≤ 0 := Int.mul_nonpos_of_nonneg_of_nonpos k0 hd
    have b : n * d ≤ k * d := Int.mul_le_mul_of_nonpos_right k1 hd
    have c := Int.ediv_le_ediv (c := 2 * n) (by omega) (show 2 * (k * d) + n ≤ 2 * 0 + n by omega)
    have e := Int.ediv_le_ediv (c := 2 * n) (by omega) (show 2 * (n * d) + n ≤ 2 * (k * d) + n by omega)
    omega
theorem pt_bd {a b : Mk} (ha : OnP a) (hb : OnP b) (hn : far a b ≠ 0) {k : Int} (k0 : 0 ≤ k) (k1 : k ≤ far a b) {i : Nat} (hi : i = 0 ∨ i = 1) : 0 ≤ pt a b k i ∧ pt a b k i ≤ 63 := by
  obtain ⟨f0, f1, f2⟩ := far_bd ha hb
  have hx := ha.x; have hy := ha.y; have kx := hb.x; have ky := hb.y
  obtain ⟨b1, b2⟩ := nr_bd (show 0 < far a b by omega) k0 k1 (f2 i hi).1 (f2 i hi).2
  have hga : 0 ≤ g a i ∧ g a i ≤ 63 := by rcases hi with rfl | rfl <;> assumption
  have hgb : 0 ≤ g b i ∧ g b i ≤ 63 := by rcases hi with rfl | rfl <;> assumption
  unfold pt
  rcases Int.le_total 0 (g b i - g a i) with h | h
  · have := b1 h; omega
  · have := b2 h; omega
theorem kd_bd {a b : Mk} (ha : OnP a) (hb : OnP b) {k : Int} (k0 : 0 ≤ k) (k1 : k ≤ 63) {i : Nat} (hi : i = 0 ∨ i = 1) : -4000 ≤ k * (g b i - g a i) ∧ k * (g b i - g a i) ≤ 4000 := by
  obtain ⟨f0, f1, f2⟩ := far_bd ha hb
  have h := f2 i hi
  have a1 : k * (-63) ≤ k * (g b i - g a i) := Int.mul_le_mul_of_nonneg_left (by omega) k0
  have a2 : k * (g b i - g a i) ≤ k * 63 := Int.mul_le_mul_of_nonneg_left (by omega) k0
  omega
theorem nr_from {a x n : Int} (hn : 0 < n) : nr (a * n + x) n = a + nr x n := by
  unfold nr
  rw [show 2 * (a * n + x) + n = (2 * x + n) + (2 * n) * a by rw [Int.mul_add, Int.mul_comm a n, ← Int.mul_assoc]; omega, Int.add_mul_ediv_left _ _ (by omega)]
  omega
theorem nr_zero {n : Int} (hn : 0 < n) : nr 0 n = 0 := by
  unfold nr
  exact Int.ediv_eq_zero_of_lt (by omega) (by omega)
theorem ptM_zero {a b : Mk} (ha : OnP a) (hb : OnP b) (hn : far a b ≠ 0) : ptM a b 0 = a := by
  obtain ⟨f0, _, _⟩ := far_bd ha hb
  have h : ∀ i, pt a b 0 i = g a i := fun i => by
    unfold pt
    rw [Int.zero_mul, nr_zero (by omega)]; omega
  unfold ptM
  rw [h, h]
  exact ha.eq.symm
theorem lineM_on {a b : Mk} (ha : OnP a) (hb : OnP b) : ∀ m ∈ lineM a b, OnP m := by
  intro m hm
  unfold lineM at hm
  split at hm
  · simp at hm; subst hm; exact ha
  · rename_i hn
    simp only [List.mem_map, List.mem_range] at hm
    obtain ⟨k, hk, rfl⟩ := hm
    exact onP_pair (pt_bd ha hb hn (by omega) (by omega) (.inl rfl)) (pt_bd ha hb hn (by omega) (by omega) (.inr rfl))
theorem lineM_len {a b : Mk} (ha : OnP a) (hb : OnP b) : ((lineM a b).length : Int) ≤ 64 := by
  obtain ⟨f0, f1, f2⟩ := far_bd ha hb
  unfold lineM
  split
  · simp
  · simp; omega
theorem lineM_same {a : Mk} : lineM a a = [a] := by
  unfold lineM
  rw [if_pos]
  unfold far siz
  simp
/-- Ink on a plate. -/
def inkP (p : List Int) (m : Mk) : List Int := p.set (g m 1).toNat (bitsI .or .u64 (g p (g m 1).toNat) (shl_ .u64 1 (g m 0)))
def inkL (p : List Int) (l : List Mk) : List Int := l.foldl inkP p
theorem inkP_len (p : List Int) (m : Mk) : (inkP p m).length = p.length := by simp [inkP]
theorem inkL_len : ∀ (l : List Mk) (p : List Int), (inkL p l).length = p.length
  | [], _ => rfl
  | m :: r, p => by
    show (inkL (inkP p m) r).length = _
    rw [inkL_len r, inkP_len]
theorem inkL_snoc (p : List Int) (l : List Mk) (m : Mk) : inkL p (l ++ [m]) = inkP (inkL p l) m := by simp [inkL]
/-- The stops of a machine. -/
def stopM (m : Mch) (i : Nat) : Stp := ([g m.1 i, g m.2.1 i], (g m.2.2.1 i == 0), ())
def stopsM (m : Mch) : List Stp := (List.range m.1.length).map (stopM m)
theorem stopsM_at (m : Mch) {i : Nat} (h : i < m.1.length) : At (stopsM m) (i : Int) (stopM m i) := by
  have hl : (stopsM m).length = m.1.length := by simp [stopsM]
  obtain ⟨v, hv⟩ := at_of (l := stopsM m) (i := (i : Int)) (by omega) (by omega)
  have := hv.get
  rw [stopsM, Int.toNat_natCast, List.getElem?_map, List.getElem?_range h] at this
  simp only [Option.map_some, Option.some.injEq] at this
  rw [this]; exact hv
theorem mx_el {l : List Int} (h : mxL l < 64) : ∀ v ∈ l, v ≤ 63 := fun v hv => by
  have := (mxF_ge l (l.headD 0)).2 v hv
  unfold mxL at h; omega
theorem stop_on {m : Mch} (hr : RngM m) (G : GoodM m) {i : Nat} (h : i < m.1.length) : OnP (stopM m i).1 := by
  have h1 := okC_el G.x hr.x _ (g_mem h)
  have h2 := mx_el G.mx _ (g_mem h)
  have h3 := okC_el G.y hr.y _ (g_mem (i := i) (by have := G.xy; omega))
  have h4 := mx_el G.my _ (g_mem (i := i) (by have := G.xy; omega))
  exact onP_pair ⟨h1.1, h2⟩ ⟨h3.1, h4⟩
/-- What the first stops draw. -/
def drawTo (m : Mch) : Nat → List Int
  | 0 => List.replicate 64 0
  | i + 1 => if (stopM m i).2.1 = true then (if (stopM m ((i + 1) % m.1.length)).2.1 = true then inkL (inkP (drawTo m i) (stopM m i).1) (lineM (stopM m i).1 (stopM m ((i + 1) % m.1.length)).1) else inkP (drawTo m i) (stopM m i).1) else drawTo m i
theorem drawTo_len (m : Mch) : ∀ i, (drawTo m i).length = 64
  | 0 => by simp [drawTo]
  | i + 1 => by
    unfold drawTo
    split
    · split
      · rw [inkL_len, inkP_len, drawTo_len m i]
      · rw [inkP_len, drawTo_len m i]
    · exact drawTo_len m i
def dmR (m : Mch) : List Int × (Int × Unit) := if okM m = true then (drawTo m m.1.length, 0, ()) else (List.replicate 64 0, 1, ())
theorem dmR_len (m : Mch) : (dmR m).1.length = 64 := by
  unfold dmR
  split
  · exact drawTo_len m _
  · simp
end Go.Cams
