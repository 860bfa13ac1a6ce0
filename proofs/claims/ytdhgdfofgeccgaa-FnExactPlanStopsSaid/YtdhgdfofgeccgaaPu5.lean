/- Machines, turns, and greatest numbers, in plain terms. -/
import Derived.Test.YtdhgdfofgeccgaaPu4
namespace Go.Cams
open Go Go.Fw
abbrev Mch : Type := List Int × (List Int × (List Int × Unit))
/-- What is known of a list of int16. -/
structure Rng (l : List Int) : Prop where
  len : (l.length : Int) * 2 ≤ 140737488351232
  el : ∀ v ∈ l, -32768 ≤ v ∧ v ≤ 32767
theorem Rng.len' {l : List Int} (h : Rng l) : (l.length : Int) ≤ 70368744175616 := by have := h.len; omega
theorem Rng.id {l : List Int} (h : Rng l) {v : Int} (hv : v ∈ l) : wr .i64 v = v := by have := h.el v hv; exact wrap_id (by omega) (by omega)
theorem rng_of {l : List Int} (h : Dom (.slc (.int .i16)) l) : Rng l :=
  ⟨Int.ofNat_le.2 h.1, fun v hv => by
    have := h.2 v hv
    have e1 : IntKind.i16.min = -32768 := rfl
    have e2 : IntKind.i16.max = 32767 := rfl
    simp only [Dom] at this
    rw [e1, e2] at this
    exact this⟩
structure RngM (m : Mch) : Prop where
  x : Rng m.1
  y : Rng m.2.1
  p : Rng m.2.2.1
theorem rngM_of {m : Mch} (h : Dom (.pair (.slc (.int .i16)) (.pair (.slc (.int .i16)) (.pair (.slc (.int .i16)) .unit))) m) : RngM m := ⟨rng_of h.1, rng_of h.2.1, rng_of h.2.2.1⟩
def mxF (l : List Int) (a : Int) : Int := l.foldl (fun m v => max m v) a
def mnF (l : List Int) (a : Int) : Int := l.foldl (fun m v => min m v) a
theorem mxF_snoc (l : List Int) (a v : Int) : mxF (l ++ [v]) a = max (mxF l a) v := by simp [mxF]
theorem mnF_snoc (l : List Int) (a v : Int) : mnF (l ++ [v]) a = min (mnF l a) v := by simp [mnF]
def mxL (l : List Int) : Int := mxF l (l.headD 0)
def mnL (l : List Int) : Int := mnF l (l.headD 0)
theorem mxF_le : ∀ (l : List Int) (a b : Int), a ≤ b → (∀ v ∈ l, v ≤ b) → mxF l a ≤ b
  | [], a, b, h, _ => h
  | v :: r, a, b, h, hl => mxF_le r (max a v) b (by have := hl v (by simp); omega) (fun x hx => hl x (by simp [hx]))
theorem mxF_ge : ∀ (l : List Int) (a : Int), a ≤ mxF l a ∧ ∀ v ∈ l, v ≤ mxF l a
  | [], a => ⟨Int.le_refl _, fun _ h => by cases h⟩
  | v :: r, a => by
    have h := mxF_ge r (max a v)
    show a ≤ mxF r (max a v) ∧ ∀ x ∈ v :: r, x ≤ mxF r (max a v)
    refine ⟨by have := h.1; omega, fun x hx => ?_⟩
    rcases List.mem_cons.1 hx with rfl | hx
    · have := h.1; omega
    · exact h.2 x hx
theorem mnF_le : ∀ (l : List Int) (a b : Int), b ≤ a → (∀ v ∈ l, b ≤ v) → b ≤ mnF l a
  | [], a, b, h, _ => h
  | v :: r, a, b, h, hl => mnF_le r (min a v) b (by have := hl v (by simp); omega) (fun x hx => hl x (by simp [hx]))
theorem mnF_ge : ∀ (l : List Int) (a : Int), mnF l a ≤ a ∧ ∀ v ∈ l, mnF l a ≤ v
  | [], a => ⟨Int.le_refl _, fun _ h => by cases h⟩
  | v :: r, a => by
    have h := mnF_ge r (min a v)
    show mnF r (min a v) ≤ a ∧ ∀ x ∈ v :: r, mnF r (min a v) ≤ x
    refine ⟨by have := h.1; omega, fun x hx => ?_⟩
    rcases List.mem_cons.1 hx with rfl | hx
    · have := h.1; omega
    · exact h.2 x hx
theorem head_at {l : List Int} {v : Int} (h : At l 0 v) : l.headD 0 = v ∧ l.take 1 = [v] := by
  have := h.get
  cases l with
  | nil => simp at this
  | cons a r => simp at this; simp [this]
def mv (c : List Int) : Bool := okC c && decide (mxL c < 64)
def okM (m : Mch) : Bool := mv m.1 && mv m.2.1 && okC m.2.2.1 && ((m.1.length : Int) == (m.2.1.length : Int)) && ((m.1.length : Int) == (m.2.2.1.length : Int))
theorem okC_len {l : List Int} (h : okC l = true) : 8 ≤ (l.length : Int) ∧ (l.length : Int) ≤ 360 := by
  simp only [okC, Bool.and_eq_true, inR_iff] at h; exact h.1
theorem okC_el {l : List Int} (h : okC l = true) (hr : Rng l) : ∀ v ∈ l, 0 ≤ v ∧ v ≤ 10000 := by
  simp only [okC, Bool.and_eq_true, inR_iff, List.all_eq_true, okV] at h
  intro v hv
  have := h.2 v hv
  rw [hr.id hv] at this
  exact this
structure GoodM (m : Mch) : Prop where
  x : okC m.1 = true
  y : okC m.2.1 = true
  p : okC m.2.2.1 = true
  mx : mxL m.1 < 64
  my : mxL m.2.1 < 64
  xy : m.1.length = m.2.1.length
  xp : m.1.length = m.2.2.1.length
theorem goodM {m : Mch} (h : okM m = true) : GoodM m := by
  simp only [okM, mv, Bool.and_eq_true, decide_eq_true_eq, beq_iff_eq] at h
  obtain ⟨⟨⟨⟨⟨h1, h2⟩, h3, h4⟩, h5⟩, h6⟩, h7⟩ := h
  exact ⟨h1, h3, h5, h2, h4, by omega, by omega⟩

/-! ### Turns -/
def turnL (l : List Int) (m : Nat) : List Int := l.drop m ++ l.take m
theorem turnL_len (l : List Int) (m : Nat) : (turnL l m).length = l.length := by simp [turnL]; omega
theorem turnL_get {l : List Int} {m i : Nat} (hm : m < l.length) (hi : i < l.length) : (turnL l m)[i]? = l[(i + m) % l.length]? := by
  unfold turnL
  by_cases h : i < l.length - m
  · rw [List.getElem?_append_left (by rw [List.length_drop]; exact h), List.getElem?_drop, Nat.add_comm m i, Nat.mod_eq_of_lt (by omega)]
  · rw [List.getElem?_append_right (by rw [List.length_drop]; omega), List.length_drop, List.getElem?_take_of_lt (by omega)]
    congr 1
    have e : i + m = (i - (l.length - m)) + l.length := by omega
    rw [e, Nat.add_mod_right, Nat.mod_eq_of_lt (by omega)]
/-- The place of a step of a turned cam. -/
theorem turn_at {x n : Int} (hn : 0 < n) (h1 : n ≤ 1000000) (hx : -4000000 ≤ x) (hx' : x ≤ 4000000) : Int.tmod (wr .i64 (Int.tmod x n + n)) n = x % n := by
  have h2 := Int.tmod_lt_of_pos x hn
  have h3 : -n < Int.tmod x n := by
    rcases Int.le_total 0 x with h | h
    · have := Int.tmod_nonneg n h; omega
    · have := Int.tmod_lt_of_pos (-x) hn
      rw [Int.neg_tmod] at this
      omega
  rw [wrap_id (by omega) (by omega), Int.tmod_eq_emod_of_nonneg (by omega), Int.add_emod_right]
  rcases Int.le_total 0 x with h | h
  · rw [Int.tmod_eq_emod_of_nonneg h, Int.emod_emod]
  · rw [Int.tmod_def, Int.sub_mul_emod_self_left]
theorem emod_add_place {i b n : Int} (hn : 0 < n) : ((i + b) % n).toNat = (i.toNat + (b % n).toNat) % n.toNat ∨ i < 0 := by
  by_cases h : i < 0
  · exact .inr h
  left
  have hb := Int.emod_nonneg b (show n ≠ 0 by omega)
  have e : (i + b) % n = (i + b % n) % n := by rw [Int.add_emod, Int.add_emod i (b % n), Int.emod_emod]
  rw [e]
  obtain ⟨a, ha⟩ : ∃ a : Nat, i = a := ⟨i.toNat, by omega⟩
  obtain ⟨c, hc⟩ : ∃ c : Nat, b % n = c := ⟨(b % n).toNat, by omega⟩
  obtain ⟨m, hm⟩ : ∃ m : Nat, n = m := ⟨n.toNat, by omega⟩
  rw [hc, ha, hm]
  have : ((a : Int) + c) % m = (((a + c) % m : Nat) : Int) := by simp
  simp only [Int.toNat_natCast]
  rw [this, Int.toNat_natCast]
theorem floorDiv_eq {a b : Int} (hb : 0 < b) : (if Int.tmod a b < 0 then Int.tdiv a b - 1 else Int.tdiv a b) = a / b := by
  have h1 := Int.tmod_lt_of_pos a hb
  have h2 := Int.tmod_def a b
  have h3 : -b < Int.tmod a b := by
    rcases Int.le_total 0 a with h | h
    · have := Int.tmod_nonneg b h; omega
    · have := Int.tmod_lt_of_pos (-a) hb
      rw [Int.neg_tmod] at this
      omega
  split
  · have := (Int.ediv_emod_unique (a := a) (b := b) (r := Int.tmod a b + b) (q := Int.tdiv a b - 1) hb).2 ⟨by rw [Int.mul_sub, Int.mul_one]; omega, by omega, by omega⟩
    exact this.1.symm
  · have := (Int.ediv_emod_unique (a := a) (b := b) (r := Int.tmod a b) (q := Int.tdiv a b) hb).2 ⟨by omega, by omega, by omega⟩
    exact this.1.symm
theorem ediv_bd {a b M : Int} (hb : 0 < b) (h1 : -M ≤ a) (h2 : a ≤ M) (h0 : 0 ≤ M) : -M ≤ a / b ∧ a / b ≤ M := by
  constructor
  · rw [Int.le_ediv_iff_mul_le hb]
    have : M * 1 ≤ M * b := Int.mul_le_mul_of_nonneg_left (by omega) h0
    rw [Int.neg_mul]
    omega
  · have := Int.ediv_le_ediv hb h2
    have := Int.ediv_le_self (a := M) b h0
    omega
def szM (m : Mch) (a : Int) : Int := if sz1 m.1 a < 0 then -1 else if sz1 m.2.1 (sz1 m.1 a) < 0 then -1 else if sz1 m.2.2.1 (sz1 m.2.1 (sz1 m.1 a)) < 0 then -1 else sz1 m.2.2.1 (sz1 m.2.1 (sz1 m.1 a))
theorem szM_ok {m : Mch} (h : RngM m) {a : Int} (h0 : 0 ≤ a) (h1 : a ≤ 1048576) (hs : ¬ szM m a < 0) : (m.1.length : Int) + m.2.1.length + m.2.2.1.length ≤ 1048576 ∧ 0 ≤ szM m a ∧ szM m a ≤ 1048576 := by
  have hx := h.x.len'
  have hy := h.y.len'
  have hp := h.p.len'
  unfold szM at hs ⊢
  split at hs
  · omega
  rename_i c1
  obtain ⟨e1, l1⟩ := sz1_ok (by omega) h1 h0 c1
  rw [if_neg c1]
  split at hs
  · omega
  rename_i c2
  rw [e1] at c2
  obtain ⟨e2, l2⟩ := sz1_ok (by omega) (by omega) (by omega) c2
  rw [e1, if_neg c2]
  split at hs
  · omega
  rename_i c3
  rw [e1, e2] at c3
  obtain ⟨e3, l3⟩ := sz1_ok (by omega) (by omega) (by omega) c3
  rw [e2, if_neg c3, e3]
  omega
def tnM (m : Mch) (by_ : Int) : Mch := (turnL m.1 (by_ % m.1.length).toNat, turnL m.2.1 (by_ % m.2.1.length).toNat, turnL m.2.2.1 (by_ % m.2.2.1.length).toNat, ())
def tnR (m : Mch) (a : Int) : Mch × (Int × Unit) := if (!okM m) = true then (([], [], [], ()), 1, ()) else if (!inR a (-1000000) 1000000) = true then (([], [], [], ()), 2, ()) else (tnM m a, 0, ())
/-- What marks hold a machine. -/
def mkM (m : Mch) (k : Int) : Mch := (mkL (wr .i16) m.1.length k, mkL (wr .i16) m.2.1.length (k + m.1.length), mkL (wr .i16) m.2.2.1.length (k + m.1.length + m.2.1.length), ())
def totM (m : Mch) : Int := (m.1.length : Int) + m.2.1.length + m.2.2.1.length
theorem mkM_len (m : Mch) (k : Int) : (mkM m k).1.length = m.1.length ∧ (mkM m k).2.1.length = m.2.1.length ∧ (mkM m k).2.2.1.length = m.2.2.1.length := ⟨mkL_len _ _ _, mkL_len _ _ _, mkL_len _ _ _⟩
end Go.Cams
namespace Go.Cams
open Go Go.Fw
theorem tnR_small (m : Mch) (a : Int) : ((tnR m a).1.1.length : Int) ≤ 360 ∧ ((tnR m a).1.2.1.length : Int) ≤ 360 ∧ ((tnR m a).1.2.2.1.length : Int) ≤ 360 := by
  unfold tnR
  split
  · simp
  · rename_i h
    have hg := goodM (m := m) (by simpa using h)
    have lx := okC_len hg.x
    have ly := okC_len hg.y
    have lp := okC_len hg.p
    split
    · simp
    · simp only [tnM, turnL_len]
      omega
end Go.Cams
