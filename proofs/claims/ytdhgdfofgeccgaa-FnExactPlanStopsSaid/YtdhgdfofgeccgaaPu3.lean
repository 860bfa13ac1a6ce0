/- Marks on memory, and what holds them. -/
import Derived.Test.YtdhgdfofgeccgaaPu2
namespace Go.Cams
open Go Go.Fw
/-- The numbers from k on, as they are laid. -/
def mkL (f : Int → Int) (n : Nat) (k : Int) : List Int := (List.range n).map fun i => f (k + (i : Nat))
theorem mkL_len (f : Int → Int) (n : Nat) (k : Int) : (mkL f n k).length = n := by simp [mkL]
theorem mkL_at (f : Int → Int) (n : Nat) (k : Int) {i : Int} {v : Int} (h : At (mkL f n k) i v) (h0 : 0 ≤ i) : v = f (k + i) := by
  have := h.get
  unfold mkL at this
  rw [List.getElem?_map] at this
  obtain ⟨j, hj, e⟩ := Option.map_eq_some_iff.1 this
  obtain ⟨hlt, e2⟩ := List.getElem?_eq_some_iff.1 hj
  simp at e2
  rw [← e, ← e2, show ((i.toNat : Nat) : Int) = i by omega]
theorem mkL_succ (f : Int → Int) (n : Nat) (k : Int) : mkL f (n + 1) k = mkL f n k ++ [f (k + n)] := by simp [mkL, List.range_succ]
theorem take_set_succ {α : Type} {b : List α} {i : Int} (h0 : 0 ≤ i) (h1 : i < b.length) (v : α) : (b.set i.toNat v).take (i + 1).toNat = b.take i.toNat ++ [v] := by
  rw [show (i + 1).toNat = i.toNat + 1 by omega, List.take_add_one, List.getElem?_set_self (by omega), List.take_set_of_le (by omega)]
  rfl
theorem drop_set_succ {α : Type} {b : List α} {i : Int} (h0 : 0 ≤ i) (v : α) : (b.set i.toNat v).drop (i + 1).toNat = b.drop (i + 1).toNat := by
  rw [List.drop_set_of_lt (by omega)]
theorem get_of_lt {α : Type} {b : List α} {i : Int} (h0 : 0 ≤ i) (h1 : i < b.length) : ∃ u, b[i.toNat]? = some u := ⟨b[i.toNat]'(by omega), by simp⟩
theorem chk_at {α : Type} {b : List α} {i : Int} (h0 : 0 ≤ i) (h1 : i < b.length) : decide (0 ≤ i ∧ i < (b.length : Int)) = true := decide_eq_true ⟨h0, h1⟩

/-- What marks hold a set of shafts. -/
def heldS : List Sft → Int → Option Int
  | [], k => some k
  | s :: r, k => if s.1 = wr .i16 k ∧ s.2.1 = wr .i16 (k + 1) ∧ s.2.2.1 = wr .i16 (k + 1 + 1) ∧ s.2.2.2.1 = mkL (wr .i16) s.2.2.2.1.length (k + 1 + 1 + 1) then heldS r (k + 1 + 1 + 1 + s.2.2.2.1.length) else none
theorem heldS_append : ∀ (a : List Sft) (s : Sft) (k kk : Int), heldS a k = some kk → heldS (a ++ [s]) k = heldS [s] kk
  | [], s, k, kk, h => by simp [heldS] at h; rw [h]; rfl
  | x :: r, s, k, kk, h => by
    unfold heldS at h
    split at h
    · rename_i hx
      show heldS (x :: (r ++ [s])) k = _
      unfold heldS
      rw [if_pos hx, heldS_append r s _ _ h]
      rfl
    · cases h
def totS (l : List Sft) : Int := (l.map fun s => (3 : Int) + s.2.2.2.1.length).sum
theorem totS_cons (s : Sft) (l : List Sft) : totS (s :: l) = 3 + s.2.2.2.1.length + totS l := by simp [totS]
theorem totS_nonneg : ∀ l : List Sft, 0 ≤ totS l
  | [] => by simp [totS]
  | s :: r => by have := totS_nonneg r; rw [totS_cons]; omega
theorem totS_append (a b : List Sft) : totS (a ++ b) = totS a + totS b := by simp [totS]
theorem totS_take (l : List Sft) (i : Nat) : totS (l.take i) + totS (l.drop i) = totS l := by rw [← totS_append, List.take_append_drop]
theorem heldS_ge : ∀ (l : List Sft) (k kk : Int), heldS l k = some kk → kk = k + totS l
  | [], k, kk, h => by simp [heldS] at h; simp [totS, h]
  | s :: r, k, kk, h => by
    unfold heldS at h
    split at h
    · have := heldS_ge r _ _ h
      rw [totS_cons]; omega
    · cases h

/-! ### Sizes -/
theorem sz1_ok {l : List Int} {a : Int} (hl : (l.length : Int) ≤ 140737488351232) (h0 : a ≤ 1048576) (h1 : 0 ≤ a) (h : ¬ sz1 l a < 0) : sz1 l a = a - l.length ∧ (l.length : Int) ≤ a := by
  unfold sz1 at h ⊢
  rw [wrap_id (by omega) (by omega)] at h ⊢
  split at h
  · omega
  · rename_i h2
    rw [if_neg h2]
    omega
theorem szf_ok (l : List Sft) : ∀ {a : Int}, Small l → a ≤ 1048576 → 0 ≤ a → ¬ szf l a < 0 → totS l ≤ a + 3 * l.length := by
  induction l with
  | nil =>
    intro a _ _ h1 _
    have : totS [] = 0 := by simp [totS]
    rw [this]
    simp only [List.length_nil]
    omega
  | cons s r ih =>
    intro a hS h0 h1 h
    have hs := hS.2 s (by simp)
    have hr : Small r := ⟨by have := hS.1; simp only [List.length_cons] at this; omega, fun x hx => hS.2 x (by simp [hx])⟩
    unfold szf at h
    split at h
    · omega
    · rename_i h2
      unfold sz at h h2
      split at h2
      · omega
      · rename_i h3
        rw [if_neg h3] at h
        obtain ⟨e, hle⟩ := sz1_ok hs h0 h1 h3
        rw [e] at h
        have := ih hr (by omega) (by omega) h
        rw [totS_cons]
        simp only [List.length_cons]
        omega
def szS (l : List Sft) (a : Int) : Int := if wr .i64 (a - (l.length : Int)) < 0 then -1 else szf l (wr .i64 (a - (l.length : Int)))
theorem szS_ok {l : List Sft} (hS : Small l) (h : ¬ szS l 1048576 < 0) : totS l ≤ 4194304 ∧ (l.length : Int) ≤ 1048576 := by
  have h0 := hS.1
  unfold szS at h
  rw [wrap_id (by omega) (by omega)] at h
  split at h
  · omega
  · have := szf_ok l hS (by omega) (by omega) h
    omega
end Go.Cams
namespace Go.Cams
open Go Go.Fw
def markOne (s : Sft) (k : Int) : Sft := (wr .i16 k, wr .i16 (k + 1), wr .i16 (k + 1 + 1), mkL (wr .i16) s.2.2.2.1.length (k + 1 + 1 + 1), ())
def markS : List Sft → Int → List Sft
  | [], _ => []
  | s :: r, k => markOne s k :: markS r (k + 1 + 1 + 1 + s.2.2.2.1.length)
theorem markS_held : ∀ (l : List Sft) (k : Int), heldS (markS l k) k = some (k + totS l)
  | [], k => by simp [markS, heldS, totS]
  | s :: r, k => by
    unfold markS heldS
    have hl : (markOne s k).2.2.2.1.length = s.2.2.2.1.length := mkL_len _ _ _
    rw [if_pos ⟨rfl, rfl, rfl, by rw [hl]; rfl⟩, hl, markS_held r]
    rw [totS_cons]
    congr 1
    omega
theorem markS_append : ∀ (a : List Sft) (s : Sft) (k : Int), markS (a ++ [s]) k = markS a k ++ [markOne s (k + totS a)]
  | [], s, k => by simp [markS, totS]
  | x :: r, s, k => by
    show markS (x :: (r ++ [s])) k = _
    unfold markS
    rw [markS_append r, totS_cons, show k + 1 + 1 + 1 + (x.2.2.2.1.length : Int) + totS r = k + (3 + x.2.2.2.1.length + totS r) by omega]
    rfl
/-! ### Phases -/
def phs : List Sft → List Int → List Sft → List Sft × (Int × Unit)
  | s :: l, q :: p, b => if inR q 0 (wr .i64 ((s.2.2.2.1.length : Int) - 1)) = true then phs l p (b ++ [withP s (wr .i16 q)]) else ([], 2, ())
  | _, _, b => (b, 0, ())
def phR (l : List Sft) (p : List Int) : List Sft × (Int × Unit) := if (!okA l) = true then ([], 1, ()) else if (p.length : Int) ≠ l.length then ([], 2, ()) else phs l p []
end Go.Cams
namespace Go.Cams
open Go Go.Fw
theorem heldS_len : ∀ (l : List Sft) (k kk : Int), heldS l k = some kk → (l.length : Int) ≤ kk - k := by
  intro l k kk h
  have hk := heldS_ge l k kk h
  have : ∀ m : List Sft, (m.length : Int) ≤ totS m := by
    intro m
    induction m with
    | nil => simp [totS]
    | cons s r ih => rw [totS_cons]; simp only [List.length_cons]; omega
  have := this l
  omega
theorem phs_small : ∀ (l : List Sft) (p : List Int) (b : List Sft), (∀ s ∈ l, (s.2.2.2.1.length : Int) ≤ 360) → (∀ s ∈ b, (s.2.2.2.1.length : Int) ≤ 360) →
    ((phs l p b).1.length : Int) ≤ b.length + l.length ∧ ∀ s ∈ (phs l p b).1, (s.2.2.2.1.length : Int) ≤ 360
  | s :: l, q :: p, b, hl, hb => by
    unfold phs
    split
    · have := phs_small l p (b ++ [withP s (wr .i16 q)]) (fun x hx => hl x (by simp [hx])) (by
        intro x hx
        rcases List.mem_append.1 hx with hx | hx
        · exact hb x hx
        · simp only [List.mem_singleton] at hx
          subst hx
          exact hl s (by simp))
      refine ⟨?_, this.2⟩
      have h1 := this.1
      simp only [List.length_append, List.length_cons, List.length_nil] at h1 ⊢
      omega
    · exact ⟨by simp only [List.length_nil, List.length_cons]; omega, fun x hx => by cases hx⟩
  | [], p, b, _, hb => by unfold phs; exact ⟨by simp, hb⟩
  | _ :: _, [], b, _, hb => by unfold phs; exact ⟨by simp only [List.length_cons]; omega, hb⟩
theorem totS_le {l : List Sft} (h : ∀ s ∈ l, (s.2.2.2.1.length : Int) ≤ 360) : totS l ≤ 363 * l.length := by
  induction l with
  | nil => simp [totS]
  | cons s r ih =>
    have h1 := h s (by simp)
    have h2 := ih (fun x hx => h x (by simp [hx]))
    rw [totS_cons]
    simp only [List.length_cons]
    omega
theorem phR_small (l : List Sft) (p : List Int) : 0 ≤ totS (phR l p).1 ∧ totS (phR l p).1 ≤ 2178 ∧ ((phR l p).1.length : Int) ≤ 6 ∧ Small (phR l p).1 := by
  have key : ((phR l p).1.length : Int) ≤ 6 ∧ ∀ s ∈ (phR l p).1, (s.2.2.2.1.length : Int) ≤ 360 := by
    unfold phR
    split
    · exact ⟨by simp, fun x hx => by cases hx⟩
    · rename_i h
      have hG := okA_good (l := l) (by simpa using h)
      split
      · exact ⟨by simp, fun x hx => by cases hx⟩
      · have := phs_small l p [] (fun s hs => (hG.2 s hs).len.2) (fun x hx => by cases hx)
        refine ⟨?_, this.2⟩
        have h1 := this.1
        simp only [List.length_nil] at h1
        omega
  have := totS_le key.2
  exact ⟨totS_nonneg _, by omega, key.1, by omega, fun s hs => by have := key.2 s hs; omega⟩
end Go.Cams
