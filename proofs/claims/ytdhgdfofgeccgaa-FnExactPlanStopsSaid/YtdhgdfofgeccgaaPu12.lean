/- Motions by laws, runs of a cam, and programs that are found, in plain terms. -/
import Derived.Test.YtdhgdfofgeccgaaPu11
namespace Go.Cams
open Go Go.Fw
theorem mulB {a b A B : Int} (a0 : 0 ≤ a) (a1 : a ≤ A) (b0 : 0 ≤ b) (b1 : b ≤ B) : 0 ≤ a * b ∧ a * b ≤ A * B := ⟨Int.mul_nonneg a0 b0, Int.mul_le_mul a1 b1 b0 (by omega)⟩
/-- How much of a change is done, as a fraction. -/
def shN (w k n : Int) : Int := if w = 1 then (if 2 * k ≤ n then 2 * k * k else n * n - 2 * (n - k) * (n - k)) else if w = 2 then 3 * k * k * n - 2 * k * k * k else if w = 3 then k * k * k * (10 * n * n - 15 * k * n + 6 * k * k) else k
def shD (w n : Int) : Int := if w = 1 then n * n else if w = 2 then n * n * n else if w = 3 then n * n * n * n * n else n
def liftP (f t w k n : Int) : Int := nr (f * shD w n + (t - f) * shN w k n) (shD w n)
theorem shD_bd {w n : Int} (n0 : 1 ≤ n) (n1 : n ≤ 360) : 1 ≤ shD w n ∧ shD w n ≤ 6046617600000 := by
  have p2 : 1 ≤ n * n := Int.mul_le_mul n0 n0 (by omega) (by omega)
  have q2 := (mulB (show 0 ≤ n by omega) n1 (show 0 ≤ n by omega) n1).2
  have p3 : 1 ≤ n * n * n := Int.mul_le_mul p2 n0 (by omega) (by omega)
  have q3 := (mulB (show 0 ≤ n * n by omega) q2 (show 0 ≤ n by omega) n1).2
  have p4 : 1 ≤ n * n * n * n := Int.mul_le_mul p3 n0 (by omega) (by omega)
  have q4 := (mulB (show 0 ≤ n * n * n by omega) q3 (show 0 ≤ n by omega) n1).2
  have p5 : 1 ≤ n * n * n * n * n := Int.mul_le_mul p4 n0 (by omega) (by omega)
  have q5 := (mulB (show 0 ≤ n * n * n * n by omega) q4 (show 0 ≤ n by omega) n1).2
  unfold shD
  split
  · omega
  split
  · omega
  split <;> omega
theorem shN_bd {w k n : Int} (k0 : 0 ≤ k) (k1 : k ≤ n) (n1 : n ≤ 360) : -170000000000000 ≤ shN w k n ∧ shN w k n ≤ 170000000000000 := by
  have q2 := mulB (show 0 ≤ n by omega) n1 (show 0 ≤ n by omega) n1
  have kk := mulB (show 0 ≤ 2 * k by omega) (show 2 * k ≤ 720 by omega) k0 (show k ≤ 360 by omega)
  have dd := mulB (show 0 ≤ 2 * (n - k) by omega) (show 2 * (n - k) ≤ 720 by omega) (show 0 ≤ n - k by omega) (show n - k ≤ 360 by omega)
  have k3 := mulB (show 0 ≤ 3 * k by omega) (show 3 * k ≤ 1080 by omega) k0 (show k ≤ 360 by omega)
  have k3n := mulB k3.1 k3.2 (show 0 ≤ n by omega) n1
  have kkk := mulB kk.1 kk.2 k0 (show k ≤ 360 by omega)
  have c2 := mulB k0 (show k ≤ 360 by omega) k0 (show k ≤ 360 by omega)
  have c3 := mulB c2.1 c2.2 k0 (show k ≤ 360 by omega)
  have e1 := mulB (show 0 ≤ 10 * n by omega) (show 10 * n ≤ 3600 by omega) (show 0 ≤ n by omega) n1
  have e2 := mulB (show 0 ≤ 15 * k by omega) (show 15 * k ≤ 5400 by omega) (show 0 ≤ n by omega) n1
  have e3 := mulB (show 0 ≤ 6 * k by omega) (show 6 * k ≤ 2160 by omega) k0 (show k ≤ 360 by omega)
  unfold shN
  split
  · split <;> omega
  split
  · omega
  split
  · have a1 : k * k * k * (-1944000) ≤ k * k * k * (10 * n * n - 15 * k * n + 6 * k * k) := Int.mul_le_mul_of_nonneg_left (by omega) c3.1
    have a2 : k * k * k * (10 * n * n - 15 * k * n + 6 * k * k) ≤ k * k * k * 2073600 := Int.mul_le_mul_of_nonneg_left (by omega) c3.1
    omega
  · omega
theorem lift_bd {f t w k n : Int} (f0 : 0 ≤ f) (f1 : f ≤ 10000) (t0 : 0 ≤ t) (t1 : t ≤ 10000) (k0 : 0 ≤ k) (k1 : k ≤ n) (n0 : 1 ≤ n) (n1 : n ≤ 360) : (0 ≤ f * shD w n ∧ f * shD w n ≤ 60466176000000000) ∧ (-1700000000000000000 ≤ (t - f) * shN w k n ∧ (t - f) * shN w k n ≤ 1700000000000000000) := by
  have hd := shD_bd (w := w) n0 n1
  have hn := shN_bd (w := w) k0 k1 n1
  have a := mulB f0 f1 (show 0 ≤ shD w n by omega) hd.2
  refine ⟨by omega, ?_⟩
  rcases Int.le_total 0 (t - f) with h | h
  · have b1 : (t - f) * (-170000000000000) ≤ (t - f) * shN w k n := Int.mul_le_mul_of_nonneg_left hn.1 h
    have b2 : (t - f) * shN w k n ≤ (t - f) * 170000000000000 := Int.mul_le_mul_of_nonneg_left hn.2 h
    omega
  · have b1 : (t - f) * 170000000000000 ≤ (t - f) * shN w k n := Int.mul_le_mul_of_nonpos_left h hn.2
    have b2 : (t - f) * shN w k n ≤ (t - f) * (-170000000000000) := Int.mul_le_mul_of_nonpos_left h hn.1
    omega
/-! ### Runs -/
def kdOf (x : Int) : Int := if x > 0 then 1 else if x < 0 then -1 else 0
def kd (c : List Int) (x : Int) : Int := kdOf (cAt c (x + 1) - cAt c x)
theorem cAt_mod (c : List Int) (x : Int) : cAt c (x % c.length) = cAt c x := by
  unfold cAt; rw [Int.emod_emod]
theorem cAt_add (c : List Int) (x : Int) : cAt c (x + c.length) = cAt c x := by
  unfold cAt; rw [Int.add_emod_right]
theorem kd_add (c : List Int) (x : Int) : kd c (x + c.length) = kd c x := by
  unfold kd
  rw [show x + (c.length : Int) + 1 = x + 1 + c.length by omega, cAt_add, cAt_add]
theorem cAt_mod' (c : List Int) (x d : Int) : cAt c (x % c.length + d) = cAt c (x + d) := by
  unfold cAt; rw [Int.emod_add_emod]
theorem kd_mod (c : List Int) (x : Int) : kd c (x % c.length) = kd c x := by
  unfold kd
  rw [cAt_mod', cAt_mod]
def chgL (c : List Int) : List Int := (List.range c.length).map fun i => cAt c ((i : Nat) + 1) - cAt c (i : Nat)
theorem chgL_len (c : List Int) : (chgL c).length = c.length := by simp [chgL]
theorem chgL_at {c : List Int} (h : 0 < c.length) (x : Int) : At (chgL c) (x % c.length) (cAt c (x + 1) - cAt c x) := by
  have h1 := Int.emod_nonneg x (show (c.length : Int) ≠ 0 by omega)
  have h2 := Int.emod_lt_of_pos x (show 0 < (c.length : Int) by omega)
  obtain ⟨v, hv⟩ := at_of (l := chgL c) h1 (by rw [chgL_len]; omega)
  have e := hv.get
  rw [chgL, List.getElem?_map, List.getElem?_range (by omega)] at e
  simp only [Option.map_some, Option.some.injEq] at e
  rw [show (((x % (c.length : Int)).toNat : Nat) : Int) = x % c.length by omega, cAt_mod', cAt_mod] at e
  rw [e]; exact hv
/-- How many steps ahead of a place are of the kind of step 0, no more than so many. -/
def bkF (K : Int → Int) : Nat → Nat → Nat
  | 0, b => b
  | f + 1, b => if K (-(b : Int) - 1) = K 0 then bkF K f (b + 1) else b
theorem bkF_spec (K : Int → Int) : ∀ f b, (∀ i : Nat, i < b → K (-(i : Int) - 1) = K 0) → b ≤ bkF K f b ∧ bkF K f b ≤ b + f ∧ (∀ i : Nat, i < bkF K f b → K (-(i : Int) - 1) = K 0) ∧ (bkF K f b < b + f → K (-(bkF K f b : Int) - 1) ≠ K 0)
  | 0, b, h => ⟨Nat.le_refl _, Nat.le_refl _, h, fun h => absurd h (by simp [bkF])⟩
  | f + 1, b, h => by
    unfold bkF
    split
    · rename_i hc
      obtain ⟨a1, a2, a3, a4⟩ := bkF_spec K f (b + 1) (fun i hi => by
        by_cases e : i = b
        · subst e; exact hc
        · exact h i (by omega))
      exact ⟨by omega, by omega, a3, fun hh => a4 (by omega)⟩
    · rename_i hc
      exact ⟨Nat.le_refl _, by omega, h, fun _ => hc⟩
/-- How long a run is. -/
def rlF (K : Int → Int) (s : Int) : Nat → Nat → Nat
  | 0, l => l
  | f + 1, l => if K (s + l) = K s then rlF K s f (l + 1) else l
theorem rlF_spec (K : Int → Int) (s : Int) : ∀ f l, (∀ i : Nat, i < l → K (s + i) = K s) → l ≤ rlF K s f l ∧ rlF K s f l ≤ l + f ∧ (∀ i : Nat, i < rlF K s f l → K (s + i) = K s) ∧ (rlF K s f l < l + f → K (s + (rlF K s f l : Nat)) ≠ K s)
  | 0, l, h => ⟨Nat.le_refl _, Nat.le_refl _, h, fun h => absurd h (by simp [rlF])⟩
  | f + 1, l, h => by
    unfold rlF
    split
    · rename_i hc
      obtain ⟨a1, a2, a3, a4⟩ := rlF_spec K s f (l + 1) (fun i hi => by
        by_cases e : i = l
        · subst e; exact hc
        · exact h i (by omega))
      exact ⟨by omega, by omega, a3, fun hh => a4 (by omega)⟩
    · rename_i hc
      exact ⟨Nat.le_refl _, by omega, h, fun _ => hc⟩
theorem rlF_uniq (K : Int → Int) (s : Int) {f l m : Nat} (hl : ∀ i : Nat, i < l → K (s + i) = K s) (h1 : l ≤ m) (h2 : m ≤ l + f) (h3 : ∀ i : Nat, i < m → K (s + i) = K s) (h4 : m < l + f → K (s + (m : Nat)) ≠ K s) : rlF K s f l = m := by
  obtain ⟨a1, a2, a3, a4⟩ := rlF_spec K s f l hl
  rcases Nat.lt_trichotomy (rlF K s f l) m with h | h | h
  · exact absurd (h3 _ h) (a4 (by omega))
  · exact h
  · exact absurd (a3 _ h) (h4 (by omega))
def rl (K : Int → Int) (s : Int) (left : Nat) : Nat := rlF K s (left - 1) 1
theorem rl_one (K : Int → Int) (s : Int) : ∀ i : Nat, i < 1 → K (s + i) = K s := fun i hi => by
  have : i = 0 := by omega
  subst this
  simp
theorem rl_spec (K : Int → Int) (s : Int) {left : Nat} (h : 0 < left) : 1 ≤ rl K s left ∧ rl K s left ≤ left ∧ (∀ i : Nat, i < rl K s left → K (s + i) = K s) ∧ (rl K s left < left → K (s + (rl K s left : Nat)) ≠ K s) := by
  obtain ⟨a1, a2, a3, a4⟩ := rlF_spec K s (left - 1) 1 (rl_one K s)
  unfold rl
  exact ⟨a1, by omega, a3, fun hh => a4 (by omega)⟩
theorem rl_is (K : Int → Int) (s : Int) {left m : Nat} (h : 1 ≤ m) (h2 : m ≤ left) (h3 : ∀ i : Nat, i < m → K (s + i) = K s) (h4 : m < left → K (s + (m : Nat)) ≠ K s) : rl K s left = m :=
  rlF_uniq K s (rl_one K s) h (by omega) h3 (fun hh => h4 (by omega))
/-- Runs, from a step on, so many steps. -/
def rsF (c : List Int) : Nat → Int → Nat → List Ct
  | 0, _, _ => []
  | f + 1, s, left => if left = 0 then [] else (kd c s, s % c.length, ((rl (kd c) s left : Nat) : Int), ()) :: rsF c f (s + (rl (kd c) s left : Nat)) (left - rl (kd c) s left)
theorem rl_add (c : List Int) (s : Int) {left : Nat} (h : 0 < left) : rl (kd c) (s + c.length) left = rl (kd c) s left := by
  obtain ⟨a1, a2, a3, a4⟩ := rl_spec (kd c) s h
  have e : ∀ i : Int, kd c (s + c.length + i) = kd c (s + i) := fun i => by rw [show s + (c.length : Int) + i = s + i + c.length by omega, kd_add]
  refine rl_is (kd c) _ a1 a2 (fun i hi => ?_) (fun hh => ?_)
  · rw [e, kd_add]; exact a3 i hi
  · rw [e, kd_add]; exact a4 hh
theorem rsF_add (c : List Int) : ∀ f s left, rsF c f (s + c.length) left = rsF c f s left
  | 0, _, _ => rfl
  | f + 1, s, left => by
    unfold rsF
    by_cases h : left = 0
    · rw [if_pos h, if_pos h]
    · rw [if_neg h, if_neg h, rl_add c s (by omega), kd_add, Int.add_emod_right, show s + (c.length : Int) + ((rl (kd c) s left : Nat) : Int) = s + ((rl (kd c) s left : Nat) : Int) + c.length by omega, rsF_add c f]
theorem rsF_more (c : List Int) : ∀ f s left, left ≤ f → rsF c f s left = rsF c left s left
  | 0, s, left, h => by
    have : left = 0 := by omega
    subst this; rfl
  | f + 1, s, left, h => by
    by_cases h0 : left = 0
    · subst h0
      unfold rsF; rfl
    obtain ⟨l, rfl⟩ : ∃ l, left = l + 1 := ⟨left - 1, by omega⟩
    obtain ⟨a1, a2, _, _⟩ := rl_spec (kd c) s (left := l + 1) (by omega)
    unfold rsF
    rw [if_neg h0, if_neg h0, rsF_more c f _ _ (by omega), rsF_more c l _ _ (by omega)]
def rs (c : List Int) (s : Int) (left : Nat) : List Ct := rsF c left s left
theorem rs_zero (c : List Int) (s : Int) : rs c s 0 = [] := rfl
theorem rs_pos (c : List Int) (s : Int) {left : Nat} (h : 0 < left) : rs c s left = (kd c s, s % c.length, ((rl (kd c) s left : Nat) : Int), ()) :: rs c (s + (rl (kd c) s left : Nat)) (left - rl (kd c) s left) := by
  obtain ⟨l, rfl⟩ : ∃ l, left = l + 1 := ⟨left - 1, by omega⟩
  obtain ⟨a1, a2, _, _⟩ := rl_spec (kd c) s (left := l + 1) (by omega)
  unfold rs
  rw [rsF, if_neg (by omega), rsF_more c l _ _ (by omega)]
theorem rs_add (c : List Int) (s : Int) (left : Nat) : rs c (s + c.length) left = rs c s left := rsF_add c left s left
theorem rs_el (c : List Int) (h0 : 0 < c.length) : ∀ (left : Nat) (s : Int), ∀ v ∈ rs c s left, (v.1 = 1 ∨ v.1 = -1 ∨ v.1 = 0) ∧ (0 ≤ v.2.1 ∧ v.2.1 < (c.length : Int)) ∧ (1 ≤ v.2.2.1 ∧ v.2.2.1 ≤ (left : Int)) := by
  intro left
  induction left using Nat.strongRecOn with
  | _ left ih =>
    intro s v hv
    by_cases h : left = 0
    · subst h; rw [rs_zero] at hv; cases hv
    rw [rs_pos c s (by omega)] at hv
    obtain ⟨a1, a2, _, _⟩ := rl_spec (kd c) s (left := left) (by omega)
    rcases List.mem_cons.1 hv with rfl | hv
    · have h1 := Int.emod_nonneg s (show (c.length : Int) ≠ 0 by omega)
      have h2 := Int.emod_lt_of_pos s (show 0 < (c.length : Int) by omega)
      refine ⟨?_, ⟨h1, h2⟩, by show (1 : Int) ≤ ((rl (kd c) s left : Nat) : Int); omega, by show ((rl (kd c) s left : Nat) : Int) ≤ left; omega⟩
      show kdOf _ = 1 ∨ kdOf _ = -1 ∨ kdOf _ = 0
      unfold kdOf
      split
      · exact .inl rfl
      split
      · exact .inr (.inl rfl)
      · exact .inr (.inr rfl)
    · have := ih (left - rl (kd c) s left) (by omega) _ v hv
      omega
theorem rs_len (c : List Int) : ∀ (left : Nat) (s : Int), (rs c s left).length ≤ left := by
  intro left
  induction left using Nat.strongRecOn with
  | _ left ih =>
    intro s
    by_cases h : left = 0
    · subst h; simp [rs_zero]
    rw [rs_pos c s (by omega)]
    obtain ⟨a1, a2, _, _⟩ := rl_spec (kd c) s (left := left) (by omega)
    have := ih (left - rl (kd c) s left) (by omega) (s + (rl (kd c) s left : Nat))
    rw [List.length_cons]; omega
/-- Steps ahead of step 0 that are of its kind: all of them, or none but so many. -/
def bk (c : List Int) : Nat := bkF (kd c) c.length 0
def runsP (c : List Int) : List Ct := if bk c = c.length then [(kd c 0, 0, (c.length : Int), ())] else rs c (-(bk c : Int)) c.length
theorem bk_spec (c : List Int) : bk c ≤ c.length ∧ (∀ i : Nat, i < bk c → kd c (-(i : Int) - 1) = kd c 0) ∧ (bk c < c.length → kd c (-(bk c : Int) - 1) ≠ kd c 0) := by
  obtain ⟨_, a2, a3, a4⟩ := bkF_spec (kd c) c.length 0 (fun i hi => by omega)
  unfold bk
  exact ⟨by omega, a3, fun h => a4 (by omega)⟩
theorem bk_lt (c : List Int) (h0 : 0 < c.length) (h : bk c ≠ c.length) : bk c + 2 ≤ c.length := by
  obtain ⟨a1, a2, a3⟩ := bk_spec c
  by_cases e : bk c + 1 = c.length
  · exact absurd (by
      have := a3 (by omega)
      have e2 : -(bk c : Int) - 1 = 0 + -(c.length : Int) := by omega
      have : kd c (-(bk c : Int) - 1) = kd c 0 := by
        have := kd_add c (-(bk c : Int) - 1)
        rw [show -(bk c : Int) - 1 + c.length = 0 by omega] at this
        exact this.symm
      exact this) (a3 (by omega))
  · omega
/-- The same from one step less. -/
theorem bkF_less (c : List Int) (h0 : 0 < c.length) : bkF (kd c) (c.length - 1) 0 = if bk c = c.length then c.length - 1 else bk c := by
  obtain ⟨_, b2, b3, b4⟩ := bkF_spec (kd c) (c.length - 1) 0 (fun i hi => by omega)
  obtain ⟨a1, a2, a3⟩ := bk_spec c
  split
  · rename_i h
    by_cases e : bkF (kd c) (c.length - 1) 0 = c.length - 1
    · exact e
    · exact absurd (a2 _ (by omega)) (b4 (by omega))
  · rename_i h
    have := bk_lt c h0 h
    rcases Nat.lt_trichotomy (bkF (kd c) (c.length - 1) 0) (bk c) with e | e | e
    · exact absurd (a2 _ e) (b4 (by omega))
    · exact e
    · exact absurd (b3 _ e) (a3 (by omega))
/-- Where all steps are of a kind. -/
theorem all_kind {c : List Int} (h : bk c = c.length) (h0 : 0 < c.length) (x : Int) : kd c x = kd c 0 := by
  obtain ⟨_, a2, _⟩ := bk_spec c
  have h1 := Int.emod_nonneg x (show (c.length : Int) ≠ 0 by omega)
  have h2 := Int.emod_lt_of_pos x (show 0 < (c.length : Int) by omega)
  have := a2 (c.length - 1 - (x % c.length).toNat) (by omega)
  rw [show -((c.length - 1 - (x % (c.length : Int)).toNat : Nat) : Int) - 1 = x % c.length + -(c.length : Int) by omega] at this
  have e := kd_add c (x % c.length + -(c.length : Int))
  rw [show x % (c.length : Int) + -(c.length : Int) + c.length = x % c.length by omega, kd_mod] at e
  rw [e]; exact this
/-- What the specification finds first. -/
def specRuns (c : List Int) : List Ct := rs c (if bkF (kd c) (c.length - 1) 0 = 0 then 0 else (c.length : Int) - (bkF (kd c) (c.length - 1) 0 : Nat)) c.length
def fixOne (l : List Ct) : List Ct := match l with
  | [v] => [(v.1, 0, v.2.2)]
  | l => l
theorem rs_all {c : List Int} (h : bk c = c.length) (h0 : 0 < c.length) (s : Int) : rs c s c.length = [(kd c 0, s % c.length, (c.length : Int), ())] := by
  have hl : rl (kd c) s c.length = c.length := rl_is (kd c) s (by omega) (Nat.le_refl _) (fun i _ => by rw [all_kind h h0, all_kind h h0 s]) (fun hh => by omega)
  rw [rs_pos c s h0, hl, Nat.sub_self, rs_zero, all_kind h h0]
theorem first_long {c : List Int} (h : bk c ≠ c.length) (h0 : 0 < c.length) : bk c + 1 ≤ rl (kd c) (-(bk c : Int)) c.length ∧ rl (kd c) (-(bk c : Int)) c.length < c.length := by
  have hb := bk_lt c h0 h
  obtain ⟨a1, a2, a3⟩ := bk_spec c
  obtain ⟨r1, r2, r3, r4⟩ := rl_spec (kd c) (-(bk c : Int)) h0
  have hs : kd c (-(bk c : Int)) = kd c 0 := by
    by_cases e : bk c = 0
    · rw [e]; rfl
    · have := a2 (bk c - 1) (by omega)
      rw [show -((bk c - 1 : Nat) : Int) - 1 = -(bk c : Int) by omega] at this
      exact this
  constructor
  · by_cases hh : bk c + 1 ≤ rl (kd c) (-(bk c : Int)) c.length
    · exact hh
    · have := r4 (by omega)
      rw [hs] at this
      exact absurd (by
        by_cases e : rl (kd c) (-(bk c : Int)) c.length = bk c
        · rw [e, show -(bk c : Int) + (bk c : Nat) = 0 by omega]
        · have := a2 (bk c - 1 - rl (kd c) (-(bk c : Int)) c.length) (by omega)
          rw [show -((bk c - 1 - rl (kd c) (-(bk c : Int)) c.length : Nat) : Int) - 1 = -(bk c : Int) + (rl (kd c) (-(bk c : Int)) c.length : Nat) by omega] at this
          exact this) this
  · by_cases hh : rl (kd c) (-(bk c : Int)) c.length < c.length
    · exact hh
    · have e : rl (kd c) (-(bk c : Int)) c.length = c.length := by omega
      rw [e] at r3
      have := r3 (c.length - 1) (by omega)
      rw [hs] at this
      have e2 := kd_add c (-(bk c : Int) - 1)
      rw [show -(bk c : Int) - 1 + c.length = -(bk c : Int) + ((c.length - 1 : Nat) : Int) by omega, this] at e2
      exact absurd e2.symm (a3 (by omega))
theorem spec_runs {c : List Int} (h0 : 0 < c.length) : fixOne (specRuns c) = runsP c := by
  unfold specRuns runsP
  rw [bkF_less c h0]
  by_cases h : bk c = c.length
  · rw [if_pos h, if_pos h, rs_all h h0]; rfl
  · rw [if_neg h, if_neg h]
    have e : rs c (if bk c = 0 then 0 else (c.length : Int) - (bk c : Nat)) c.length = rs c (-(bk c : Int)) c.length := by
      by_cases hb : bk c = 0
      · rw [if_pos hb, hb]; rfl
      · rw [if_neg hb, show (c.length : Int) - (bk c : Nat) = -(bk c : Int) + c.length by omega, rs_add]
    rw [e]
    obtain ⟨f1, f2⟩ := first_long h h0
    obtain ⟨r1, r2, _, _⟩ := rl_spec (kd c) (-(bk c : Int)) h0
    rw [rs_pos c _ h0, rs_pos c _ (left := c.length - rl (kd c) (-(bk c : Int)) c.length) (by omega)]
    rfl
/-- Runs from step 0 on. -/
def strP (c : List Int) : List Ct := match runsP c with
  | [] => []
  | v :: r => if v.2.1 > 0 then (v.1, 0, v.2.1 + v.2.2.1 - c.length, ()) :: r ++ [(v.1, v.2.1, (c.length : Int) - v.2.1, ())] else v :: r
theorem runsP_cons {c : List Int} (h0 : 0 < c.length) : ∃ v r, runsP c = v :: r ∧ (0 ≤ v.2.1 ∧ v.2.1 < (c.length : Int)) ∧ (1 ≤ v.2.2.1 ∧ v.2.2.1 ≤ (c.length : Int)) ∧ (0 < v.2.1 → (c.length : Int) < v.2.1 + v.2.2.1) ∧ (r.length < c.length) ∧ (∀ u ∈ v :: r, (u.1 = 1 ∨ u.1 = -1 ∨ u.1 = 0) ∧ (0 ≤ u.2.1 ∧ u.2.1 < (c.length : Int)) ∧ (1 ≤ u.2.2.1 ∧ u.2.2.1 ≤ (c.length : Int))) := by
  unfold runsP
  by_cases h : bk c = c.length
  · rw [if_pos h]
    refine ⟨_, _, rfl, ⟨Int.le_refl _, by show (0 : Int) < _; omega⟩, ⟨by show (1 : Int) ≤ c.length; omega, Int.le_refl _⟩, fun hh => absurd hh (Int.lt_irrefl _), by simp; omega, fun u hu => ?_⟩
    have hu : u = (kd c 0, 0, (c.length : Int), ()) := by simpa using hu
    subst hu
    refine ⟨?_, ⟨Int.le_refl _, by show (0 : Int) < _; omega⟩, by show (1 : Int) ≤ c.length; omega, Int.le_refl _⟩
    show kdOf _ = 1 ∨ kdOf _ = -1 ∨ kdOf _ = 0
    unfold kdOf
    split
    · exact .inl rfl
    split
    · exact .inr (.inl rfl)
    · exact .inr (.inr rfl)
  · rw [if_neg h]
    have hel := rs_el c h0 c.length (-(bk c : Int))
    have hlen := rs_len c c.length (-(bk c : Int))
    obtain ⟨f1, f2⟩ := first_long h h0
    have hb := bk_lt c h0 h
    rw [rs_pos c _ h0] at hel hlen ⊢
    have := hel _ List.mem_cons_self
    refine ⟨_, _, rfl, this.2.1, this.2.2, fun hh => ?_, by rw [List.length_cons] at hlen; omega, hel⟩
    show (c.length : Int) < (-(bk c : Int)) % c.length + (rl (kd c) (-(bk c : Int)) c.length : Nat)
    have hh : 0 < (-(bk c : Int)) % (c.length : Int) := hh
    have e : (-(bk c : Int)) % (c.length : Int) = if bk c = 0 then 0 else (c.length : Int) - bk c := by
      by_cases hb0 : bk c = 0
      · rw [if_pos hb0, hb0]; simp
      · rw [if_neg hb0]
        have := Int.add_emod_right (-(bk c : Int)) c.length
        rw [← this]
        exact (Int.emod_eq_of_lt (by omega) (by omega)).trans (by omega)
    rw [e] at hh ⊢
    split at hh
    · omega
    · rename_i hb0
      rw [if_neg hb0]; omega
theorem strP_el {c : List Int} (h0 : 0 < c.length) : (strP c).length ≤ c.length + 1 ∧ ∀ u ∈ strP c, (u.1 = 1 ∨ u.1 = -1 ∨ u.1 = 0) ∧ (0 ≤ u.2.1 ∧ u.2.1 < (c.length : Int)) ∧ (1 ≤ u.2.2.1 ∧ u.2.2.1 ≤ (c.length : Int)) := by
  obtain ⟨v, r, e, h1, h2, h3, h4, h5⟩ := runsP_cons h0
  have es : strP c = if v.2.1 > 0 then (v.1, 0, v.2.1 + v.2.2.1 - c.length, ()) :: r ++ [(v.1, v.2.1, (c.length : Int) - v.2.1, ())] else v :: r := by unfold strP; rw [e]
  rw [es]
  split
  · rename_i hp
    have h3 := h3 hp
    refine ⟨by simp; omega, fun u hu => ?_⟩
    simp only [List.cons_append, List.mem_cons, List.mem_append, List.mem_nil_iff, or_false] at hu
    have hv := (h5 v List.mem_cons_self).1
    rcases hu with rfl | hu | rfl
    · exact ⟨hv, ⟨Int.le_refl _, by show (0 : Int) < _; omega⟩, by show (1 : Int) ≤ v.2.1 + v.2.2.1 - c.length; omega, by show v.2.1 + v.2.2.1 - c.length ≤ (c.length : Int); omega⟩
    · exact h5 u (List.mem_cons_of_mem _ hu)
    · exact ⟨hv, h1, by show (1 : Int) ≤ (c.length : Int) - v.2.1; omega, by show (c.length : Int) - v.2.1 ≤ (c.length : Int); omega⟩
  · exact ⟨by simp; omega, h5⟩
/-! ### Motions that are found -/
def fitTo (c : List Int) (s l w : Int) (k : Nat) : Bool := allTo (fun i => cAt c (s + ((i : Nat) + 1)) == liftP (cAt c s) (cAt c (s + l)) w ((i : Nat) + 1) l) k
def fitW (c : List Int) (s l w : Int) : Bool := fitTo c s l w (l - 1).toNat
def fitL (c : List Int) (s l : Int) : Int := if fitW c s l 0 = true then 0 else if fitW c s l 1 = true then 1 else if fitW c s l 2 = true then 2 else if fitW c s l 3 = true then 3 else -1
theorem fitL_bd (c : List Int) (s l : Int) : -1 ≤ fitL c s l ∧ fitL c s l ≤ 3 := by
  unfold fitL
  split
  · omega
  split
  · omega
  split
  · omega
  split <;> omega
def motP (c : List Int) (v : Ct) : Ct := (fitL c v.2.1 v.2.2.1, v.2.2.1, cAt c (v.2.1 + v.2.2.1), ())
abbrev Prg : Type := Int × ((List Ct) × Unit)
def fpR (c : List Int) : Prg × (Int × Unit) := if okC c = false then ((0, [], ()), 1, ()) else if ((strP c).length : Int) > 24 then ((0, [], ()), 3, ()) else if (strP c).all (fun v => !decide (fitL c v.2.1 v.2.2.1 < 0)) = true then ((g c 0, (strP c).map (motP c), ()), 0, ()) else ((0, [], ()), 6, ())
/-! ### Marks of three numbers -/
def mkC (f1 f2 f3 : Int → Int) (n : Nat) (k : Int) : List Ct := (List.range n).map fun i => (f1 (k + 3 * (i : Nat)), f2 (k + 3 * (i : Nat) + 1), f3 (k + 3 * (i : Nat) + 1 + 1), ())
theorem mkC_len (f1 f2 f3 : Int → Int) (n : Nat) (k : Int) : (mkC f1 f2 f3 n k).length = n := by simp [mkC]
theorem mkC_succ (f1 f2 f3 : Int → Int) (n : Nat) (k : Int) : mkC f1 f2 f3 (n + 1) k = mkC f1 f2 f3 n k ++ [(f1 (k + 3 * (n : Nat)), f2 (k + 3 * (n : Nat) + 1), f3 (k + 3 * (n : Nat) + 1 + 1), ())] := by simp [mkC, List.range_succ]
theorem mkC_at (f1 f2 f3 : Int → Int) (n : Nat) (k : Int) {i : Int} {v : Ct} (h : At (mkC f1 f2 f3 n k) i v) (h0 : 0 ≤ i) : v.1 = f1 (k + 3 * i) ∧ v.2.1 = f2 (k + 3 * i + 1) ∧ v.2.2.1 = f3 (k + 3 * i + 1 + 1) := by
  have := h.get
  unfold mkC at this
  rw [List.getElem?_map] at this
  cases hr : (List.range n)[i.toNat]? with
  | none => rw [hr] at this; cases this
  | some j =>
    rw [hr] at this
    simp only [Option.map_some, Option.some.injEq] at this
    have hj : j = i.toNat := by
      rw [List.getElem?_eq_some_iff] at hr
      obtain ⟨hl, e⟩ := hr
      rw [List.getElem_range] at e
      exact e.symm
    rw [← this, hj, show ((i.toNat : Nat) : Int) = i by omega]
    exact ⟨rfl, rfl, rfl⟩
theorem fpR_len (c : List Int) : ((fpR c).1.2.1.length : Int) ≤ 24 := by
  unfold fpR
  split
  · simp
  split
  · simp
  split
  · rename_i h _
    show (((strP c).map (motP c)).length : Int) ≤ 24
    rw [List.length_map]; omega
  · simp
theorem wrap8 {x : Int} (h1 : -128 ≤ x) (h2 : x ≤ 127) : wr .i8 x = x := by
  show IntKind.i8.wrap x = x
  simp [IntKind.wrap, IntKind.bits, IntKind.signed]
  omega
end Go.Cams
