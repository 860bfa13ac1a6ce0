/- What the functions compute, in plain terms: definitions and laws of lists and numbers, no program in sight. -/
import Derived.Test.YtjeakogmccogmaaDoorPuAllb
/- Cams that are made of cams, and runs, in plain terms. -/
namespace Go.Cams
open Go Go.Fw
theorem cAt_idx {l : List Int} {i : Nat} (h : i < l.length) : At l (i : Int) (cAt l (i : Nat)) := by
  have := g_idx (l := l) (i := (i : Int)) (by omega) (by omega)
  rw [Int.toNat_natCast] at this
  rw [cAt_self h]; exact this
theorem tb_cAt (l : List Int) : tb l.length (fun i => cAt l (i : Nat)) = l := by
  rw [tb_self (l := l) rfl]
  rw [tb_len]
  exact tb_ext fun j hj => by rw [← tb_self (l := l) rfl]; exact cAt_self hj
theorem cAt_tb {n : Nat} {G : Nat → Int} {i : Nat} (h : i < n) : cAt (tb n G) (i : Nat) = G i := by rw [cAt_self (by rw [tb_len]; exact h), g_tb h]
theorem nr_mul (x z : Int) {t : Int} (ht : 0 < t) : nr (x * t + z) t = x + nr z t := by
  unfold nr
  rw [show 2 * (x * t + z) + t = (2 * z + t) + x * (2 * t) by grind, Int.add_mul_ediv_right _ _ (by omega)]
  omega
theorem nrz {t : Int} (ht : 0 < t) : nr 0 t = 0 := by
  unfold nr
  rw [Int.mul_zero, Int.zero_add, Int.ediv_eq_zero_of_lt (by omega) (by omega)]
theorem nrf (x : Int) {t : Int} (ht : 0 < t) : nr (x * t) t = x := by
  have := nr_mul x 0 ht
  rw [Int.add_zero, nrz ht, Int.add_zero] at this
  exact this
theorem nr_half (x : Int) : nr (x * 2) 2 = x := nrf x (by omega)
theorem nr_one (x : Int) : nr x 1 = x := by have := nrf x (t := 1) (by omega); rwa [Int.mul_one] at this
theorem dm {t r : Int} (q : Int) (r0 : 0 ≤ r) (r1 : r < t) : (t * q + r) / t = q ∧ (t * q + r) % t = r := by
  rw [Int.add_comm]
  constructor
  · rw [Int.add_mul_ediv_left _ _ (by omega), Int.ediv_eq_zero_of_lt r0 r1, Int.zero_add]
  · rw [Int.add_mul_emod_self_left, Int.emod_eq_of_lt r0 r1]
theorem nrs {d k t : Int} (ht : 1 ≤ t) : siz (nr (d * (k + 1)) t - nr (d * k) t) ≤ siz d := by
  unfold nr
  obtain ⟨A, hA⟩ : ∃ A, A = 2 * (d * k) + t := ⟨_, rfl⟩
  rw [show 2 * (d * (k + 1)) + t = A + 2 * d by rw [hA]; grind, ← hA]
  have e : ∀ z : Int, (A + z * (2 * t)) / (2 * t) = A / (2 * t) + z := fun z => Int.add_mul_ediv_right _ _ (by omega)
  by_cases h : 0 ≤ d
  · have h1 : A / (2 * t) ≤ (A + 2 * d) / (2 * t) := Int.ediv_le_ediv (by omega) (by omega)
    have h3 := Int.mul_nonneg h (show 0 ≤ t - 1 by omega)
    have h2 : (A + 2 * d) / (2 * t) ≤ (A + d * (2 * t)) / (2 * t) := Int.ediv_le_ediv (by omega) (by
      have : d * (2 * t) = 2 * (d * (t - 1)) + 2 * d := by grind
      omega)
    rw [e] at h2
    unfold siz
    split <;> split <;> omega
  · have h1 : (A + 2 * d) / (2 * t) ≤ A / (2 * t) := Int.ediv_le_ediv (by omega) (by omega)
    have h3 := Int.mul_nonneg (show 0 ≤ -d by omega) (show 0 ≤ t - 1 by omega)
    have h2 : (A + d * (2 * t)) / (2 * t) ≤ (A + 2 * d) / (2 * t) := Int.ediv_le_ediv (by omega) (by
      have : d * (2 * t) = 2 * d - 2 * (-d * (t - 1)) := by grind
      omega)
    rw [e] at h2
    unfold siz
    split <;> split <;> omega
theorem cAt_mul (c : List Int) (x q : Int) : cAt c (x + c.length * q) = cAt c x := by
  unfold cAt
  rw [Int.add_mul_emod_self_left]
def adL (a b : List Int) : List Int := tb a.length fun i => cAt a (i : Nat) + cAt b (i : Nat)
def blL (a b : List Int) (s : Int) : List Int := tb a.length fun i => nr (cAt a (i : Nat) * (100 - s) + cAt b (i : Nat) * s) 100
def rsL (c : List Int) (y : Int) : List Int := tb c.length fun i => cAt c (i : Nat) + y
def scL (c : List Int) (t o : Int) : List Int := tb c.length fun i => nr (cAt c (i : Nat) * t) o
theorem rs_back (c : List Int) (y : Int) : rsL (rsL c y) (-y) = c := by
  have hl : (rsL c y).length = c.length := tb_len _ _
  unfold rsL at hl ⊢
  rw [hl]
  rw [← tb_cAt c]
  rw [tb_cAt c]
  conv => rhs; rw [← tb_cAt c]
  exact tb_ext fun j hj => by rw [cAt_tb hj]; omega
theorem sc_back (c : List Int) : scL (scL c 2 1) 1 2 = c := by
  have hl : (scL c 2 1).length = c.length := tb_len _ _
  unfold scL at hl ⊢
  rw [hl]
  conv => rhs; rw [← tb_cAt c]
  exact tb_ext fun j hj => by rw [cAt_tb hj, nr_one, Int.mul_one, nr_half]
theorem bl_in {x y s : Int} (s0 : 0 ≤ s) (s1 : s ≤ 100) : min x y ≤ nr (x * (100 - s) + y * s) 100 ∧ nr (x * (100 - s) + y * s) 100 ≤ max x y := by
  have a1 := Int.mul_le_mul_of_nonneg_right (show min x y ≤ x by omega) (show 0 ≤ 100 - s by omega)
  have a2 := Int.mul_le_mul_of_nonneg_right (show min x y ≤ y by omega) s0
  have b1 := Int.mul_le_mul_of_nonneg_right (show x ≤ max x y by omega) (show 0 ≤ 100 - s by omega)
  have b2 := Int.mul_le_mul_of_nonneg_right (show y ≤ max x y by omega) s0
  have e1 : min x y * (100 - s) + min x y * s = min x y * 100 := by grind
  have e2 : max x y * (100 - s) + max x y * s = max x y * 100 := by grind
  exact nr_in (by omega) (by omega) (by omega)
/-- A refined cam. -/
def rfG (a : List Int) (t x : Int) : Int := nr (cAt a (x / t) * t + (cAt a (x / t + 1) - cAt a (x / t)) * (x % t)) t
def rfL (a : List Int) (t : Nat) : List Int := tb (a.length * t) fun i => rfG a t (i : Nat)
theorem rfL_len (a : List Int) (t : Nat) : (rfL a t).length = a.length * t := tb_len _ _
theorem rfG_eq (a : List Int) {t : Int} (ht : 0 < t) (x : Int) : rfG a t x = cAt a (x / t) + nr ((cAt a (x / t + 1) - cAt a (x / t)) * (x % t)) t := nr_mul _ _ ht
theorem rfG_per (a : List Int) {t : Int} (ht : 0 < t) (x q : Int) : rfG a t (x + a.length * t * q) = rfG a t x := by
  unfold rfG
  have e : x + (a.length : Int) * t * q = x + (a.length : Int) * q * t := by grind
  rw [e, Int.add_mul_ediv_right _ _ (by omega), Int.add_mul_emod_self_right, cAt_mul, show x / t + (a.length : Int) * q + 1 = x / t + 1 + (a.length : Int) * q by omega, cAt_mul]
theorem rfL_at {a : List Int} (h0 : 0 < a.length) {t : Nat} (ht : 0 < t) (x : Int) : cAt (rfL a t) x = rfG a t x := by
  have hp : 0 < a.length * t := Nat.mul_pos h0 ht
  have hpi : ((a.length * t : Nat) : Int) = (a.length : Int) * (t : Int) := by simp
  unfold cAt
  rw [rfL_len]
  have h1 := Int.emod_nonneg x (show ((a.length * t : Nat) : Int) ≠ 0 by omega)
  have h2 := Int.emod_lt_of_pos x (show (0 : Int) < ((a.length * t : Nat) : Int) by omega)
  unfold rfL
  rw [g_tb (by omega), show (((x % ((a.length * t : Nat) : Int)).toNat : Nat) : Int) = x % ((a.length * t : Nat) : Int) by omega]
  have h3 := Int.emod_add_mul_ediv x ((a.length * t : Nat) : Int)
  have h4 := rfG_per a (t := (t : Int)) (by omega) (x % ((a.length * t : Nat) : Int)) (x / ((a.length * t : Nat) : Int))
  rw [← hpi, h3] at h4
  exact h4.symm
theorem rfG_step (a : List Int) {t : Int} (ht : 0 < t) (x : Int) : rfG a t (x + 1) - rfG a t x = nr ((cAt a (x / t + 1) - cAt a (x / t)) * (x % t + 1)) t - nr ((cAt a (x / t + 1) - cAt a (x / t)) * (x % t)) t := by
  have h1 := Int.emod_nonneg x (show t ≠ 0 by omega)
  have h2 := Int.emod_lt_of_pos x ht
  have h3 := Int.mul_ediv_add_emod x t
  obtain ⟨q, hq⟩ : ∃ q, q = x / t := ⟨_, rfl⟩
  obtain ⟨k, hk⟩ : ∃ k, k = x % t := ⟨_, rfl⟩
  rw [rfG_eq a ht, rfG_eq a ht, ← hq, ← hk]
  rw [← hq, ← hk] at h3
  rw [← hk] at h1 h2
  by_cases h : k + 1 < t
  · have := dm (t := t) (r := k + 1) q (by omega) h
    rw [show t * q + (k + 1) = x + 1 by omega] at this
    rw [this.1, this.2]
    omega
  · have := dm (t := t) (r := 0) (q + 1) (by omega) (by omega)
    have e : t * (q + 1) = t * q + t := by grind
    rw [show t * (q + 1) + 0 = x + 1 by omega] at this
    rw [this.1, this.2, Int.mul_zero, nrz ht, show k + 1 = t by omega, nrf _ ht]
    omega
theorem rf_steep {a : List Int} (h0 : 0 < a.length) {t : Nat} (ht : 0 < t) : (gr (chgL (rfL a t))).2.1 ≤ (gr (chgL a)).2.1 := by
  have hT := (gr_le (chgL a) (0, -1, 0) (gr (chgL a)).2.1).1 (Int.le_refl _)
  refine (gr_le _ _ _).2 ⟨hT.1, fun v hv => ?_⟩
  obtain ⟨x, rfl⟩ := chgL_mem hv
  rw [rfL_at h0 ht, rfL_at h0 ht, rfG_step a (by omega)]
  have h1 := nrs (d := cAt a (x / t + 1) - cAt a (x / t)) (k := x % t) (t := t) (by omega)
  have h2 := hT.2 _ (chg_mem h0 (x / t))
  omega
theorem rf_thin {a : List Int} (h0 : 0 < a.length) {t : Nat} (ht : 0 < t) : tb a.length (fun i => cAt (rfL a t) ((i : Nat) * (t : Int))) = a := by
  conv => rhs; rw [← tb_cAt a]
  refine tb_ext fun j hj => ?_
  rw [rfL_at h0 ht, rfG_eq a (by omega)]
  have := dm (t := (t : Int)) (r := 0) (j : Nat) (by omega) (by omega)
  rw [show (t : Int) * (j : Nat) + 0 = (j : Nat) * (t : Int) by rw [Int.add_zero, Int.mul_comm]] at this
  rw [this.1, this.2, Int.mul_zero, nrz (by omega), Int.add_zero]
theorem rfG_in {a : List Int} (h0 : 0 < a.length) {lo hi : Int} (H : ∀ v ∈ a, lo ≤ v ∧ v ≤ hi) {t : Int} (ht : 0 < t) (x : Int) : lo ≤ rfG a t x ∧ rfG a t x ≤ hi := by
  have h1 := Int.emod_nonneg x (show t ≠ 0 by omega)
  have h2 := Int.emod_lt_of_pos x ht
  have a1 := H _ (cAt_mem h0 (x / t))
  have a2 := H _ (cAt_mem h0 (x / t + 1))
  obtain ⟨p, hp⟩ : ∃ p, p = cAt a (x / t) := ⟨_, rfl⟩
  obtain ⟨q, hq⟩ : ∃ q, q = cAt a (x / t + 1) := ⟨_, rfl⟩
  obtain ⟨k, hk⟩ : ∃ k, k = x % t := ⟨_, rfl⟩
  unfold rfG
  rw [← hp, ← hq, ← hk]
  rw [← hp] at a1
  rw [← hq] at a2
  rw [← hk] at h1 h2
  have e : p * t + (q - p) * k = p * (t - k) + q * k := by grind
  have b1 := Int.mul_le_mul_of_nonneg_right a1.1 (show 0 ≤ t - k by omega)
  have b2 := Int.mul_le_mul_of_nonneg_right a2.1 h1
  have c1 := Int.mul_le_mul_of_nonneg_right a1.2 (show 0 ≤ t - k by omega)
  have c2 := Int.mul_le_mul_of_nonneg_right a2.2 h1
  have d1 : lo * (t - k) + lo * k = lo * t := by grind
  have d2 : hi * (t - k) + hi * k = hi * t := by grind
  exact nr_in ht (by omega) (by omega)
/-! ### Runs -/
def lenS : List Ct → Int
  | [] => 0
  | v :: r => v.2.2.1 + lenS r
theorem lenS_snoc : ∀ (l : List Ct) (v : Ct), lenS (l ++ [v]) = lenS l + v.2.2.1
  | [], v => by simp [lenS]
  | u :: l, v => by rw [List.cons_append, lenS, lenS_snoc l v, lenS]; omega
def RunOk (c : List Int) : Int → List Ct → Prop
  | _, [] => True
  | s, v :: r => v.1 = kd c s ∧ v.2.1 = s % c.length ∧ 1 ≤ v.2.2.1 ∧ (∀ k : Int, 0 ≤ k → k < v.2.2.1 → kd c (s + k) = v.1) ∧ (r ≠ [] → kd c (s + v.2.2.1) ≠ v.1) ∧ RunOk c (s + v.2.2.1) r
theorem rs_run (c : List Int) : ∀ (left : Nat) (s : Int), RunOk c s (rs c s left) ∧ lenS (rs c s left) = left := by
  intro left
  induction left using Nat.strongRecOn with
  | _ left ih =>
    intro s
    by_cases h : left = 0
    · subst h; rw [rs_zero]; exact ⟨trivial, rfl⟩
    rw [rs_pos c s (by omega)]
    obtain ⟨a1, a2, a3, a4⟩ := rl_spec (kd c) s (left := left) (by omega)
    obtain ⟨h1, h2⟩ := ih (left - rl (kd c) s left) (by omega) (s + (rl (kd c) s left : Nat))
    refine ⟨⟨rfl, rfl, by show (1 : Int) ≤ ((rl (kd c) s left : Nat) : Int); omega, fun k k0 k1 => ?_, fun hr => ?_, h1⟩, ?_⟩
    · have k1 : k < ((rl (kd c) s left : Nat) : Int) := k1
      have := a3 k.toNat (by omega)
      rwa [show ((k.toNat : Nat) : Int) = k by omega] at this
    · refine a4 (Nat.lt_of_le_of_ne a2 fun e => hr ?_)
      rw [e, Nat.sub_self, rs_zero]
    · rw [lenS, h2]
      show ((rl (kd c) s left : Nat) : Int) + _ = _
      omega
theorem kd_sub (c : List Int) (x : Int) : kd c (x - c.length) = kd c x := by
  have := kd_add c (x - c.length)
  rw [show x - (c.length : Int) + c.length = x by omega] at this
  exact this.symm
theorem runsP_run {c : List Int} (h0 : 0 < c.length) : ∃ s, RunOk c s (runsP c) ∧ lenS (runsP c) = c.length ∧ (1 < (runsP c).length → kd c (s - 1) ≠ kd c s) := by
  obtain ⟨k1, k2, k3⟩ := bk_spec c
  unfold runsP
  by_cases h : bk c = c.length
  · rw [if_pos h]
    refine ⟨0, ⟨rfl, by simp, by show (1 : Int) ≤ (c.length : Int); omega, fun k k0 k1' => ?_, fun hr => absurd rfl hr, trivial⟩, by simp [lenS], fun hl => by simp at hl⟩
    have k1' : k < (c.length : Int) := k1'
    rw [Int.zero_add]
    by_cases e : k = 0
    · rw [e]
    · have := k2 ((c.length : Int) - k - 1).toNat (by omega)
      rw [show -((((c.length : Int) - k - 1).toNat : Nat) : Int) - 1 = k - c.length by omega, kd_sub] at this
      exact this
  · rw [if_neg h]
    obtain ⟨h1, h2⟩ := rs_run c c.length (-(bk c : Int))
    refine ⟨_, h1, h2, fun _ => ?_⟩
    have h3 := k3 (by omega)
    have h4 : kd c (-(bk c : Int)) = kd c 0 := by
      by_cases e : bk c = 0
      · rw [e]; rfl
      · have := k2 (bk c - 1) (by omega)
        rwa [show -(((bk c - 1 : Nat)) : Int) - 1 = -(bk c : Int) by omega] at this
    rw [h4]
    exact h3
structure RunAt (c : List Int) (s : Int) (L : List Ct) (i : Nat) (v : Ct) : Prop where
  kind : v.1 = kd c (s + lenS (L.take i))
  start : v.2.1 = (s + lenS (L.take i)) % c.length
  one : 1 ≤ v.2.2.1
  all : ∀ k : Int, 0 ≤ k → k < v.2.2.1 → kd c (s + lenS (L.take i) + k) = v.1
  next : i + 1 < L.length → kd c (s + lenS (L.take i) + v.2.2.1) ≠ v.1
theorem RunOk.at {c : List Int} : ∀ {L : List Ct} {s : Int} {i : Nat} {v : Ct}, RunOk c s L → L[i]? = some v → RunAt c s L i v
  | [], _, _, _, _, h => by simp at h
  | u :: r, s, 0, v, ⟨h1, h2, h3, h4, h5, _⟩, h => by
    simp at h
    subst h
    have e : s + lenS ((u :: r).take 0) = s := by simp [lenS]
    refine ⟨by rw [e]; exact h1, by rw [e]; exact h2, h3, by rw [e]; exact h4, fun hl => ?_⟩
    rw [e]
    exact h5 fun e => by rw [e] at hl; simp at hl
  | u :: r, s, i + 1, v, ⟨_, _, _, _, _, h6⟩, h => by
    simp at h
    have A := RunOk.at h6 h
    have e : s + lenS ((u :: r).take (i + 1)) = s + u.2.2.1 + lenS (r.take i) := by rw [List.take_succ_cons, lenS]; omega
    exact ⟨by rw [e]; exact A.kind, by rw [e]; exact A.start, A.one, by rw [e]; exact A.all, fun hl => by rw [e]; exact A.next (by simp at hl; omega)⟩
theorem lenS_nn {c : List Int} : ∀ {L : List Ct} {s : Int}, RunOk c s L → ∀ i, 0 ≤ lenS (L.take i) ∧ lenS (L.take i) ≤ lenS L
  | [], _, _, i => by simp [lenS]
  | u :: r, s, h, 0 => by
    have := (lenS_nn h.2.2.2.2.2 r.length).2
    have h2 := (lenS_nn h.2.2.2.2.2 r.length).1
    rw [List.take_length] at h2
    have := h.2.2.1
    simp only [List.take_zero, lenS]
    omega
  | u :: r, s, h, i + 1 => by
    have := lenS_nn h.2.2.2.2.2 i
    have := h.2.2.1
    rw [List.take_succ_cons, lenS, lenS]
    omega
theorem run_next {c : List Int} (h0 : 0 < c.length) {L : List Ct} {s : Int} (R : RunOk c s L) (hs : lenS L = c.length) (hk : 1 < L.length → kd c (s - 1) ≠ kd c s) {i : Nat} {v w : Ct} (hl : 1 < L.length) (hi : i < L.length) (hv : L[i]? = some v) (hw : L[(i + 1) % L.length]? = some w) : w.1 ≠ v.1 ∧ w.2.1 = (v.2.1 + v.2.2.1) % c.length := by
  have A := R.at hv
  have B := R.at hw
  have hlen : lenS (L.take (i + 1)) = lenS (L.take i) + v.2.2.1 := by rw [List.take_add_one, hv, Option.toList_some, lenS_snoc]
  by_cases h : i + 1 < L.length
  · rw [Nat.mod_eq_of_lt h] at B
    have e : s + lenS (L.take (i + 1)) = s + lenS (L.take i) + v.2.2.1 := by omega
    refine ⟨?_, ?_⟩
    · rw [B.kind, e]; exact A.next h
    · rw [B.start, A.start, e, Int.emod_add_emod]
  · have hi2 : i + 1 = L.length := by omega
    rw [hi2, Nat.mod_self] at B
    rw [hi2, List.take_length] at hlen
    have e0 : s + lenS (L.take 0) = s := by simp [lenS]
    have e1 : s + lenS (L.take i) + v.2.2.1 = s + c.length := by omega
    refine ⟨?_, ?_⟩
    · have h1 := A.all (v.2.2.1 - 1) (by have := A.one; omega) (by omega)
      rw [show s + lenS (L.take i) + (v.2.2.1 - 1) = s - 1 + c.length by omega, kd_add] at h1
      rw [B.kind, e0, ← h1]
      exact fun e => hk hl e.symm
    · rw [B.start, A.start, e0, Int.emod_add_emod, e1, Int.add_emod_right]
theorem kd_pos (c : List Int) (x : Int) : decide (cAt c (x + 1) - cAt c x > 0) = (kd c x == 1) := by
  unfold kd kdOf
  split
  · rename_i h; rw [decide_eq_true h]; rfl
  · rename_i h
    rw [decide_eq_false h]
    split <;> rfl
theorem kd_neg (c : List Int) (x : Int) : decide (cAt c (x + 1) - cAt c x < 0) = (kd c x == -1) := by
  unfold kd kdOf
  split
  · rename_i h; rw [decide_eq_false (by omega)]; rfl
  · split
    · rename_i h; rw [decide_eq_true h]; rfl
    · rename_i h; rw [decide_eq_false h]; rfl
end Go.Cams

/- Plans of cuts leave what a cutter leaves at best, in plain terms. -/
namespace Go.Cams
open Go Go.Fw
theorem la_spec (t : List Int) (above layer w : Int) : ∀ (s : Nat) {o p : List Ct}, la t above layer w s o = some p →
    (∀ v ∈ o, v ∈ p) ∧ (∀ v ∈ p, v ∈ o ∨ ∃ u : Nat, u < s ∧ g t u < above ∧ v = ((u : Int), max layer (g t u), w, ())) ∧ (∀ u : Nat, u < s → g t u < above → ((u : Int), max layer (g t u), w, ()) ∈ p)
  | 0, o, p, h => by
    simp only [la, Option.some.injEq] at h
    subst h
    exact ⟨fun _ h => h, fun _ h => .inl h, fun u hu => by omega⟩
  | s + 1, o, p, h => by
    simp only [la] at h
    cases hl : la t above layer w s o with
    | none => rw [hl] at h; cases h
    | some q =>
      obtain ⟨h1, h2, h3⟩ := la_spec t above layer w s hl
      rw [hl] at h
      simp only [Option.bind_some] at h
      split at h
      · rename_i hge
        cases h
        exact ⟨h1, fun v hv => (h2 v hv).imp id fun ⟨u, a, b⟩ => ⟨u, by omega, b⟩, fun u hu ha => by
          by_cases e : u = s
          · subst e; omega
          · exact h3 u (by omega) ha⟩
      · rename_i hlt
        split at h
        · cases h
        · cases h
          refine ⟨fun v hv => List.mem_append_left _ (h1 v hv), fun v hv => ?_, fun u hu ha => ?_⟩
          · rcases List.mem_append.1 hv with hv | hv
            · exact (h2 v hv).imp id fun ⟨u, a, b⟩ => ⟨u, by omega, b⟩
            · simp at hv
              exact .inr ⟨s, by omega, by omega, hv⟩
          · by_cases e : u = s
            · subst e; exact List.mem_append_right _ (by simp)
            · exact List.mem_append_left _ (h3 u (by omega) ha)
/-- A cut of a plan. -/
def PlCut (t : List Int) (B w : Int) (v : Ct) : Prop := ∃ u : Nat, u < t.length ∧ v.1 = (u : Int) ∧ g t u ≤ v.2.1 ∧ v.2.1 ≤ B ∧ v.2.2.1 = w
theorem pl_spec {t : List Int} {deep w B : Int} (hd : 1 ≤ deep) (hB : 0 ≤ B) (ht : ∀ v ∈ t, 0 ≤ v ∧ v ≤ B) : ∀ (f : Nat) {above : Int} {o L : List Ct}, above ≤ B → pl t deep w f above o = (L, 0, ()) → (∀ v ∈ o, PlCut t B w v) → (∀ u : Nat, u < t.length → above ≤ g t u → ((u : Int), g t u, w, ()) ∈ o) →
    (∀ v ∈ L, PlCut t B w v) ∧ ∀ u : Nat, u < t.length → ((u : Int), g t u, w, ()) ∈ L
  | 0, above, o, L, _, h, _, _ => by
    have h3 : (3 : Int) = 0 := congrArg (fun x => x.2.1) h
    omega
  | f + 1, above, o, L, ha, h, ho, hD => by
    unfold pl at h
    cases hl : la t above (max (above - deep) 0) w t.length o with
    | none =>
      rw [hl] at h
      have h3 : (3 : Int) = 0 := congrArg (fun x => x.2.1) h
      omega
    | some p =>
      obtain ⟨h1, h2, h3⟩ := la_spec t above _ w t.length hl
      rw [hl] at h
      simp only at h
      have hp : ∀ v ∈ p, PlCut t B w v := fun v hv => by
        rcases h2 v hv with h | ⟨u, a, b, rfl⟩
        · exact ho v h
        · have := ht _ (g_mem (l := t) (i := u) a)
          exact ⟨u, a, rfl, by show g t u ≤ max _ (g t u); omega, by show max _ (g t u) ≤ B; omega, rfl⟩
      have hD' : ∀ u : Nat, u < t.length → max (above - deep) 0 ≤ g t u → ((u : Int), g t u, w, ()) ∈ p := fun u hu hm => by
        by_cases hge : above ≤ g t u
        · exact h1 _ (hD u hu hge)
        · have := h3 u hu (by omega)
          rwa [show max (max (above - deep) 0) (g t u) = g t u by omega] at this
      split at h
      · rename_i hmn
        cases h
        refine ⟨hp, fun u hu => hD' u hu ?_⟩
        have := mnL_ge (g_mem (l := t) (i := u) hu)
        omega
      · exact pl_spec hd hB ht f (by omega) h hp hD'
theorem cutTo_none (k : List Int) (s tp : Int) {o : List Int} : ∀ i, 0 ≤ (cutTo k s tp o i).2 ∧ ((cutTo k s tp o i).2 = 0 → (cutTo k s tp o i).1 = o)
  | 0 => ⟨Int.le_refl _, fun _ => rfl⟩
  | i + 1 => by
    obtain ⟨h1, h2⟩ := cutTo_none k s tp (o := o) i
    unfold cutTo
    split
    · rename_i hgt
      simp only
      exact ⟨by omega, fun h => by omega⟩
    · exact ⟨h1, h2⟩
/-- Cuts of one cutter alone. -/
structure OneK (m : Nat) (L : List Ct) : Prop where
  l : (L.length : Int) ≤ 400
  el : ∀ v ∈ L, (0 ≤ v.1 ∧ v.1 < (m : Int)) ∧ (0 ≤ v.2.1 ∧ v.2.1 ≤ 10000) ∧ v.2.2.1 = 0
theorem OneK.rng {m : Nat} {L : List Ct} (h : OneK m L) (hm : m ≤ 360) : RngC L := ⟨by have := h.l; omega, fun v hv => by have := h.el v hv; omega⟩
theorem OneK.cuts {m : Nat} {L : List Ct} (h : OneK m L) (hm : m ≤ 360) {k : List Int} (hk : okK k = true) : okCuts L [k] = true := by
  have hr := h.rng hm
  simp only [okCuts, okCt, Bool.and_eq_true, inR_iff, decide_eq_true_eq, List.all_eq_true]
  refine ⟨⟨by simp, by simp [okKs, hk]⟩, h.l, fun v hv => ?_⟩
  have := h.el v hv
  simp only [ctOk, Bool.and_eq_true, inR_iff]
  rw [hr.i1 hv, hr.i2 hv, hr.i3 hv, wrap_id (by simp) (by simp)]
  simp only [List.length_cons, List.length_nil]
  omega
theorem OneK.on {m : Nat} {L : List Ct} (h : OneK m L) (hm : m ≤ 360) : onCt L (m : Int) = true := by
  have hr := h.rng hm
  simp only [onCt, List.all_eq_true]
  intro v hv
  have := h.el v hv
  rw [hr.i1 hv]
  simp
  omega
theorem OneK.code {c : List Int} {L : List Ct} (h : OneK c.length L) (ok : okC c = true) {k : List Int} (hk : okK k = true) : gvCode c [k] L = 0 := by
  have := okC_len ok
  unfold gvCode
  rw [if_pos ok, if_pos (h.cuts (by omega) hk), if_pos (h.on (by omega))]
theorem OneK.toL {m : Nat} {L : List Ct} (h : OneK m L) (m0 : 0 < m) (hm : m ≤ 360) {k : List Int} (hk : okK k = true) : GoodL m [k] L :=
  ⟨m0, by omega, by simp [okKs, hk], by simp, h.l, fun v hv => by have := h.el v hv; simp; omega⟩
theorem kOf_one {k : List Int} {v : Ct} (h : v.2.2.1 = 0) : kOf [k] v = k := by unfold kOf; rw [h]; rfl
theorem doF_el {m : Nat} {k : List Int} {o : List Int} (m0 : 0 < m) (ho : o.length = m) (p : Nat) (hp : p < m) : ∀ (L : List Ct), (∀ v ∈ L, v.2.2.1 = 0) →
    (doF [k] L o).1.length = m ∧ g (doF [k] L o).1 p ≤ g o p ∧ (∀ v ∈ L, ∀ j, j < k.length → place k v.1 m j = p → g (doF [k] L o).1 p ≤ v.2.1 + g k j) ∧ (g (doF [k] L o).1 p = g o p ∨ ∃ v ∈ L, ∃ j, j < k.length ∧ place k v.1 m j = p ∧ g (doF [k] L o).1 p = v.2.1 + g k j) := by
  intro L
  have key : ∀ n, ∀ L : List Ct, L.length = n → (∀ v ∈ L, v.2.2.1 = 0) →
    (doF [k] L o).1.length = m ∧ g (doF [k] L o).1 p ≤ g o p ∧ (∀ v ∈ L, ∀ j, j < k.length → place k v.1 m j = p → g (doF [k] L o).1 p ≤ v.2.1 + g k j) ∧ (g (doF [k] L o).1 p = g o p ∨ ∃ v ∈ L, ∃ j, j < k.length ∧ place k v.1 m j = p ∧ g (doF [k] L o).1 p = v.2.1 + g k j) := by
    intro n
    induction n with
    | zero =>
      intro L hL _
      have : L = [] := List.length_eq_zero_iff.1 hL
      subst this
      exact ⟨ho, Int.le_refl _, fun v hv => (by cases hv), .inl rfl⟩
    | succ n ih =>
      intro L hL h0
      obtain ⟨M, v, rfl⟩ := last_split (L := L) (by omega)
      obtain ⟨l1, h1, h2, h3⟩ := ih M (by simp at hL; omega) fun u hu => h0 u (by simp [hu])
      rw [doF_snoc]
      have hk : kOf [k] v = k := kOf_one (h0 v (by simp))
      unfold cut1
      rw [hk]
      obtain ⟨c1, c2, c3⟩ := cutTo_el k v.1 v.2.1 (o := (doF [k] M o).1) (by omega) p (by omega) k.length
      rw [l1] at c2 c3
      refine ⟨by rw [cutTo_len]; exact l1, by simp only; omega, fun u hu j hj hpj => ?_, ?_⟩
      · rcases List.mem_append.1 hu with hu | hu
        · have := h2 u hu j hj hpj
          simp only
          omega
        · simp at hu
          subst hu
          exact c2 j hj hpj
      · rcases c3 with c3 | ⟨j, a, b, d⟩
        · simp only [c3]
          exact h3.imp id fun ⟨u, hu, x⟩ => ⟨u, by simp [hu], x⟩
        · exact .inr ⟨v, by simp, j, a, b, d⟩
  exact key _ L rfl
theorem tip_top {c k : List Int} (hr : Rng c) (ok : okC c = true) (G : GoodK k) (s : Int) : 0 ≤ tip c k s ∧ tip c k s ≤ mxL c := by
  have hl := okC_len ok
  have hC := okC_el ok hr
  have hb := mxL_bd hr ok
  refine ⟨(tipTo_bd (by omega) hC G.el s k.length (Nat.le_refl _)).1, tipTo_le c k s hb.1 k.length fun u hu => ?_⟩
  have h1 : cAt c (s + u - half k) ≤ mxL c := (mxF_ge c _).2 _ (cAt_mem (by omega) _)
  have := (G.el u hu).1
  omega
/-- What a plan makes of a flat blank. -/
theorem plan_left {c k : List Int} (hr : Rng c) (ok : okC c = true) (G : GoodK k) {high : Int} (hh : mxL c < high) (h1 : high ≤ 10000) {L : List Ct} (hL : ∀ v ∈ L, PlCut (tipsL c k c.length) high 0 v) (hT : ∀ u : Nat, u < c.length → ((u : Int), g (tipsL c k c.length) u, 0, ()) ∈ L) :
    (doF [k] L (List.replicate c.length high)).1 = leftL c k := by
  have hl := okC_len ok
  have hC := okC_el ok hr
  have h0 : 0 < c.length := by omega
  have hfl : (List.replicate c.length high).length = c.length := by simp
  have hz : ∀ v ∈ L, v.2.2.1 = 0 := fun v hv => by obtain ⟨u, _, _, _, _, e⟩ := hL v hv; exact e
  have hlen := (doF_el (k := k) (o := List.replicate c.length high) h0 hfl 0 h0 L hz).1
  apply List.ext_getElem?
  intro p
  by_cases hp : p < c.length
  · obtain ⟨_, a1, a2, a3⟩ := doF_el (k := k) (o := List.replicate c.length high) h0 hfl p hp L hz
    obtain ⟨b1, b2, b3⟩ := leftTo_el k h0 p hp c.length
    rw [g_flat _ _ hp] at a1 a3
    have hlp : g (leftTo c k c.length) p ≤ tip c k (p : Nat) := by
      rw [left_eq h0 hC G p hp]
      exact (lfTo_el c k (p : Nat) k.length).1
    have htp := tip_top hr ok G (p : Nat)
    have e : g (doF [k] L (List.replicate c.length high)).1 p = g (leftTo c k c.length) p := by
      apply Int.le_antisymm
      · rcases b3 with b3 | ⟨u, j, hu, hj, hpl, b3⟩
        · omega
        · have := a2 _ (hT u hu) j hj hpl
          rw [g_tips c k hu] at this
          rw [b3]; exact this
      · rcases a3 with a3 | ⟨v, hv, j, hj, hpl, a3⟩
        · omega
        · obtain ⟨u, hu, e1, e2, _, _⟩ := hL v hv
          rw [tipsL_len] at hu
          rw [e1] at hpl
          have := b2 u hu j hj hpl
          rw [g_tips c k hu] at e2
          omega
    unfold leftL
    have l2 := leftTo_len c k c.length
    unfold g at e
    rw [List.getD_eq_getElem?_getD, List.getD_eq_getElem?_getD, List.getElem?_eq_getElem (by omega), List.getElem?_eq_getElem (by omega)] at e
    rw [List.getElem?_eq_getElem (by omega), List.getElem?_eq_getElem (by omega)]
    simpa using e
  · rw [List.getElem?_eq_none (by omega), List.getElem?_eq_none (by rw [leftL_len]; omega)]
theorem left_low {c k : List Int} (hr : Rng c) (ok : okC c = true) (G : GoodK k) {p : Nat} (hp : p < c.length) : g (leftL c k) p ≤ mxL c := by
  have hC := okC_el ok hr
  have h1 := leftL_g (by omega) hC G hp
  have h2 := (lfTo_el c k (p : Nat) k.length).1
  have h3 := tip_top hr ok G (p : Nat)
  unfold lf at h1
  omega
theorem notOver_self (l : List Int) : notOver l l = true := by
  unfold notOver
  rw [allTo_iff]
  intro i _
  simp
theorem fi_none {α : Type} {p : α → Bool} {l : List α} (h : ∀ v ∈ l, p v = false) : fi p l 0 < 0 := by
  have := fi_any p l 0 (Int.le_refl _)
  rw [List.any_eq_false.2 fun v hv => by simp [h v hv]] at this
  have := of_decide_eq_false this
  omega
/-! ### Cuts without those that take nothing -/
def shTo (H : List Int) (L : List Ct) : Nat → List Ct
  | 0 => []
  | i + 1 => if H.any (fun v => v == (i : Int)) = true then shTo H L i else match L[i]? with | some v => shTo H L i ++ [v] | none => shTo H L i
theorem shTo_sub (H : List Int) (L : List Ct) : ∀ i, (shTo H L i).length ≤ i ∧ ∀ v ∈ shTo H L i, v ∈ L
  | 0 => ⟨Nat.le_refl _, fun v hv => (by cases hv)⟩
  | i + 1 => by
    obtain ⟨h1, h2⟩ := shTo_sub H L i
    unfold shTo
    split
    · exact ⟨by omega, h2⟩
    · split
      · rename_i v hv
        refine ⟨by simp; omega, fun u hu => ?_⟩
        rcases List.mem_append.1 hu with hu | hu
        · exact h2 u hu
        · simp at hu; rw [hu]; exact List.mem_of_getElem? hv
      · exact ⟨by omega, h2⟩
theorem idF_do (K : List (List Int)) (o : List Int) : ∀ (l : List Ct), (idF K l o).1 = (doF K l o).1 := by
  intro l
  have key : ∀ n, ∀ l : List Ct, l.length = n → (idF K l o).1 = (doF K l o).1 := by
    intro n
    induction n with
    | zero =>
      intro l hl
      have : l = [] := List.length_eq_zero_iff.1 hl
      subst this; rfl
    | succ n ih =>
      intro l hl
      obtain ⟨M, v, rfl⟩ := last_split (L := l) (by omega)
      rw [idF_snoc, doF_snoc]
      unfold idS
      rw [ih M (by simp at hl; omega)]
  exact key _ l rfl
theorem idF_cnt (K : List (List Int)) (o : List Int) (L : List Ct) : ∀ i, i ≤ L.length → (idF K (L.take i) o).2.2 = (i : Int) ∧ ∀ v ∈ (idF K (L.take i) o).2.1, v < (i : Int)
  | 0, _ => by simp [idF]
  | i + 1, h => by
    obtain ⟨h1, h2⟩ := idF_cnt K o L i (by omega)
    have e : L.take (i + 1) = L.take i ++ [L[i]] := by rw [List.take_add_one, List.getElem?_eq_getElem (by omega)]; rfl
    rw [e, idF_snoc]
    unfold idS
    simp only
    refine ⟨by omega, fun v hv => ?_⟩
    split at hv
    · rcases List.mem_append.1 hv with hv | hv
      · have := h2 v hv; omega
      · simp at hv; omega
    · have := h2 v hv; omega
theorem idF_has (K : List (List Int)) (o : List Int) (L : List Ct) {i : Nat} {v : Ct} (hv : L[i]? = some v) : ∀ m, i < m → m ≤ L.length → (idF K (L.take m) o).2.1.any (fun u => u == (i : Int)) = decide ((cut1 K v (doF K (L.take i) o).1).2 = 0)
  | 0, h, _ => by omega
  | m + 1, h, hm => by
    have e : L.take (m + 1) = L.take m ++ [L[m]] := by rw [List.take_add_one, List.getElem?_eq_getElem (by omega)]; rfl
    obtain ⟨h1, h2⟩ := idF_cnt K o L m (by omega)
    rw [e, idF_snoc]
    unfold idS
    simp only
    by_cases him : i = m
    · subst him
      have ev : L[i] = v := by rw [List.getElem?_eq_getElem (by omega)] at hv; exact Option.some.inj hv
      have hno : (idF K (L.take i) o).2.1.any (fun u => u == (i : Int)) = false := List.any_eq_false.2 fun u hu => by have := h2 u hu; simp; omega
      rw [ev, idF_do]
      split
      · rename_i hz
        rw [List.any_append, hno, h1, decide_eq_true hz]
        simp
      · rename_i hz
        rw [hno, decide_eq_false hz]
    · have ih := idF_has K o L hv m (by omega) (by omega)
      split
      · rw [List.any_append, ih, h1]
        have : (([(m : Int)] : List Int).any fun u => u == (i : Int)) = false := by simp; omega
        rw [this, Bool.or_false]
      · exact ih
theorem sh_do {K : List (List Int)} {o : List Int} {L : List Ct} : ∀ i, i ≤ L.length → (doF K (shTo (idF K L o).2.1 L i) o).1 = (doF K (L.take i) o).1
  | 0, _ => rfl
  | i + 1, h => by
    have ih := sh_do (K := K) (o := o) (L := L) i (by omega)
    have hv : L[i]? = some L[i] := List.getElem?_eq_getElem (by omega)
    have hh := idF_has K o L hv L.length (by omega) (Nat.le_refl _)
    rw [List.take_length] at hh
    have e : L.take (i + 1) = L.take i ++ [L[i]] := by rw [List.take_add_one, hv]; rfl
    rw [e, doF_snoc]
    unfold shTo
    rw [hh]
    by_cases hz : (cut1 K L[i] (doF K (L.take i) o).1).2 = 0
    · rw [decide_eq_true hz, if_pos rfl, ih]
      unfold cut1 at hz ⊢
      exact ((cutTo_none _ _ _ _).2 hz).symm
    · rw [decide_eq_false hz, if_neg (by decide), hv]
      simp only
      rw [doF_snoc, ih]
end Go.Cams

/- Fillings keep within their bounds, least bounds are least, and what is reached proves it, in plain terms. -/
namespace Go.Cams
open Go Go.Fw
theorem bs_spec {P : Int → Bool} : ∀ (n : Nat) (lo hi : Int), (hi - lo).toNat ≤ n → lo ≤ hi → (∀ a b, lo ≤ a → a ≤ b → b ≤ hi → P a = true → P b = true) → P hi = true → (∀ b, lo ≤ b → b < bs P n lo hi → P b = false) ∧ P (bs P n lo hi) = true
  | 0, lo, hi, h, hl, _, ht => by
    unfold bs
    have : lo = hi := by omega
    subst this
    exact ⟨fun b h1 h2 => by omega, ht⟩
  | n + 1, lo, hi, h, hl, hm, ht => by
    unfold bs
    by_cases hlt : lo < hi
    · rw [if_pos hlt]
      by_cases hp : P ((lo + hi) / 2) = true
      · rw [if_pos hp]
        exact bs_spec n lo ((lo + hi) / 2) (by omega) (by omega) (fun a b h1 h2 h3 => hm a b h1 h2 (by omega)) hp
      · rw [if_neg hp]
        obtain ⟨h1, h2⟩ := bs_spec n ((lo + hi) / 2 + 1) hi (by omega) (by omega) (fun a b h1 h2 h3 => hm a b (by omega) h2 h3) ht
        refine ⟨fun b b0 b1 => ?_, h2⟩
        by_cases hb : (lo + hi) / 2 + 1 ≤ b
        · exact h1 b hb b1
        · cases e : P b with
          | false => rfl
          | true => exact absurd (hm b _ b0 (by omega) (by omega) e) hp
    · rw [if_neg hlt]
      have : lo = hi := by omega
      subst this
      exact ⟨fun b h1 h2 => by omega, ht⟩
theorem can_mono {q q' : Nat → Nat → Nat → Nat → Bool} (H : ∀ k x y z, q k x y z = true → q' k x y z = true) : ∀ d k x y, can q d k x y = true → can q' d k x y = true
  | 0, _, _, _, _ => rfl
  | d + 1, k, x, y, h => by
    simp only [can] at h ⊢
    obtain ⟨z, hz, h⟩ := any64.1 h
    simp only [Bool.and_eq_true] at h
    exact any64.2 ⟨z, hz, by simp [H _ _ _ _ h.1, can_mono H d (k + 1) y z h.2]⟩
theorem cq_mono {c : List Int} {f m lo a b : Int} (h : a ≤ b) (hc : cq c f m lo a = true) : cq c f m lo b = true :=
  can_mono (fun k x y z hq => by
    unfold qq sp at hq ⊢
    simp only [Bool.and_eq_true, decide_eq_true_eq] at hq ⊢
    exact ⟨⟨by omega, by omega⟩, hq.2⟩) _ _ _ _ hc
theorem can_seq {q : Nat → Nat → Nat → Nat → Bool} (H : Nat → Nat) : ∀ d k, (∀ j, k ≤ j → j < k + d → H (j + 2) < 64 ∧ q j (H j) (H (j + 1)) (H (j + 2)) = true) → can q d k (H k) (H (k + 1)) = true
  | 0, _, _ => rfl
  | d + 1, k, h => by
    simp only [can]
    have h1 := h k (Nat.le_refl _) (by omega)
    have h2 := can_seq H d (k + 1) fun j h3 h4 => h j (by omega) (by omega)
    exact any64.2 ⟨H (k + 2), h1.1, by simp [h1.2, h2]⟩
/-- The heights of a cam from two steps ahead of a stretch on. -/
def hN (c : List Int) (f lo : Int) (j : Nat) : Nat := (hgt c lo (f - 2 + j)).toNat
theorem cq_own {c : List Int} {f m lo b B : Int} (G : GoodS c f m lo B) (hh : ∀ x, 0 ≤ hgt c lo x ∧ hgt c lo x ≤ 63) (hb : ∀ k : Nat, (k : Int) < m + 2 → -b ≤ bendP c (f + (k : Nat) - 1) ∧ bendP c (f + (k : Nat) - 1) ≤ b) : cq c f m lo b = true := by
  have hm := G.hm
  have := can_seq (q := qq c f m lo b) (hN c f lo) (m.toNat + 2) 0 fun j _ hj => by
    have e : ∀ j : Nat, ((hN c f lo j : Nat) : Int) = hgt c lo (f - 2 + j) := fun j => by have := hh (f - 2 + j); unfold hN; omega
    have h0 := hh (f - 2 + ((j + 2 : Nat) : Int))
    have h1 := hb j (by omega)
    refine ⟨by unfold hN; omega, ?_⟩
    unfold qq sp al
    rw [Bool.and_eq_true, Bool.or_eq_true, decide_eq_true_iff, decide_eq_true_iff, decide_eq_true_iff, e, e, e]
    have e1 : f - 2 + ((j + 2 : Nat) : Int) = f + (j : Nat) - 1 + 1 := by omega
    have e2 : f - 2 + ((j + 1 : Nat) : Int) = f + (j : Nat) - 1 := by omega
    have e3 : f - 2 + ((j : Nat) : Int) = f + (j : Nat) - 1 - 1 := by omega
    rw [e1, e2, e3]
    unfold bendP at h1
    unfold hgt
    refine ⟨by omega, .inr ?_⟩
    rw [show f + ((j : Nat) : Int) - 1 + 1 = f + (j : Nat) by omega]
  unfold cq px py
  have e0 : hN c f lo 0 = (hgt c lo (f - 2)).toNat := by unfold hN; rw [show f - 2 + ((0 : Nat) : Int) = f - 2 by omega]
  have e1 : hN c f lo 1 = (hgt c lo (f - 1)).toNat := by unfold hN; rw [show f - 2 + ((1 : Nat) : Int) = f - 1 by omega]
  rw [e0, e1] at this
  exact this
theorem cq_top {c : List Int} {f m lo B : Int} (G : GoodS c f m lo B) : cq c f m lo 128 = true := by
  have hm := G.hm
  have hp := G.px
  have hq := G.py
  have h3 := G.h3
  have h4 := G.h4
  have := can_seq (q := qq c f m lo 128) (fun j => if j = 0 then px c f lo else if j = 1 then py c f lo else if ((j : Nat) : Int) = m + 2 then (hgt c lo (f + m)).toNat else if ((j : Nat) : Int) = m + 3 then (hgt c lo (f + m + 1)).toNat else 0) (m.toNat + 2) 0 fun j _ hj => by
    have hb : ∀ j : Nat, (if j = 0 then px c f lo else if j = 1 then py c f lo else if ((j : Nat) : Int) = m + 2 then (hgt c lo (f + m)).toNat else if ((j : Nat) : Int) = m + 3 then (hgt c lo (f + m + 1)).toNat else 0) < 64 := fun j => by
      split
      · exact hp.2
      split
      · exact hq.2
      split
      · omega
      split
      · omega
      · omega
    refine ⟨hb _, ?_⟩
    have b1 := hb j
    have b2 := hb (j + 1)
    have b3 := hb (j + 2)
    unfold qq sp al
    rw [Bool.and_eq_true, Bool.or_eq_true, decide_eq_true_iff, decide_eq_true_iff, decide_eq_true_iff]
    refine ⟨by omega, ?_⟩
    by_cases hjm : (j : Int) < m
    · exact .inl hjm
    · right
      rw [if_neg (by omega), if_neg (by omega)]
      by_cases e : (((j + 2 : Nat)) : Int) = m + 2
      · rw [if_pos e, show (j : Int) = m by omega]; omega
      · rw [if_neg e, if_pos (by omega), show f + (j : Int) = f + m + 1 by omega]; omega
  exact this
theorem lbV_spec {c : List Int} {f m lo B : Int} (G : GoodS c f m lo B) : (∀ b, 0 ≤ b → b < lbV c f m lo → cq c f m lo b = false) ∧ cq c f m lo (lbV c f m lo) = true :=
  bs_spec (P := fun b => cq c f m lo b) 128 0 128 (by decide) (by omega) (fun _ _ _ h _ => cq_mono h) (cq_top G)
/-! ### What a filling is -/
def FilOk (q : Nat → Nat → Nat → Nat → Bool) (lo : Int) (M : Nat) : Nat → Nat → Nat → List Int → Prop
  | k, x, y, [] => x < 64 ∧ y < 64 ∧ can q (M - k) k x y = true
  | k, x, y, v :: r => ∃ z : Nat, z < 64 ∧ v = lo + z ∧ q k x y z = true ∧ FilOk q lo M (k + 1) y z r
theorem fil_ok {q : Nat → Nat → Nat → Nat → Bool} {lo : Int} {M : Nat} : ∀ (d k x y : Nat), x < 64 → y < 64 → d + k ≤ M → can q (M - k) k x y = true → FilOk q lo M k x y (fil q lo M d k x y)
  | 0, k, x, y, hx, hy, _, h => ⟨hx, hy, h⟩
  | d + 1, k, x, y, hx, hy, hM, h => by
    rw [show M - k = (M - (k + 1)) + 1 by omega] at h
    obtain ⟨z1, z2, _⟩ := fstZ_some (p := fun z => q k x y z && can q (M - (k + 1)) (k + 1) y z) h
    simp only [Bool.and_eq_true] at z2
    exact ⟨_, z1, rfl, z2.1, fil_ok d (k + 1) y _ hy z1 (by omega) z2.2⟩
theorem filOk_seq {c : List Int} {f m b lo : Int} {M : Nat} : ∀ (l : List Int) (k x y : Nat), FilOk (qq c f m lo b) lo M k x y l → ∀ H : Nat → Int, H k = x → H (k + 1) = y → (∀ (i : Nat) v, l[i]? = some v → H (k + 2 + i) = v - lo) →
    (∀ i : Nat, i < l.length → -b ≤ H (k + i + 2) - 2 * H (k + i + 1) + H (k + i) ∧ H (k + i + 2) - 2 * H (k + i + 1) + H (k + i) ≤ b) ∧ ∃ x' y' : Nat, x' < 64 ∧ y' < 64 ∧ H (k + l.length) = x' ∧ H (k + l.length + 1) = y' ∧ can (qq c f m lo b) (M - (k + l.length)) (k + l.length) x' y' = true
  | [], k, x, y, ⟨hx, hy, h⟩, H, h0, h1, _ => ⟨fun i hi => (by cases hi), x, y, hx, hy, h0, h1, h⟩
  | v :: r, k, x, y, ⟨z, hz, ev, hq, h⟩, H, h0, h1, hl => by
    have hv := hl 0 v rfl
    have hH2 : H (k + 1 + 1) = (z : Int) := by rw [show k + 1 + 1 = k + 2 + 0 by omega, hv, ev]; omega
    obtain ⟨a, x', y', b1, b2, b3, b4, b5⟩ := filOk_seq r (k + 1) y z h H h1 hH2 fun i u hu => by
      have := hl (i + 1) u (by simpa using hu)
      rwa [show k + 2 + (i + 1) = k + 1 + 2 + i by omega] at this
    refine ⟨fun i hi => ?_, x', y', b1, b2, ?_, ?_, ?_⟩
    · cases i with
      | zero =>
        unfold qq sp at hq
        simp only [Bool.and_eq_true, decide_eq_true_eq] at hq
        rw [show k + 0 + 2 = k + 1 + 1 by omega, show k + 0 + 1 = k + 1 by omega, show k + 0 = k by omega, hH2, h1, h0]
        omega
      | succ i =>
        have := a i (by simp at hi; omega)
        rw [show k + 1 + i + 2 = k + (i + 1) + 2 by omega, show k + 1 + i + 1 = k + (i + 1) + 1 by omega, show k + 1 + i = k + (i + 1) by omega] at this
        exact this
    · rw [List.length_cons, show k + (r.length + 1) = k + 1 + r.length by omega]; exact b3
    · rw [List.length_cons, show k + (r.length + 1) + 1 = k + 1 + r.length + 1 by omega]; exact b4
    · rw [List.length_cons, show k + (r.length + 1) = k + 1 + r.length by omega]; exact b5
/-- Elements of a cam into which lifts are put. -/
theorem putP_at {c : List Int} (h0 : 0 < c.length) (f : Int) : ∀ (n : Nat) (l : List Int), l.length = n → n ≤ c.length → ∀ j : Nat, j < c.length → cAt (putP c f l) (f + j) = match l[j]? with | some v => wr .i16 v | none => cAt c (f + j)
  | 0, l, hl, _, j, hj => by
    have : l = [] := List.length_eq_zero_iff.1 hl
    subst this
    simp [putP]
  | n + 1, l, hl, hn, j, hj => by
    obtain ⟨M, v, rfl⟩ : ∃ M v, l = M ++ [v] := ⟨l.dropLast, l.getLast (by intro e; rw [e] at hl; simp at hl), (List.dropLast_concat_getLast _).symm⟩
    have hM : M.length = n := by simp at hl; omega
    have ih := putP_at h0 f n M hM (by omega) j hj
    have lP := putP_len M c f
    rw [putP_snoc]
    have ep : ∀ x : Int, 0 ≤ x % (c.length : Int) ∧ x % (c.length : Int) < (c.length : Int) := fun x => ⟨Int.emod_nonneg _ (by omega), Int.emod_lt_of_pos _ (by omega)⟩
    have p1 := ep (f + j)
    have p2 := ep (f + M.length)
    unfold cAt at ih ⊢
    rw [List.length_set, lP, g_set]
    rw [lP] at ih
    by_cases hjn : j = n
    · subst hjn
      rw [hM]
      rw [if_pos ⟨rfl, by omega⟩, List.getElem?_append_right (by omega), hM]
      simp
    · have hne : ¬ ((f + (M.length : Int)) % (c.length : Int)).toNat = ((f + (j : Int)) % (c.length : Int)).toNat := fun e => by
        have e2 : (f + (M.length : Int)) % (c.length : Int) = (f + (j : Int)) % (c.length : Int) := by omega
        have h5 := Int.emod_emod_of_dvd ((f + (M.length : Int)) - (f + (j : Int))) (Int.dvd_refl (c.length : Int))
        have h6 : ((f + (M.length : Int)) - (f + (j : Int))) % (c.length : Int) = 0 := Int.emod_eq_emod_iff_emod_sub_eq_zero.1 e2
        have h7 : (c.length : Int) ∣ ((f + (M.length : Int)) - (f + (j : Int))) := Int.dvd_of_emod_eq_zero h6
        obtain ⟨t, ht⟩ := h7
        have h8 : (f + (M.length : Int)) - (f + (j : Int)) = (n : Int) - (j : Int) := by omega
        rw [h8] at ht
        rcases (show t = 0 ∨ t ≥ 1 ∨ t ≤ -1 by omega) with h9 | h9 | h9
        · rw [h9, Int.mul_zero] at ht; omega
        · have := Int.mul_le_mul_of_nonneg_left h9 (show (0 : Int) ≤ c.length by omega)
          omega
        · have := Int.mul_le_mul_of_nonneg_left h9 (show (0 : Int) ≤ c.length by omega)
          omega
      rw [if_neg (fun e => hne e.1), ih]
      by_cases hjlt : j < n
      · rw [List.getElem?_append_left (by omega)]
      · rw [List.getElem?_eq_none (by omega), List.getElem?_eq_none (by simp; omega)]
theorem putP_in {c : List Int} (h0 : 0 < c.length) (f : Int) {l : List Int} (hl : l.length ≤ c.length) {j : Nat} {v : Int} (hv : l[j]? = some v) : cAt (putP c f l) (f + j) = wr .i16 v := by
  have hj := (List.getElem?_eq_some_iff.1 hv).1
  rw [putP_at h0 f l.length l rfl hl j (by omega), hv]
theorem putP_out {c : List Int} (h0 : 0 < c.length) (f : Int) {l : List Int} {j : Nat} (hj : l.length ≤ j) (hj2 : j < c.length) : cAt (putP c f l) (f + j) = cAt c (f + j) := by
  rw [putP_at h0 f l.length l rfl (by omega) j hj2, List.getElem?_eq_none hj]
theorem putP_ahead {c : List Int} (h0 : 0 < c.length) (f : Int) {l : List Int} {d : Nat} (d0 : 0 < d) (hd : l.length + d ≤ c.length) : cAt (putP c f l) (f - d) = cAt c (f - d) := by
  have := putP_out h0 f (l := l) (j := c.length - d) (by omega) (by omega)
  have e : f + ((c.length - d : Nat) : Int) = f - d + c.length := by omega
  have lP := putP_len l c f
  rw [e, cAt_add] at this
  have h2 := cAt_add (putP c f l) (f - d)
  rw [lP] at h2
  rw [h2] at this
  exact this
/-- A filling keeps within its bound. -/
theorem fill_bends {c : List Int} {f m b lo : Int} (G : GoodS c f m lo b) (hc : cq c f m lo b = true) (k : Nat) (hk : (k : Int) < m + 2) : siz (bendP (putP c f (filP c f m lo b)) (f + (k : Nat) - 1)) ≤ b := by
  have hm := G.hm
  have hm2 := G.hm2
  have hl := G.len
  have hlo := G.hlo
  have h0 : 0 < c.length := by omega
  obtain ⟨l, el⟩ : ∃ l, l = filP c f m lo b := ⟨_, rfl⟩
  have ll : l.length = m.toNat := by rw [el]; unfold filP; exact fil_len _ _ _ _ _ _ _
  have hel := filP_el hc
  have hok : FilOk (qq c f m lo b) lo (m.toNat + 2) 0 (px c f lo) (py c f lo) l := by
    rw [el]; exact fil_ok _ _ _ _ G.px.2 G.py.2 (by omega) hc
  rw [← el] at hel ⊢
  have hw : ∀ v ∈ l, wr .i16 v = v := fun v hv => by have := hel v hv; exact wrap16 (by omega) (by omega)
  obtain ⟨H, eH⟩ : ∃ H : Nat → Int, ∀ j, H j = hgt (putP c f l) lo (f - 2 + (j : Nat)) := ⟨fun j => hgt (putP c f l) lo (f - 2 + (j : Nat)), fun _ => rfl⟩
  have a0 : H 0 = px c f lo := by
    rw [eH, ← G.px.1]
    unfold hgt
    have := putP_ahead h0 f (l := l) (d := 2) (by omega) (by omega)
    rw [show f - 2 + ((0 : Nat) : Int) = f - ((2 : Nat) : Int) by omega, this]
    rfl
  have a1 : H 1 = py c f lo := by
    rw [eH, ← G.py.1]
    unfold hgt
    have := putP_ahead h0 f (l := l) (d := 1) (by omega) (by omega)
    rw [show f - 2 + ((1 : Nat) : Int) = f - ((1 : Nat) : Int) by omega, this]
    rfl
  obtain ⟨s1, x', y', x1, y1, e1, e2, hcan⟩ := filOk_seq l 0 _ _ hok H a0 a1 fun i v hv => by
    rw [eH, show f - 2 + ((0 + 2 + i : Nat) : Int) = f + (i : Nat) by omega]
    unfold hgt
    rw [putP_in h0 f (by omega) hv, hw v (List.mem_of_getElem? hv)]
  rw [Nat.zero_add] at e1 e2 hcan
  have hend : ∀ j : Nat, m.toNat ≤ j → j ≤ m.toNat + 1 → H (j + 2) = hgt c lo (f + (j : Nat)) := fun j h1 h2 => by
    rw [eH, show f - 2 + ((j + 2 : Nat) : Int) = f + (j : Nat) by omega]
    unfold hgt
    rw [putP_out h0 f (by omega) (by omega)]
  rw [ll, show m.toNat + 2 - m.toNat = 1 + 1 by omega] at hcan
  simp only [can] at hcan
  obtain ⟨z, hz, hcan⟩ := any64.1 hcan
  simp only [Bool.and_eq_true] at hcan
  obtain ⟨hq1, hcan⟩ := hcan
  obtain ⟨w, hw2, hcan⟩ := any64.1 hcan
  simp only [Bool.and_true] at hcan
  unfold qq sp al at hq1 hcan
  simp only [Bool.and_eq_true, Bool.or_eq_true, decide_eq_true_eq] at hq1 hcan
  have z1 := hend m.toNat (by omega) (by omega)
  have z2 := hend (m.toNat + 1) (by omega) (by omega)
  have hz' : (z : Int) = hgt c lo (f + (m.toNat : Nat)) := hq1.2.resolve_left (by omega)
  have hw' : (w : Int) = hgt c lo (f + ((m.toNat + 1 : Nat) : Int)) := hcan.2.resolve_left (by omega)
  rw [ll] at e1 e2 s1
  have hbend : bendP (putP c f l) (f + (k : Nat) - 1) = H (k + 2) - 2 * H (k + 1) + H k := by
    rw [eH, eH, eH]
    unfold bendP hgt
    rw [show f - 2 + ((k + 2 : Nat) : Int) = f + (k : Nat) - 1 + 1 by omega, show f - 2 + ((k + 1 : Nat) : Int) = f + (k : Nat) - 1 by omega, show f - 2 + ((k : Nat) : Int) = f + (k : Nat) - 1 - 1 by omega]
    omega
  rw [hbend]
  have hb := G.hb
  refine siz_le ?_ ?_ <;>
  · rcases (show k < m.toNat ∨ k = m.toNat ∨ k = m.toNat + 1 by omega) with h | h | h
    · have := s1 k h
      rw [Nat.zero_add] at this
      omega
    · subst h
      omega
    · subst h
      rw [show m.toNat + 1 + 2 = m.toNat + 1 + 2 from rfl, show m.toNat + 1 + 1 = m.toNat + 2 by omega]
      omega
/-- The lifts that a stretch has itself. -/
def ownL (c : List Int) (f : Int) (n : Nat) : List Int := tb n fun i => cAt c (f + (i : Nat))
theorem put_own {c : List Int} (hr : Rng c) (h0 : 0 < c.length) {f : Int} {n : Nat} (hn : n ≤ c.length) : putP c f (ownL c f n) = c := by
  have ll : (ownL c f n).length = n := tb_len _ _
  have key : ∀ j : Nat, j < c.length → cAt (putP c f (ownL c f n)) (f + j) = cAt c (f + j) := fun j hj => by
    by_cases h : j < n
    · have hg : (ownL c f n)[j]? = some (cAt c (f + (j : Nat))) := tb_get h
      rw [putP_in h0 f (by omega) hg]
      have := hr.el _ (cAt_mem h0 (f + (j : Nat)))
      exact wrap16 (by omega) (by omega)
    · exact putP_out h0 f (by omega) hj
  have lP := putP_len (ownL c f n) c f
  refine cAt_ext lP fun i hi => ?_
  have hj := key (((i : Int) - f) % c.length).toNat (by
    have := Int.emod_lt_of_pos ((i : Int) - f) (show (0 : Int) < c.length by omega)
    have := Int.emod_nonneg ((i : Int) - f) (show (c.length : Int) ≠ 0 by omega)
    omega)
  have e0 := Int.emod_nonneg ((i : Int) - f) (show (c.length : Int) ≠ 0 by omega)
  have e1 := Int.emod_add_mul_ediv ((i : Int) - f) (c.length : Int)
  have e2 : f + (((((i : Int) - f) % c.length).toNat : Nat) : Int) + (c.length : Int) * (((i : Int) - f) / (c.length : Int)) = (i : Int) := by omega
  have m1 := cAt_mul c (f + (((((i : Int) - f) % c.length).toNat : Nat) : Int)) (((i : Int) - f) / (c.length : Int))
  have m2 := cAt_mul (putP c f (ownL c f n)) (f + (((((i : Int) - f) % c.length).toNat : Nat) : Int)) (((i : Int) - f) / (c.length : Int))
  rw [lP] at m2
  rw [e2] at m1 m2
  rw [m1, m2]
  exact hj
/-! ### What is reached -/
theorem reach_end {c : List Int} {f m b lo : Int} (G : GoodS c f m lo b) : (gR (fwd (qq c f m lo b) (px c f lo) (py c f lo) (m.toNat + 2)) = List.replicate 64 (0 : Int)) ↔ cq c f m lo b = false := by
  have h := fwd_can (q := qq c f m lo b) G.px.2 G.py.2 (m.toNat + 2) (m.toNat + 2) (Nat.le_refl _)
  rw [gR_ne_zero]
  constructor
  · intro h0
    cases e : cq c f m lo b with
    | false => rfl
    | true =>
      obtain ⟨x, y, hx, hy, h1, _⟩ := h.2 e
      rw [h0 x y hx hy] at h1
      cases h1
  · intro hc x y hx hy
    cases e : fwd (qq c f m lo b) (px c f lo) (py c f lo) (m.toNat + 2) x y with
    | false => rfl
    | true =>
      have := h.1 ⟨x, y, hx, hy, e, by rw [Nat.sub_self]; rfl⟩
      unfold cq at hc
      rw [hc] at this
      cases this
/-- Pairs to which those ahead of x, y lead. -/
def lg2 (F : Nat → Nat → Bool) (S : Nat → Nat → Nat → Bool) (x y : Nat) : List Int := gR fun y' z => (List.range 64).any fun x' => (decide (x' < x) || (x' == x && decide (y' < y))) && F x' y' && S x' y' z
theorem lg2_zero (F : Nat → Nat → Bool) (S : Nat → Nat → Nat → Bool) : lg2 F S 0 0 = List.replicate 64 (0 : Int) := by
  rw [gR_zero]
  exact gR_ext fun y z _ _ => List.any_eq_false.2 fun x' _ => by simp
theorem lg2_next (F : Nat → Nat → Bool) (S : Nat → Nat → Nat → Bool) (x : Nat) : lg2 F S x 64 = lg2 F S (x + 1) 0 := gR_ext fun y z hy _ => by
  congr 1
  funext x'
  congr 2
  rw [Bool.eq_iff_iff]
  simp
  omega
theorem lg2_full (F : Nat → Nat → Bool) (S : Nat → Nat → Nat → Bool) : lg2 F S 64 0 = gR fun y z => (List.range 64).any fun x' => F x' y && S x' y z := gR_ext fun y z _ _ => by
  rw [Bool.eq_iff_iff, any64, any64]
  constructor
  · rintro ⟨x, hx, h⟩
    simp only [Bool.and_eq_true] at h
    exact ⟨x, hx, by simp [h.1.2, h.2]⟩
  · rintro ⟨x, hx, h⟩
    simp only [Bool.and_eq_true] at h
    exact ⟨x, hx, by simp [h.1, h.2, hx]⟩
theorem lg2_get (F : Nat → Nat → Bool) (S : Nat → Nat → Nat → Bool) {x y : Nat} (hy : y < 64) : (lg2 F S x y)[y]? = some (row fun z => (List.range 64).any fun x' => decide (x' < x) && F x' y && S x' y z) := by
  unfold lg2
  rw [gR_get _ hy]
  refine congrArg some (row_congr fun z _ => ?_)
  congr 1
  funext x'
  simp
theorem lg2_skip {F : Nat → Nat → Bool} {S : Nat → Nat → Nat → Bool} {x y : Nat} (h : F x y = false) : lg2 F S x y = lg2 F S x (y + 1) := gR_ext fun y' z _ _ => by
  congr 1
  funext x'
  by_cases h1 : x' = x
  · subst h1
    by_cases h2 : y' = y
    · subst h2; simp [h]
    · have : decide (y' < y) = decide (y' < y + 1) := by rw [decide_eq_decide]; omega
      rw [this]
  · have : (x' == x) = false := by simpa using h1
    rw [this]; simp
theorem lg2_put {F : Nat → Nat → Bool} {S : Nat → Nat → Nat → Bool} {x y : Nat} (hx : x < 64) (h : F x y = true) : (lg2 F S x y).set y (bitsI .or .u64 (row fun z => (List.range 64).any fun x' => decide (x' < x) && F x' y && S x' y z) (row (S x y))) = lg2 F S x (y + 1) := by
  rw [row_or]
  unfold lg2
  rw [gR_set]
  refine gR_ext fun y' z _ _ => ?_
  by_cases h1 : y' = y
  · subst h1
    rw [if_pos rfl, Bool.eq_iff_iff, Bool.or_eq_true, any64, any64]
    constructor
    · rintro (⟨u, hu, h2⟩ | h2)
      · simp only [Bool.and_eq_true, decide_eq_true_eq] at h2
        exact ⟨u, hu, by simp [h2.1.1, h2.1.2, h2.2]⟩
      · exact ⟨x, hx, by simp [h, h2]⟩
    · rintro ⟨u, hu, h2⟩
      simp only [Bool.and_eq_true, Bool.or_eq_true, decide_eq_true_eq, beq_iff_eq] at h2
      obtain ⟨⟨h3, h4⟩, h5⟩ := h2
      rcases h3 with h3 | ⟨rfl, _⟩
      · exact .inl ⟨u, hu, by simp [h3, h4, h5]⟩
      · exact .inr h5
  · rw [if_neg h1]
    congr 1
    funext x'
    have : decide (y' < y) = decide (y' < y + 1) := by rw [decide_eq_decide]; omega
    rw [this]
theorem row_not (p : Nat → Bool) : bitsI .andNot .u64 (row p) (row p) = 0 := by
  unfold row
  show IntKind.u64.wrap ((BitVec.ofInt 64 ((mkN p 64 : Nat) : Int) &&& ~~~ BitVec.ofInt 64 ((mkN p 64 : Nat) : Int)).toNat : Int) = 0
  rw [show ∀ a : BitVec 64, a &&& ~~~ a = 0 from fun a => by simp]
  rfl
end Go.Cams

/- What strokes a machine's stops draw: traced with a stroke at hand, and by lengthening the last one. -/
namespace Go.Cams
open Go Go.Fw
def lastM (s : Stk) : Mk := s.getLastD []
def trS (p : List Stk × Stk) (s : Stp) : List Stk × Stk :=
  if s.2.1 = false then (if p.2 = [] then p.1 else p.1 ++ [p.2], [])
  else if p.2.length = 60 then (p.1 ++ [p.2], [lastM p.2, s.1]) else (p.1, p.2 ++ [s.1])
def trL (l : List Stp) : List Stk × Stk := l.foldl trS ([], [])
def shutT (p : List Stk × Stk) : List Stk := if p.2 = [] then p.1 else p.1 ++ [p.2]
theorem trL_snoc (l : List Stp) (s : Stp) : trL (l ++ [s]) = trS (trL l) s := by simp [trL]
def extT (out : List Stk) (m : Mk) : List Stk :=
  if (out.getLastD []).length = 60 then out ++ [[lastM (out.getLastD []), m]] else out.set (out.length - 1) (out.getLastD [] ++ [m])
/-- What both find. -/
def trR (l : List Stp) : List Stk := if (trL l).2 ≠ [] ∧ (l.headD ([], false, ())).2.1 = true then extT (shutT (trL l)) (l.headD ([], false, ())).1 else shutT (trL l)
structure TrOk (p : List Stk × Stk) (n : Nat) : Prop where
  len : p.1.length + (if p.2 = [] then 0 else 1) ≤ n
  el : ∀ s ∈ p.1, s.length ≤ 60 ∧ ∀ m ∈ s, OnP m
  now : p.2.length ≤ 60 ∧ ∀ m ∈ p.2, OnP m
theorem lastM_mem {s : Stk} (h : s ≠ []) : lastM s ∈ s := by
  unfold lastM
  rw [List.getLastD_eq_getLast?, List.getLast?_eq_some_getLast h]
  simp
theorem TrOk.step {p : List Stk × Stk} {n : Nat} {s : Stp} (h : TrOk p n) (hs : OnP s.1) : TrOk (trS p s) (n + 1) := by
  have h1 := h.len
  unfold trS
  split
  · split
    · rename_i e
      rw [if_pos e] at h1
      exact ⟨by simp; omega, h.el, by simp⟩
    · rename_i e
      rw [if_neg e] at h1
      refine ⟨by simp; omega, fun t ht => ?_, by simp⟩
      rcases List.mem_append.1 ht with ht | ht
      · exact h.el t ht
      · rw [List.mem_singleton.1 ht]; exact h.now
  · split
    · rename_i e
      have hne : p.2 ≠ [] := fun e' => by rw [e'] at e; simp at e
      rw [if_neg hne] at h1
      refine ⟨by simp; omega, fun t ht => ?_, by simp, fun m hm => ?_⟩
      · rcases List.mem_append.1 ht with ht | ht
        · exact h.el t ht
        · rw [List.mem_singleton.1 ht]; exact h.now
      · simp only [List.mem_cons, List.not_mem_nil, or_false] at hm
        rcases hm with rfl | rfl
        · exact h.now.2 _ (lastM_mem hne)
        · exact hs
    · rename_i e
      refine ⟨?_, h.el, by simp; have := h.now.1; omega, fun m hm => ?_⟩
      · rw [if_neg (by simp)]
        show p.1.length + 1 ≤ n + 1
        split at h1 <;> omega
      · rcases List.mem_append.1 hm with hm | hm
        · exact h.now.2 m hm
        · rw [List.mem_singleton.1 hm]; exact hs
theorem trOk_take (l : List Stp) (h : ∀ s ∈ l, OnP s.1) : ∀ i, i ≤ l.length → TrOk (trL (l.take i)) i
  | 0, _ => ⟨by simp [trL], by simp [trL], by simp [trL]⟩
  | i + 1, hi => by
    rw [List.take_succ_eq_append_getElem (by omega), trL_snoc]
    exact (trOk_take l h i (by omega)).step (h _ (List.getElem_mem _))
theorem trS_nil (p : List Stk × Stk) (s : Stp) : (trS p s).2 = [] ↔ s.2.1 = false := by
  unfold trS
  split
  · rename_i h; simp [h]
  · rename_i h
    split <;> simp [h]
theorem shut_up (p : List Stk × Stk) {s : Stp} (h : s.2.1 = false) : shutT (trS p s) = shutT p := by simp [trS, h, shutT]
theorem shut_new {p : List Stk × Stk} {s : Stp} (h : s.2.1 = true) (hp : p.2 = []) : shutT (trS p s) = shutT p ++ [[s.1]] := by simp [trS, h, shutT, hp]
theorem getLastD_snoc {α : Type} (l : List α) (x d : α) : (l ++ [x]).getLastD d = x := by
  rw [List.getLastD_eq_getLast?]; simp
theorem shut_ext {p : List Stk × Stk} {s : Stp} (h : s.2.1 = true) (hp : p.2 ≠ []) : shutT (trS p s) = extT (shutT p) s.1 := by
  have e : shutT p = p.1 ++ [p.2] := by simp [shutT, hp]
  rw [e]
  unfold extT
  rw [getLastD_snoc]
  simp only [trS, h, Bool.true_eq_false, if_false]
  split
  · simp [shutT]
  · simp only [shutT]
    rw [if_neg (by simp)]
    have : (p.1 ++ [p.2]).length - 1 = p.1.length := by simp
    rw [this, List.set_append_right _ _ (Nat.le_refl _)]
    simp
theorem trR_eq (l : List Stp) : trR l = if (trL l).2 = [] then (trL l).1 else if (l.headD ([], false, ())).2.1 = true then shutT (trS (trL l) (l.headD ([], false, ()))) else (trL l).1 ++ [(trL l).2] := by
  unfold trR
  by_cases h : (trL l).2 = []
  · simp [h, shutT]
  · by_cases h2 : (l.headD ([], false, ())).2.1 = true
    · rw [if_pos ⟨h, h2⟩, if_neg h, if_pos h2, shut_ext h2 h]
    · rw [if_neg (fun e => h2 e.2), if_neg h, if_neg h2]
      simp [shutT, h]
theorem TrOk.shut {p : List Stk × Stk} {n : Nat} (h : TrOk p n) : (shutT p).length ≤ n ∧ ∀ s ∈ shutT p, s.length ≤ 60 ∧ ∀ m ∈ s, OnP m := by
  have h1 := h.len
  unfold shutT
  split
  · rename_i e
    rw [if_pos e] at h1
    exact ⟨by omega, h.el⟩
  · rename_i e
    rw [if_neg e] at h1
    refine ⟨by simp; omega, fun t ht => ?_⟩
    rcases List.mem_append.1 ht with ht | ht
    · exact h.el t ht
    · rw [List.mem_singleton.1 ht]; exact h.now
theorem trR_ok (l : List Stp) (hl : 0 < l.length) (h : ∀ s ∈ l, OnP s.1) : (trR l).length ≤ l.length + 1 ∧ ∀ s ∈ trR l, s.length ≤ 60 ∧ ∀ m ∈ s, OnP m := by
  have hk := trOk_take l h l.length (Nat.le_refl _)
  rw [List.take_length] at hk
  have e := trR_eq l
  rw [e]
  split
  · rename_i e2
    have := hk.shut
    simp only [shutT, e2, if_true] at this
    exact ⟨by omega, this.2⟩
  · rename_i e2
    split
    · have hm : l.headD ([], false, ()) ∈ l := by
        cases l with
        | nil => simp at hl
        | cons a r => simp
      exact (hk.step (h _ hm)).shut
    · have := hk.shut
      simp only [shutT, e2, if_false] at this
      exact ⟨by omega, this.2⟩
theorem onP_rng {m : Mk} (h : OnP m) : ∀ v ∈ m, -32768 ≤ v ∧ v ≤ 32767 := by
  have hx := h.x; have hy := h.y; have hl := h.len
  match m, hl with
  | [a, b], _ =>
    have hx : 0 ≤ a ∧ a ≤ 63 := hx
    have hy : 0 ≤ b ∧ b ≤ 63 := hy
    intro v hv
    simp only [List.mem_cons, List.not_mem_nil, or_false] at hv
    rcases hv with rfl | rfl <;> omega
/-- What a machine draws, and the code. -/
def soR (m : Mch) : List Stk × Int × Unit := if okM m = true then (if ((trR (stopsM m)).length : Int) > 20 then ([], 3, ()) else (trR (stopsM m), 0, ())) else ([], 1, ())
theorem soR_rng {m : Mch} (hr : RngM m) : RngT (soR m).1 ∧ (soR m).1.length ≤ 20 ∧ totT (soR m).1 ≤ 1200 := by
  have e0 : RngT [] ∧ ([] : List Stk).length ≤ 20 ∧ totT [] ≤ 1200 := ⟨⟨by simp, by simp⟩, by simp, by simp [totT, totL]⟩
  unfold soR
  split
  · rename_i h
    split
    · exact e0
    · rename_i h2
      have G := goodM h
      have lx := okC_len G.x
      have hl : (stopsM m).length = m.1.length := by simp [stopsM]
      have hon : ∀ s ∈ stopsM m, OnP s.1 := by
        intro s hs
        simp only [stopsM, List.mem_map, List.mem_range] at hs
        obtain ⟨i, hi, rfl⟩ := hs
        exact stop_on hr G hi
      have hk := trR_ok (stopsM m) (by omega) hon
      have h20 : (trR (stopsM m)).length ≤ 20 := by omega
      refine ⟨⟨by show ((trR (stopsM m)).length : Int) * 24 ≤ _; omega, fun s hs => ⟨by have := (hk.2 s hs).1; omega, fun k hm => ⟨((hk.2 s hs).2 k hm).len, onP_rng ((hk.2 s hs).2 k hm)⟩⟩⟩, h20, ?_⟩
      have : ∀ K : List Stk, (∀ s ∈ K, s.length ≤ 60) → totT K ≤ 60 * K.length := by
        intro K
        induction K with
        | nil => intro _; simp [totT, totL]
        | cons a r ih =>
          intro h
          have h1 := ih fun s hs => h s (by simp [hs])
          have h2 := h a (by simp)
          have e : totT (a :: r) = a.length + totT r := by unfold totT; rw [List.map_cons, totL_cons, shad_len]
          rw [e, List.length_cons]
          omega
      have := this _ fun s hs => (hk.2 s hs).1
      show totT (trR (stopsM m)) ≤ 1200
      omega
  · exact e0
theorem mkTs_at : ∀ (K : List Stk) (k : Int) {i : Nat} {v : Stk}, (mkTs K k)[i]? = some v → ∃ s, K[i]? = some s ∧ v = mkSk s.length (k + 2 * totT (K.take i))
  | [], k, i, v, h => by simp [mkTs] at h
  | s :: K, k, 0, v, h => by
    simp only [mkTs, List.getElem?_cons_zero, Option.some.injEq] at h
    exact ⟨s, by simp, by rw [← h]; simp [totT, totL]⟩
  | s :: K, k, i + 1, v, h => by
    simp only [mkTs, List.getElem?_cons_succ] at h
    obtain ⟨t, h1, h2⟩ := mkTs_at K _ h
    refine ⟨t, by simpa using h1, ?_⟩
    have e : totT (s :: K.take i) = s.length + totT (K.take i) := by unfold totT; rw [List.map_cons, totL_cons, shad_len]
    rw [h2, List.take_succ_cons, e]
    congr 1
    omega
theorem mkTs_len : ∀ (K : List Stk) (k : Int), (mkTs K k).length = K.length
  | [], _ => rfl
  | s :: K, k => by simp [mkTs, mkTs_len K]
theorem mkSk_at (n : Nat) (k : Int) {i : Int} {v : Mk} (h : At (mkSk n k) i v) (h0 : 0 ≤ i) : v = [wr .i16 (k + 2 * i), wr .i16 (k + 2 * i + 1)] := by
  have := h.get
  unfold mkSk at this
  rw [List.getElem?_map] at this
  cases hr : (List.range n)[i.toNat]? with
  | none => rw [hr] at this; cases this
  | some j =>
    rw [hr] at this
    have hj : j = i.toNat := by
      obtain ⟨hl, e⟩ := List.getElem?_eq_some_iff.1 hr
      rw [← e, List.getElem_range]
    subst hj
    simp only [Option.map_some, Option.some.injEq] at this
    rw [← this, show ((i.toNat : Nat) : Int) = i by omega]
theorem mkSk_len (n : Nat) (k : Int) : (mkSk n k).length = n := by simp [mkSk]
end Go.Cams

/- What is drawn, as a set of marks: by stops, by strokes, by strokes that are traced, by stops that are planned. -/
namespace Go.Cams
open Go Go.Fw
theorem rev_ind {α : Type} {P : List α → Prop} (h0 : P []) (h1 : ∀ l a, P l → P (l ++ [a])) (l : List α) : P l := by
  rw [← List.reverse_reverse l]
  induction l.reverse with
  | nil => exact h0
  | cons a r ih => rw [List.reverse_cons]; exact h1 _ _ ih
/-! ### Plates of marks -/
def plt (L : List Mk) : List Int := tb 64 fun y => row fun x => decide ([(x : Int), (y : Int)] ∈ L)
theorem inkP_plate (L : List Mk) {m : Mk} (h : OnP m) : inkP (plt L) m = plt (L ++ [m]) := by
  have hx := h.x; have hy := h.y
  have hm := h.eq
  obtain ⟨x, ex⟩ : ∃ x : Nat, g m 0 = x := ⟨(g m 0).toNat, by omega⟩
  obtain ⟨y, ey⟩ : ∃ y : Nat, g m 1 = y := ⟨(g m 1).toNat, by omega⟩
  unfold inkP plt
  have hg : g (tb 64 fun y => row fun x => decide ([(x : Int), (y : Int)] ∈ L)) y = row fun x => decide ([(x : Int), (y : Int)] ∈ L) := by
    unfold g
    rw [List.getD_eq_getElem?_getD, tb_get (by omega)]; rfl
  rw [ex, ey, Int.toNat_natCast, hg, row_one (by omega), row_or, tb_set]
  refine tb_ext fun j hj => ?_
  rw [ex, ey] at hm
  by_cases e : j = y
  · subst e
    rw [if_pos rfl]
    refine row_congr fun z hz => ?_
    rw [hm]
    by_cases e2 : z = x
    · subst e2; simp
    · have : ([(z : Int), (j : Int)] : Mk) ≠ [(x : Int), (j : Int)] := fun h => e2 (by injection h with h _; omega)
      have h2 : ¬ (z : Int) = (x : Int) := by omega
      simp [e2, h2]
  · rw [if_neg e]
    refine row_congr fun z hz => ?_
    rw [hm]
    have h2 : ¬ (j : Int) = (y : Int) := by omega
    simp [h2]
theorem plate_nil : plt [] = List.replicate 64 0 := by
  unfold plt
  rw [tb_rep]
  refine tb_ext fun j hj => ?_
  unfold row
  rw [mkN_zero fun y hy => by simp]; rfl
theorem inkL_plate : ∀ (M L : List Mk), (∀ m ∈ M, OnP m) → inkL (plt L) M = plt (L ++ M)
  | [], L, _ => by simp [inkL]
  | m :: M, L, h => by
    show inkL (inkP (plt L) m) M = _
    rw [inkP_plate L (h m (by simp)), inkL_plate M (L ++ [m]) fun x hx => h x (by simp [hx])]
    simp
theorem plate_ext {L M : List Mk} (h : ∀ x, x ∈ L ↔ x ∈ M) : plt L = plt M := by
  unfold plt
  refine tb_ext fun j _ => row_congr fun z _ => ?_
  rw [decide_eq_decide]
  exact h _
/-! ### Marks that stops draw -/
def onk (a : Stp) : List Mk := if a.2.1 = true then [a.1] else []
def sgm (a b : Stp) : List Mk := if a.2.1 = true ∧ b.2.1 = true then lineM a.1 b.1 else []
def drw : List Stp → List Mk
  | [] => []
  | [a] => onk a
  | a :: b :: r => onk a ++ (sgm a b ++ drw (b :: r))
theorem drw_snoc : ∀ (l : List Stp) (a b : Stp) (x : Mk), x ∈ drw (l ++ [a] ++ [b]) ↔ x ∈ drw (l ++ [a]) ∨ x ∈ sgm a b ∨ x ∈ onk b
  | [], a, b, x => by simp [drw]
  | [c], a, b, x => by
    simp only [drw, List.cons_append, List.nil_append, List.mem_append]
    constructor <;> intro h
    · rcases h with h | h | h | h | h <;> simp [h]
    · rcases h with (h | h | h) | h | h <;> simp [h]
  | c :: d :: l, a, b, x => by
    have ih := drw_snoc (d :: l) a b x
    simp only [List.cons_append] at ih
    simp only [List.cons_append, drw, List.mem_append, ih]
    constructor <;> intro h
    · rcases h with h | h | h | h | h <;> simp [h]
    · rcases h with (h | h | h) | h | h <;> simp [h]
theorem drw_mem : ∀ (l : List Stp) (s : Stp), s ∈ l → s.2.1 = true → s.1 ∈ drw l
  | [], _, h, _ => by simp at h
  | [a], s, h, hd => by
    simp only [List.mem_singleton] at h
    subst h
    simp [drw, onk, hd]
  | a :: b :: r, s, h, hd => by
    simp only [drw, List.mem_append]
    rcases List.mem_cons.1 h with h | h
    · subst h; simp [onk, hd]
    · exact .inr (.inr (drw_mem (b :: r) s h hd))
theorem drw_up (l : List Stp) {b : Stp} (hb : b.2.1 = false) (x : Mk) : x ∈ drw (l ++ [b]) ↔ x ∈ drw l := by
  rcases List.eq_nil_or_concat l with rfl | ⟨l, a, rfl⟩
  · simp [drw, onk, hb]
  · rw [List.concat_eq_append, drw_snoc]; simp [sgm, onk, hb]
theorem drw_ups (l : List Stp) : ∀ (m : List Stp), (∀ b ∈ m, b.2.1 = false) → ∀ x, x ∈ drw (l ++ m) ↔ x ∈ drw l := by
  intro m
  refine rev_ind (P := fun m => (∀ b ∈ m, b.2.1 = false) → ∀ x, x ∈ drw (l ++ m) ↔ x ∈ drw l) (fun _ x => by simp) (fun m b ih h x => ?_) m
  · rw [← List.append_assoc, drw_up _ (h b (by simp)), ih fun c hc => h c (by simp [hc])]
/-! ### Marks that strokes draw -/
def dwn (m : Mk) : Stp := (m, true, ())
def drs (s : Stk) : List Mk := drw (s.map dwn)
def drK (K : List Stk) : List Mk := K.flatMap drs
theorem drs_snoc (s : Stk) (a b : Mk) (x : Mk) : x ∈ drs (s ++ [a] ++ [b]) ↔ x ∈ drs (s ++ [a]) ∨ x ∈ lineM a b ∨ x = b := by
  unfold drs
  simp only [List.map_append, List.map_cons, List.map_nil]
  rw [drw_snoc]
  simp [sgm, onk, dwn]
theorem lastM_snoc (s : Stk) (a : Mk) : lastM (s ++ [a]) = a := by unfold lastM; rw [getLastD_snoc]
/-! ### Strokes that are traced draw what the stops draw -/
structure TrD (l : List Stp) (p : List Stk × Stk) : Prop where
  same : ∀ x, x ∈ drw l ↔ x ∈ drK p.1 ∨ x ∈ drs p.2
  last : ∀ k a, l = k ++ [a] → (p.2 ≠ [] → a.1 = lastM p.2 ∧ a.2.1 = true) ∧ (p.2 = [] → a.2.1 = false)
  nil : l = [] → p = ([], [])
theorem TrD.step {l : List Stp} {p : List Stk × Stk} (h : TrD l p) (s : Stp) : TrD (l ++ [s]) (trS p s) := by
  have hnil := trS_nil p s
  refine ⟨fun x => ?_, fun k a e => ?_, fun e => by simp at e⟩
  · cases hs : s.2.1 with
    | false =>
      rw [drw_up l hs, h.same]
      unfold trS
      rw [if_pos hs]
      by_cases e : p.2 = []
      · simp [e]
      · simp [e, drK, drs, drw]
    | true =>
      by_cases e : p.2 = []
      · have h1 : x ∈ drw (l ++ [s]) ↔ x ∈ drw l ∨ x = s.1 := by
          rcases List.eq_nil_or_concat l with rfl | ⟨k, a, rfl⟩
          · simp [drw, onk, hs]
          · rw [List.concat_eq_append, drw_snoc]
            have := (h.last k a (by simp)).2 e
            simp [sgm, onk, hs, this]
        rw [h1, h.same]
        unfold trS
        simp [hs, e, drs, drw, dwn, onk]
      · rcases List.eq_nil_or_concat l with rfl | ⟨k, a, rfl⟩
        · have := h.nil rfl
          rw [this] at e
          exact absurd rfl e
        rw [List.concat_eq_append] at *
        have ha := (h.last k a rfl).1 e
        rw [drw_snoc, h.same]
        obtain ⟨q, b, hq⟩ : ∃ q b, p.2 = q ++ [b] := by
          rcases List.eq_nil_or_concat p.2 with h | ⟨q, b, h⟩
          · exact absurd h e
          · exact ⟨q, b, by rw [h, List.concat_eq_append]⟩
        have hb : lastM p.2 = b := by rw [hq, lastM_snoc]
        have h2 : x ∈ sgm a s ↔ x ∈ lineM b s.1 := by simp [sgm, ha.2, hs, ha.1, hb]
        have h3 : x ∈ onk s ↔ x = s.1 := by simp [onk, hs]
        rw [h2, h3]
        have hbm : b ∈ drs p.2 := by
          rw [hq]
          exact drw_mem _ (dwn b) (by simp [dwn]) rfl
        unfold trS
        rw [if_neg (by simp [hs])]
        split
        · rw [hb]
          have h4 : x ∈ drs [b, s.1] ↔ x = b ∨ x ∈ lineM b s.1 ∨ x = s.1 := by
            have := drs_snoc [] b s.1 x
            simp only [List.nil_append, List.cons_append] at this
            rw [this]
            simp [drs, drw, onk, dwn]
          simp only [drK, List.flatMap_append, List.flatMap_cons, List.flatMap_nil, List.append_nil, List.mem_append, h4]
          constructor <;> intro h
          · rcases h with (h | h) | h | h <;> simp [h]
          · rcases h with (h | h) | h | h | h
            · simp [h]
            · simp [h]
            · subst h; simp [hbm]
            · simp [h]
            · simp [h]
        · rw [hq, drs_snoc]
          constructor <;> intro h
          · rcases h with (h | h) | h | h <;> simp [h]
          · rcases h with h | h | h | h <;> simp [h]
  · have e : l = k ∧ s = a := by
      have := List.append_inj' e rfl
      exact ⟨this.1, by simpa using this.2⟩
    obtain ⟨rfl, rfl⟩ := e
    refine ⟨fun h2 => ?_, fun h2 => hnil.1 h2⟩
    have hs : s.2.1 = true := by
      cases hs : s.2.1 with
      | true => rfl
      | false => exact absurd (hnil.2 hs) h2
    refine ⟨?_, hs⟩
    unfold trS
    rw [if_neg (by simp [hs])]
    split
    · rfl
    · rw [lastM_snoc]
theorem trD (l : List Stp) : TrD l (trL l) := by
  refine rev_ind (P := fun l => TrD l (trL l)) ⟨fun x => by simp [drw, trL, drK, drs], fun k a e => by simp at e, fun _ => rfl⟩ (fun l s ih => ?_) l
  rw [trL_snoc]; exact ih.step s
/-- What a machine with stops draws, around. -/
def dcy (l : List Stp) : List Mk := drw (l ++ [l.headD ([], false, ())])
theorem shutT_drK (p : List Stk × Stk) (x : Mk) : x ∈ drK (shutT p) ↔ x ∈ drK p.1 ∨ x ∈ drs p.2 := by
  unfold shutT
  split
  · rename_i h; simp [h, drs, drw]
  · simp [drK]
theorem trR_draws (l : List Stp) (hl : l ≠ []) (x : Mk) : x ∈ drK (trR l) ↔ x ∈ dcy l := by
  have h := trD l
  obtain ⟨hd, hhd⟩ : ∃ hd, hd = l.headD ([], false, ()) := ⟨_, rfl⟩
  have hmem : hd ∈ l := by
    cases l with
    | nil => exact absurd rfl hl
    | cons a r => rw [hhd]; simp
  unfold dcy
  have hR := trR_eq l
  rw [← hhd] at hR ⊢
  by_cases h2 : (trL l).2 ≠ [] ∧ hd.2.1 = true
  · rw [if_neg h2.1, if_pos h2.2] at hR
    rw [hR, shutT_drK, ← (h.step hd).same]
  · have e : trR l = shutT (trL l) := by
      rw [hR]
      by_cases h3 : (trL l).2 = []
      · rw [if_pos h3]; simp [shutT, h3]
      · rw [if_neg h3, if_neg (fun e => h2 ⟨h3, e⟩)]; simp [shutT, h3]
    rw [e, shutT_drK, ← h.same]
    cases hs : hd.2.1 with
    | false => rw [drw_up l hs]
    | true =>
      have h3 : (trL l).2 = [] := Classical.byContradiction fun e => h2 ⟨e, hs⟩
      have hin := drw_mem l hd hmem hs
      rcases List.eq_nil_or_concat l with h4 | ⟨k, a, h4⟩
      · exact absurd h4 hl
      · rw [List.concat_eq_append] at h4
        have ha := (h.last k a h4).2 h3
        have := drw_snoc k a hd x
        rw [← h4] at this
        rw [this]
        simp only [sgm, ha, Bool.false_eq_true, false_and, if_false, List.not_mem_nil, false_or, onk, hs, if_true, List.mem_singleton]
        constructor
        · exact .inl
        · rintro (h | rfl)
          · exact h
          · exact hin
end Go.Cams

/- Stops that are planned draw what the strokes draw, and are not far apart, in plain terms. -/
namespace Go.Cams
open Go Go.Fw
/-! ### Machines -/
theorem onk_on {a : Stp} (h : OnP a.1) : ∀ x ∈ onk a, OnP x := by
  intro x hx
  unfold onk at hx
  split at hx
  · rw [List.mem_singleton.1 hx]; exact h
  · simp at hx
theorem sgm_on {a b : Stp} (h : OnP a.1) (h2 : OnP b.1) : ∀ x ∈ sgm a b, OnP x := by
  intro x hx
  unfold sgm at hx
  split at hx
  · exact lineM_on h h2 x hx
  · simp at hx
/-- The marks that the first stops of a machine draw. -/
def mks (m : Mch) : Nat → List Mk
  | 0 => []
  | i + 1 => mks m i ++ (onk (stopM m i) ++ sgm (stopM m i) (stopM m ((i + 1) % m.1.length)))
theorem drawTo_mks (m : Mch) (hon : ∀ i, i < m.1.length → OnP (stopM m i).1) : ∀ i, i ≤ m.1.length → drawTo m i = plt (mks m i)
  | 0, _ => plate_nil.symm
  | i + 1, hi => by
    have h1 := hon i (by omega)
    have h2 := hon ((i + 1) % m.1.length) (Nat.mod_lt _ (by omega))
    have e : ∀ L, plt (mks m i ++ L) = plt (mks m i ++ L) := fun _ => rfl
    unfold drawTo mks
    rw [drawTo_mks m hon i (by omega)]
    by_cases c : (stopM m i).2.1 = true
    · rw [if_pos c]
      have o1 : onk (stopM m i) = [(stopM m i).1] := by simp [onk, c]
      by_cases c2 : (stopM m ((i + 1) % m.1.length)).2.1 = true
      · have o2 : sgm (stopM m i) (stopM m ((i + 1) % m.1.length)) = lineM (stopM m i).1 (stopM m ((i + 1) % m.1.length)).1 := by unfold sgm; rw [if_pos ⟨c, c2⟩]
        rw [if_pos c2, inkP_plate _ h1, inkL_plate _ _ (lineM_on h1 h2), o1, o2, List.append_assoc]
      · have o2 : sgm (stopM m i) (stopM m ((i + 1) % m.1.length)) = [] := by unfold sgm; rw [if_neg (fun e => c2 e.2)]
        rw [if_neg c2, inkP_plate _ h1, o1, o2, List.append_nil]
    · have o1 : onk (stopM m i) = [] := by simp [onk, c]
      have o2 : sgm (stopM m i) (stopM m ((i + 1) % m.1.length)) = [] := by unfold sgm; rw [if_neg (fun e => c e.1)]
      rw [if_neg c, o1, o2]; simp
theorem mks_drw (m : Mch) : ∀ i, i < m.1.length → ∀ x, (x ∈ drw ((List.range (i + 1)).map (stopM m)) ↔ x ∈ mks m i ∨ x ∈ onk (stopM m i))
  | 0, _, x => by simp [drw, mks]
  | i + 1, hi, x => by
    have e : (List.range (i + 1 + 1)).map (stopM m) = (List.range i).map (stopM m) ++ [stopM m i] ++ [stopM m (i + 1)] := by simp [List.range_succ]
    have e2 : (List.range (i + 1)).map (stopM m) = (List.range i).map (stopM m) ++ [stopM m i] := by simp [List.range_succ]
    have ih := mks_drw m i (by omega) x
    rw [e2] at ih
    rw [e, drw_snoc, ih]
    have hm : (i + 1) % m.1.length = i + 1 := Nat.mod_eq_of_lt hi
    simp only [mks, hm, List.mem_append]
    constructor <;> intro h
    · rcases h with (h | h) | h | h <;> simp [h]
    · rcases h with (h | h | h) | h <;> simp [h]
theorem mks_cyc (m : Mch) (h0 : 0 < m.1.length) (x : Mk) : x ∈ mks m m.1.length ↔ x ∈ dcy (stopsM m) := by
  obtain ⟨n, hn⟩ : ∃ n, m.1.length = n + 1 := ⟨m.1.length - 1, by omega⟩
  have hd : (stopsM m).headD ([], false, ()) = stopM m 0 := by
    unfold stopsM
    rw [hn, List.range_succ_eq_map]; rfl
  have e : stopsM m = (List.range n).map (stopM m) ++ [stopM m n] := by unfold stopsM; rw [hn]; simp [List.range_succ]
  have e2 : (List.range n).map (stopM m) ++ [stopM m n] = (List.range (n + 1)).map (stopM m) := by simp [List.range_succ]
  unfold dcy
  rw [hd, e, drw_snoc, e2, mks_drw m n (by omega), hn]
  have hm : (n + 1) % m.1.length = 0 := by rw [hn]; exact Nat.mod_self _
  simp only [mks, hm, List.mem_append]
  have h0' : x ∈ onk (stopM m 0) → x ∈ mks m n ∨ x ∈ onk (stopM m n) := by
    intro h
    rw [← mks_drw m n (by omega)]
    have hs : (stopM m 0).2.1 = true := by
      cases hs : (stopM m 0).2.1 with
      | true => rfl
      | false => simp [onk, hs] at h
    have hx : x = (stopM m 0).1 := by simpa [onk, hs] using h
    rw [hx]
    exact drw_mem _ _ (List.mem_map.2 ⟨0, by simp, rfl⟩) hs
  constructor <;> intro h
  · rcases h with h | h | h <;> simp [h]
  · rcases h with (h | h) | h | h
    · simp [h]
    · simp [h]
    · simp [h]
    · rcases h0' h with h | h <;> simp [h]
/-- What a machine draws. -/
theorem drawTo_dcy {m : Mch} (hr : RngM m) (G : GoodM m) : drawTo m m.1.length = plt (dcy (stopsM m)) := by
  have lx := okC_len G.x
  rw [drawTo_mks m (fun i hi => stop_on hr G hi) _ (Nat.le_refl _)]
  exact plate_ext fun x => mks_cyc m (by omega) x
/-! ### Plans -/
theorem bkJ_spec (L : List Mk) (i : Nat) : ∀ j, bkJ L i j = 0 ∨ lineM (gM L i) (gM L (bkJ L i j)) = (L.take (bkJ L i j + 1)).drop i
  | 0 => .inl rfl
  | j + 1 => by
    unfold bkJ
    split
    · rename_i h; exact .inr h
    · exact bkJ_spec L i j
theorem goF_down {most : Nat} (hm : 1 ≤ most) {a b : Mk} (ha : OnP a) (hb : OnP b) : ∀ (f i : Nat) (A : List Stp), i < (lineM a b).length → (lineM a b).length ≤ f + i → (∀ x, x ∈ drw (A ++ [dwn (gM (lineM a b) i)] ++ goF most true (lineM a b) f i) ↔ x ∈ drw (A ++ [dwn (gM (lineM a b) i)]) ∨ x ∈ (lineM a b).drop i) ∧ ∃ B, A ++ [dwn (gM (lineM a b) i)] ++ goF most true (lineM a b) f i = B ++ [dwn b]
  | 0, i, A, hi, hf => by omega
  | f + 1, i, A, hi, hf => by
    have hl := line_last ha hb
    unfold goF
    by_cases h : i < (lineM a b).length - 1
    · rw [if_pos h]
      have hj := toJ_bd hm true ha hb h
      obtain ⟨j, ej⟩ : ∃ j, j = toJ most true (lineM a b) i := ⟨_, rfl⟩
      rw [← ej] at hj ⊢
      have hline : lineM (gM (lineM a b) i) (gM (lineM a b) j) = ((lineM a b).take (j + 1)).drop i := by
        have := bkJ_spec (lineM a b) i (min (i + most) ((lineM a b).length - 1))
        have e : toJ most true (lineM a b) i = bkJ (lineM a b) i (min (i + most) ((lineM a b).length - 1)) := by unfold toJ; rw [if_pos rfl]
        rw [← e, ← ej] at this
        rcases this with h | h
        · omega
        · exact h
      obtain ⟨ih1, ih2⟩ := goF_down hm ha hb f j (A ++ [dwn (gM (lineM a b) i)]) (by omega) (by omega)
      have e : A ++ [dwn (gM (lineM a b) i)] ++ (gM (lineM a b) j, true, ()) :: goF most true (lineM a b) f j = A ++ [dwn (gM (lineM a b) i)] ++ [dwn (gM (lineM a b) j)] ++ goF most true (lineM a b) f j := by simp [dwn]
      rw [e]
      refine ⟨fun x => ?_, ih2⟩
      rw [ih1, drw_snoc]
      have h2 : x ∈ sgm (dwn (gM (lineM a b) i)) (dwn (gM (lineM a b) j)) ↔ x ∈ ((lineM a b).take (j + 1)).drop i := by
        unfold sgm
        rw [if_pos ⟨rfl, rfl⟩, ← hline]; rfl
      have h3 : x ∈ onk (dwn (gM (lineM a b) j)) ↔ x = gM (lineM a b) j := by simp [onk, dwn]
      rw [h2, h3]
      have h4 : (lineM a b).drop i = ((lineM a b).take (j + 1)).drop i ++ (lineM a b).drop (j + 1) := by
        conv => lhs; rw [← List.take_append_drop (j + 1) (lineM a b)]
        rw [List.drop_append_of_le_length (by simp; omega)]
      have h5 : x ∈ (lineM a b).drop j ↔ x = gM (lineM a b) j ∨ x ∈ (lineM a b).drop (j + 1) := by
        have hg := gM_idx (L := lineM a b) (i := (j : Int)) (by omega) (by omega)
        have := hg.drop
        rw [Int.toNat_natCast] at this
        rw [this, List.mem_cons]
        have : ((j : Int) + 1).toNat = j + 1 := by omega
        rw [this]
      have h6 : gM (lineM a b) j ∈ ((lineM a b).take (j + 1)).drop i := by
        have hg := (gM_idx (L := lineM a b) (i := (j : Int)) (by omega) (by omega)).get
        rw [Int.toNat_natCast] at hg
        have : (((lineM a b).take (j + 1)).drop i)[j - i]? = some (gM (lineM a b) j) := by
          rw [List.getElem?_drop, List.getElem?_take, if_pos (by omega), show i + (j - i) = j by omega, hg]
        exact List.mem_of_getElem? this
      rw [h5, h4, List.mem_append]
      constructor <;> intro h
      · rcases h with (h | h | h) | h | h
        · simp [h]
        · simp [h]
        · subst h; simp [h6]
        · subst h; simp [h6]
        · simp [h]
      · rcases h with h | h | h <;> simp [h]
    · rw [if_neg h]
      have hi2 : i = (lineM a b).length - 1 := by omega
      refine ⟨fun x => ?_, A, by rw [hi2, hl]; simp⟩
      have hd : (lineM a b).drop i = [gM (lineM a b) i] := by
        have hg := gM_idx (L := lineM a b) (i := (i : Int)) (by omega) (by omega)
        have := hg.drop
        rw [Int.toNat_natCast, show ((i : Int) + 1).toNat = i + 1 by omega, List.drop_of_length_le (i := i + 1) (by omega)] at this
        exact this
      rw [hd, List.append_nil, List.mem_singleton]
      constructor
      · exact .inl
      · rintro (h | rfl)
        · exact h
        · exact drw_mem _ (dwn (gM (lineM a b) i)) (by simp) rfl
theorem goF_ups (most : Nat) (L : List Mk) : ∀ f i, ∀ b ∈ goF most false L f i, b.2.1 = false
  | 0, _, b, h => by simp [goF] at h
  | f + 1, i, b, h => by
    unfold goF at h
    split at h
    · rcases List.mem_cons.1 h with rfl | h
      · rfl
      · exact goF_ups most L f _ b h
    · simp at h
/-- What is known of the stops that are planned so far: where the last is, and what they draw. -/
structure PlD (st : Mk × List Stp) (S : Mk → Prop) : Prop where
  at_ : OnP st.1
  draws : ∀ x, x ∈ drw st.2 ↔ S x
  last : ∀ k a, st.2 = k ++ [a] → a.1 = st.1
theorem gM_zero_line {a b : Mk} (ha : OnP a) (hb : OnP b) : gM (lineM a b) 0 = a := by
  by_cases h : far a b = 0
  · unfold lineM; rw [if_pos h]; rfl
  · obtain ⟨f0, _, _⟩ := far_bd ha hb
    rw [lineM_get h (by omega)]
    exact ptM_zero ha hb h
theorem lineM_end {a b : Mk} (ha : OnP a) (hb : OnP b) : b ∈ lineM a b := by
  have hl := lineM_length ha hb
  obtain ⟨f0, _, _⟩ := far_bd ha hb
  have hg := gM_idx (L := lineM a b) (i := (((lineM a b).length - 1 : Nat) : Int)) (by omega) (by omega)
  have := hg.mem
  rwa [Int.toNat_natCast, line_last ha hb] at this
theorem goF_end {most : Nat} (hm : 1 ≤ most) (down : Bool) {a b : Mk} (ha : OnP a) (hb : OnP b) : ∀ (f i : Nat), i < (lineM a b).length → (lineM a b).length ≤ f + i → ∀ k v, goF most down (lineM a b) f i = k ++ [v] → v.1 = b
  | 0, i, hi, hf => by omega
  | f + 1, i, hi, hf => by
    intro k v e
    unfold goF at e
    split at e
    · rename_i h
      have hj := toJ_bd hm down ha hb h
      by_cases h2 : toJ most down (lineM a b) i < (lineM a b).length - 1
      · cases k with
        | nil =>
          exfalso
          have hne : goF most down (lineM a b) f (toJ most down (lineM a b) i) ≠ [] := by
            cases f with
            | zero => omega
            | succ f => unfold goF; rw [if_pos h2]; simp
          simp at e
          exact hne e.2
        | cons c k =>
          simp only [List.cons_append, List.cons.injEq] at e
          exact goF_end hm down ha hb f _ (by omega) (by omega) k v e.2
      · rw [goF_last most down (lineM a b) f h2] at e
        have e2 : k = [] ∧ (gM (lineM a b) (toJ most down (lineM a b) i), down, ()) = v := by
          have := List.append_inj' (s₁ := []) (t₁ := [(gM (lineM a b) (toJ most down (lineM a b) i), down, ())]) (s₂ := k) (t₂ := [v]) e rfl
          exact ⟨this.1.symm, by simpa using this.2⟩
        rw [← e2.2]
        have : toJ most down (lineM a b) i = (lineM a b).length - 1 := by omega
        show gM (lineM a b) (toJ most down (lineM a b) i) = b
        rw [this, line_last ha hb]
    · simp at e
theorem goL_nil {most : Nat} {down : Bool} {a b : Mk} (ha : OnP a) (hb : OnP b) (h : goL most down a b = []) : a = b := by
  have hl := lineM_length ha hb
  obtain ⟨f0, _, _⟩ := far_bd ha hb
  unfold goL goF at h
  split at h
  · simp at h
  · exact far_zero ha hb (by omega)
theorem PlD.up {most : Nat} (hm : 1 ≤ most) {st : Mk × List Stp} {S : Mk → Prop} (h : PlD st S) {b : Mk} (hb : OnP b) : PlD (b, st.2 ++ goL most false st.1 b) S := by
  have hl := lineM_length h.at_ hb
  obtain ⟨f0, f1, _⟩ := far_bd h.at_ hb
  refine ⟨hb, fun x => ?_, fun k v e => ?_⟩
  · show x ∈ drw (st.2 ++ goL most false st.1 b) ↔ _
    unfold goL
    rw [drw_ups _ _ (goF_ups most _ _ _), h.draws]
  · rcases List.eq_nil_or_concat (goL most false st.1 b) with h2 | ⟨q, w, h2⟩
    · have e : st.2 ++ goL most false st.1 b = k ++ [v] := e
      rw [h2, List.append_nil] at e
      rw [h.last k v e]
      exact goL_nil h.at_ hb h2
    · rw [List.concat_eq_append] at h2
      have e : st.2 ++ goL most false st.1 b = k ++ [v] := e
      rw [h2, ← List.append_assoc] at e
      have e2 : w = v := by have := (List.append_inj' e rfl).2; simpa using this
      rw [← e2]
      exact goF_end hm false h.at_ hb 64 0 (by omega) (by omega) q w h2
theorem PlD.put {st : Mk × List Stp} {S : Mk → Prop} (h : PlD st S) : PlD (st.1, st.2 ++ [dwn st.1]) (fun x => S x ∨ x = st.1) := by
  refine ⟨h.at_, fun x => ?_, fun k v e => ?_⟩
  · show x ∈ drw (st.2 ++ [dwn st.1]) ↔ _
    rcases List.eq_nil_or_concat st.2 with h2 | ⟨q, w, h2⟩
    · have := h.draws x
      rw [h2] at this ⊢
      rw [← this]
      simp [drw, onk, dwn]
    · rw [List.concat_eq_append] at h2
      have hw := h.last q w h2
      have := h.draws x
      rw [h2] at this ⊢
      rw [drw_snoc, this]
      have h3 : x ∈ sgm w (dwn st.1) → x = st.1 := by
        intro h
        unfold sgm at h
        split at h
        · rw [hw] at h
          have e : lineM st.1 (dwn st.1).1 = [st.1] := lineM_same
          rw [e] at h
          simpa using h
        · simp at h
      have h4 : x ∈ onk (dwn st.1) ↔ x = st.1 := by simp [onk, dwn]
      rw [h4]
      constructor <;> intro h
      · rcases h with h | h | h
        · simp [h]
        · simp [h3 h]
        · simp [h]
      · rcases h with h | h <;> simp [h]
  · have e : st.2 ++ [dwn st.1] = k ++ [v] := e
    have e2 : dwn st.1 = v := by have := (List.append_inj' e rfl).2; simpa using this
    rw [← e2]; rfl
theorem PlD.down {most : Nat} (hm : 1 ≤ most) {st : Mk × List Stp} {S : Mk → Prop} (h : PlD st S) (hd : ∃ k, st.2 = k ++ [dwn st.1]) {b : Mk} (hb : OnP b) : PlD (drF most st b) (fun x => S x ∨ x ∈ lineM st.1 b) ∧ ∃ k, (drF most st b).2 = k ++ [dwn (drF most st b).1] := by
  have hl := lineM_length h.at_ hb
  obtain ⟨f0, f1, _⟩ := far_bd h.at_ hb
  obtain ⟨k, hk⟩ := hd
  have h0 := gM_zero_line h.at_ hb
  obtain ⟨h1, B, h2⟩ := goF_down hm h.at_ hb 64 0 k (by omega) (by omega)
  rw [h0, ← hk] at h1 h2
  have e : (drF most st b).2 = st.2 ++ goF most true (lineM st.1 b) 64 0 := rfl
  refine ⟨⟨hb, fun x => ?_, fun q v ev => ?_⟩, B, by rw [e, h2]; rfl⟩
  · rw [e, h1, h.draws, List.drop_zero]
  · rw [e, h2] at ev
    have e2 : dwn b = v := by have := (List.append_inj' ev rfl).2; simpa using this
    rw [← e2]; rfl
theorem PlD.line {most : Nat} (hm : 1 ≤ most) : ∀ (l : List Mk) {st : Mk × List Stp} {S : Mk → Prop}, PlD st S → (∃ k, st.2 = k ++ [dwn st.1]) → (∀ m ∈ l, OnP m) → S st.1 → PlD (l.foldl (drF most) st) (fun x => S x ∨ x ∈ drs (st.1 :: l))
  | [], st, S, h, _, _, hs => by
    refine ⟨h.at_, fun x => ?_, h.last⟩
    rw [List.foldl_nil, h.draws]
    simp only [drs, List.map_cons, List.map_nil, drw, onk, dwn, if_true, List.mem_singleton]
    constructor
    · exact .inl
    · rintro (h | rfl)
      · exact h
      · exact hs
  | m :: l, st, S, h, hd, hon, hs => by
    have hmm := hon m (by simp)
    obtain ⟨h1, h2⟩ := h.down hm hd hmm
    have h3 := PlD.line hm l h1 h2 (fun x hx => hon x (by simp [hx])) (.inr (lineM_end h.at_ hmm))
    refine ⟨h3.at_, fun x => ?_, h3.last⟩
    rw [List.foldl_cons, h3.draws]
    have e : drs (st.1 :: m :: l) = st.1 :: (lineM st.1 m ++ drs (m :: l)) := by
      simp [drs, drw, onk, sgm, dwn]
    rw [e]
    show (S x ∨ x ∈ lineM st.1 m) ∨ x ∈ drs (m :: l) ↔ S x ∨ x ∈ st.1 :: (lineM st.1 m ++ drs (m :: l))
    simp only [List.mem_cons, List.mem_append]
    constructor <;> intro h
    · rcases h with (h | h) | h <;> simp [h]
    · rcases h with h | h | h | h
      · simp [h]
      · subst h; simp [hs]
      · simp [h]
      · simp [h]
theorem PlD.stroke {most : Nat} (hm : 1 ≤ most) {st : Mk × List Stp} {S : Mk → Prop} (h : PlD st S) {s : Stk} (h1 : 1 ≤ s.length) (hon : ∀ m ∈ s, OnP m) : PlD (stF most st s) (fun x => S x ∨ x ∈ drs s) := by
  have h0 : OnP (gM s 0) := hon _ (gM_idx (L := s) (i := 0) (Int.le_refl _) (by omega)).mem
  have a := (h.up hm h0).put
  have b := PlD.line hm (s.drop 1) a ⟨_, rfl⟩ (fun m hm => hon m (List.mem_of_mem_drop hm)) (.inr rfl)
  have es : gM s 0 :: s.drop 1 = s := by
    cases s with
    | nil => simp at h1
    | cons c r => rfl
  have hin : gM s 0 ∈ drs s := by
    rw [← es]
    exact drw_mem _ (dwn (gM s 0)) (by simp) rfl
  have e : stF most st s = (s.drop 1).foldl (drF most) (gM s 0, st.2 ++ goL most false st.1 (gM s 0) ++ [dwn (gM s 0)]) := rfl
  rw [e]
  refine ⟨b.at_, fun x => ?_, b.last⟩
  rw [b.draws]
  show (S x ∨ x = gM s 0) ∨ x ∈ drs (gM s 0 :: s.drop 1) ↔ _
  rw [es]
  constructor <;> intro h
  · rcases h with (h | h) | h
    · exact .inl h
    · subst h; exact .inr hin
    · exact .inr h
  · rcases h with h | h <;> simp [h]
theorem plD {most : Nat} (hm : 1 ≤ most) {K : List Stk} (G : ∀ s ∈ K, (1 ≤ (s.length : Int) ∧ (s.length : Int) ≤ 60) ∧ ∀ m ∈ s, OnP m) : PlD (o0, plP most K) (fun x => x ∈ drK K) := by
  have : ∀ (l : List Stk) (st : Mk × List Stp) (S : Mk → Prop), (∀ s ∈ l, (1 ≤ (s.length : Int) ∧ (s.length : Int) ≤ 60) ∧ ∀ m ∈ s, OnP m) → PlD st S → PlD (l.foldl (stF most) st) (fun x => S x ∨ x ∈ drK l) := by
    intro l
    induction l with
    | nil =>
      intro st S _ h
      exact ⟨h.at_, fun x => by rw [List.foldl_nil, h.draws]; simp [drK], h.last⟩
    | cons s l ih =>
      intro st S hl h
      obtain ⟨a, b⟩ := hl s List.mem_cons_self
      have h1 := ih (stF most st s) _ (fun x hx => hl x (List.mem_cons_of_mem _ hx)) (h.stroke hm (by omega) b)
      refine ⟨h1.at_, fun x => ?_, h1.last⟩
      rw [List.foldl_cons, h1.draws]
      simp only [drK, List.flatMap_cons, List.mem_append]
      constructor <;> intro h
      · rcases h with (h | h) | h <;> simp [h]
      · rcases h with h | h | h <;> simp [h]
  have h0 : PlD (o0, []) (fun _ => False) := ⟨o0_on, fun x => by simp [drw], fun k a e => by simp at e⟩
  have h1 := (this K (o0, []) _ G h0).up hm o0_on
  refine ⟨h1.at_, fun x => ?_, h1.last⟩
  have := h1.draws x
  simp only [false_or] at this
  exact this
end Go.Cams

/- Machines that are compiled of strokes, in plain terms. -/
namespace Go.Cams
open Go Go.Fw
/-! ### Near -/
def endM (a : Mk) : List Stp → Mk
  | [] => a
  | s :: r => endM s.1 r
def Ch (most : Int) (a : Mk) : List Stp → Prop
  | [] => True
  | s :: r => far a s.1 ≤ most ∧ Ch most s.1 r
theorem ch_append {most : Int} : ∀ (l r : List Stp) (a : Mk), Ch most a (l ++ r) ↔ Ch most a l ∧ Ch most (endM a l) r
  | [], r, a => by simp [Ch, endM]
  | s :: l, r, a => by simp [Ch, endM, ch_append l r s.1, and_assoc]
theorem endM_snoc : ∀ (l : List Stp) (a : Mk) (s : Stp), endM a (l ++ [s]) = s.1
  | [], a, s => rfl
  | c :: l, a, s => endM_snoc l c.1 s
theorem endM_append : ∀ (l r : List Stp) (a : Mk), endM a (l ++ r) = endM (endM a l) r
  | [], r, a => rfl
  | c :: l, r, a => endM_append l r c.1
theorem far_self (a : Mk) : far a a = 0 := by unfold far siz; simp
theorem far_comm (a b : Mk) : far a b = far b a := by
  unfold far siz
  have : ∀ x y : Int, (if x - y < 0 then -(x - y) else x - y) = if y - x < 0 then -(y - x) else y - x := fun x y => by split <;> split <;> omega
  rw [this (g a 0), this (g a 1)]
theorem nr_steps {d n k : Int} (hn : 0 < n) (h1 : -n ≤ d) (h2 : d ≤ n) : ∀ j : Nat, -(j : Int) ≤ nr ((k + j) * d) n - nr (k * d) n ∧ nr ((k + j) * d) n - nr (k * d) n ≤ j
  | 0 => by
    have : k + ((0 : Nat) : Int) = k := by omega
    rw [this]; omega
  | j + 1 => by
    have ih := nr_steps (k := k) hn h1 h2 j
    have := nr_step (k := k + j) hn h1 h2
    rw [show k + ((j + 1 : Nat) : Int) = k + j + 1 by omega]
    omega
theorem line_far {a b : Mk} (ha : OnP a) (hb : OnP b) {i j : Nat} (hij : i ≤ j) (hj : j < (lineM a b).length) : far (gM (lineM a b) i) (gM (lineM a b) j) ≤ (j : Int) - i := by
  have hl := lineM_length ha hb
  obtain ⟨f0, f1, f2⟩ := far_bd ha hb
  by_cases hn : far a b = 0
  · have : i = j := by omega
    subst this
    rw [far_self]; omega
  · rw [lineM_get hn (by omega), lineM_get hn (by omega)]
    have s0 := nr_steps (k := (i : Int)) (show 0 < far a b by omega) (f2 0 (.inl rfl)).1 (f2 0 (.inl rfl)).2 (j - i)
    have s1 := nr_steps (k := (i : Int)) (show 0 < far a b by omega) (f2 1 (.inr rfl)).1 (f2 1 (.inr rfl)).2 (j - i)
    rw [show (i : Int) + ((j - i : Nat) : Int) = (j : Nat) by omega] at s0 s1
    have h3 : ∀ x, siz x = if x < 0 then -x else x := fun _ => rfl
    show max (siz (pt a b (i : Nat) 0 - pt a b (j : Nat) 0)) (siz (pt a b (i : Nat) 1 - pt a b (j : Nat) 1)) ≤ _
    unfold pt
    rw [h3, h3]
    split <;> split <;> omega
theorem goF_ch {most : Nat} (hm : 1 ≤ most) (down : Bool) {a b : Mk} (ha : OnP a) (hb : OnP b) : ∀ (f i : Nat), i < (lineM a b).length → Ch most (gM (lineM a b) i) (goF most down (lineM a b) f i)
  | 0, _, _ => trivial
  | f + 1, i, hi => by
    unfold goF
    split
    · rename_i h
      have hj := toJ_bd hm down ha hb h
      refine ⟨?_, goF_ch hm down ha hb f _ (by omega)⟩
      have h1 := line_far ha hb (i := i) (j := toJ most down (lineM a b) i) (by omega) (by omega)
      have h2 : toJ most down (lineM a b) i ≤ i + most := by
        unfold toJ
        split
        · have := bkJ_le (lineM a b) i (min (i + most) ((lineM a b).length - 1)); omega
        · omega
      show far (gM (lineM a b) i) (gM (lineM a b) (toJ most down (lineM a b) i)) ≤ most
      omega
    · trivial
theorem goL_ch {most : Nat} (hm : 1 ≤ most) (down : Bool) {a b : Mk} (ha : OnP a) (hb : OnP b) : Ch most a (goL most down a b) := by
  have hl := lineM_length ha hb
  obtain ⟨f0, f1, f2⟩ := far_bd ha hb
  have := goF_ch hm down ha hb 64 0 (by omega)
  rw [gM_zero_line ha hb] at this
  exact this
theorem goL_end {most : Nat} (hm : 1 ≤ most) (down : Bool) {a b : Mk} (ha : OnP a) (hb : OnP b) : endM a (goL most down a b) = b := by
  have hl := lineM_length ha hb
  obtain ⟨f0, f1, f2⟩ := far_bd ha hb
  rcases List.eq_nil_or_concat (goL most down a b) with h2 | ⟨q, w, h2⟩
  · rw [h2]; exact goL_nil ha hb h2
  · rw [List.concat_eq_append] at h2
    rw [h2, endM_snoc]
    exact goF_end hm down ha hb 64 0 (by omega) (by omega) q w h2
theorem goF_on {most : Nat} (hm : 1 ≤ most) (down : Bool) {a b : Mk} (ha : OnP a) (hb : OnP b) : ∀ f i, ∀ v ∈ goF most down (lineM a b) f i, OnP v.1
  | 0, _, v, hv => by cases hv
  | f + 1, i, v, hv => by
    unfold goF at hv
    split at hv
    · rename_i h
      have hj := toJ_bd hm down ha hb h
      rcases List.mem_cons.1 hv with rfl | hv
      · exact lineM_on ha hb _ (gM_idx (L := lineM a b) (i := ((toJ most down (lineM a b) i : Nat) : Int)) (by omega) (by omega)).mem
      · exact goF_on hm down ha hb f _ v hv
    · cases hv
/-- Stops that are near one another, on the plate, and end at a place. -/
structure Near (most : Nat) (st : Mk × List Stp) : Prop where
  at_ : OnP st.1
  ch : Ch most o0 st.2
  end_ : endM o0 st.2 = st.1
  on : ∀ v ∈ st.2, OnP v.1
theorem Near.go {most : Nat} (hm : 1 ≤ most) {st : Mk × List Stp} (h : Near most st) (down : Bool) {b : Mk} (hb : OnP b) : Near most (b, st.2 ++ goL most down st.1 b) := by
  refine ⟨hb, ?_, ?_, fun v hv => ?_⟩
  · rw [ch_append, h.end_]; exact ⟨h.ch, goL_ch hm down h.at_ hb⟩
  · rw [endM_append, h.end_]; exact goL_end hm down h.at_ hb
  · rcases List.mem_append.1 hv with hv | hv
    · exact h.on v hv
    · exact goF_on hm down h.at_ hb 64 0 v hv
theorem Near.put {most : Nat} {st : Mk × List Stp} (h : Near most st) (d : Bool) : Near most (st.1, st.2 ++ [(st.1, d, ())]) := by
  refine ⟨h.at_, ?_, by rw [endM_snoc], fun v hv => ?_⟩
  · rw [ch_append, h.end_]
    exact ⟨h.ch, by rw [far_self]; omega, trivial⟩
  · rcases List.mem_append.1 hv with hv | hv
    · exact h.on v hv
    · rw [List.mem_singleton.1 hv]; exact h.at_
theorem plNear {most : Nat} (hm : 1 ≤ most) {K : List Stk} (G : ∀ s ∈ K, (1 ≤ (s.length : Int) ∧ (s.length : Int) ≤ 60) ∧ ∀ m ∈ s, OnP m) : Near most (o0, plP most K) := by
  have h1 : ∀ (l : List Mk) (st : Mk × List Stp), (∀ m ∈ l, OnP m) → Near most st → Near most (l.foldl (drF most) st) := by
    intro l
    induction l with
    | nil => intro st _ h; exact h
    | cons m l ih => intro st hl h; exact ih (drF most st m) (fun x hx => hl x (by simp [hx])) (h.go hm true (hl m (by simp)))
  have h2 : ∀ (l : List Stk) (st : Mk × List Stp), (∀ s ∈ l, (1 ≤ (s.length : Int) ∧ (s.length : Int) ≤ 60) ∧ ∀ m ∈ s, OnP m) → Near most st → Near most (l.foldl (stF most) st) := by
    intro l
    induction l with
    | nil => intro st _ h; exact h
    | cons s l ih =>
      intro st hl h
      obtain ⟨a, b⟩ := hl s List.mem_cons_self
      have h0 : OnP (gM s 0) := b _ (gM_idx (L := s) (i := 0) (Int.le_refl _) (by omega)).mem
      exact ih (stF most st s) (fun x hx => hl x (by simp [hx])) (h1 (s.drop 1) _ (fun m hm => b m (List.mem_of_mem_drop hm)) ((h.go hm false h0).put true))
  exact (h2 K (o0, []) G ⟨o0_on, trivial, rfl, by simp⟩).go hm false o0_on
/-! ### The machine -/
def upS : Stp := (o0, false, ())
/-- The stops of the machine that is compiled. -/
def csL (l : List Stp) (n : Nat) : List Stp := l ++ List.replicate (n - l.length) upS
theorem csL_len {l : List Stp} {n : Nat} (h : l.length ≤ n) : (csL l n).length = n := by simp [csL]; omega
theorem gS_csL {l : List Stp} {n i : Nat} (hi : i < n) : (csL l n)[i]? = some (gS l i) := by
  unfold csL
  by_cases h : i < l.length
  · rw [List.getElem?_append_left h]
    unfold gS
    rw [List.getD_eq_getElem?_getD, List.getElem?_eq_getElem h]; rfl
  · rw [List.getElem?_append_right (by omega), gS_out (by omega), List.getElem?_replicate, if_pos (by omega)]; rfl
theorem mfR_stops {l : List Stp} {n : Nat} (hl : l.length ≤ n) (hon : ∀ v ∈ l, v.1.length = 2) : stopsM (mfR l n) = csL l n := by
  have hlen : (mfR l n).1.length = n := by simp [mfR]
  refine List.ext_getElem? fun i => ?_
  by_cases hi : i < n
  · rw [gS_csL hi]
    unfold stopsM
    rw [hlen, List.getElem?_map, List.getElem?_range hi]
    have g1 : ∀ f : Nat → Int, g ((List.range n).map f) i = f i := fun f => by unfold g; rw [List.getD_eq_getElem?_getD, List.getElem?_map, List.getElem?_range hi]; rfl
    show some (stopM (mfR l n) i) = _
    unfold stopM mfR
    simp only [g1]
    have h2 : (gS l i).1.length = 2 := by
      by_cases h : i < l.length
      · have := (gS_idx (l := l) (i := (i : Int)) (by omega) (by omega)).mem
        exact hon _ this
      · rw [gS_out (by omega)]; rfl
    generalize gS l i = v at h2 ⊢
    obtain ⟨a, d, u⟩ := v
    have h2 : a.length = 2 := h2
    match a, h2 with
    | [x, y], _ => cases d <;> rfl
  · rw [List.getElem?_eq_none (by simp [stopsM, hlen]; omega), List.getElem?_eq_none (by rw [csL_len hl]; omega)]
theorem mfR_ok {l : List Stp} {n : Nat} (h8 : 8 ≤ n) (hn : n ≤ 360) (hon : ∀ v ∈ l, OnP v.1) : okM (mfR l n) = true ∧ RngM (mfR l n) := by
  have hS : ∀ i, OnP (gS l i).1 := fun i => by
    by_cases h : i < l.length
    · exact hon _ (gS_idx (l := l) (i := (i : Int)) (by omega) (by omega)).mem
    · rw [gS_out (by omega)]; exact o0_on
  have key : ∀ f : Nat → Int, (∀ i, 0 ≤ f i ∧ f i ≤ 63) → Rng ((List.range n).map f) ∧ okC ((List.range n).map f) = true ∧ mxL ((List.range n).map f) < 64 := by
    intro f hf
    have hb : ∀ v ∈ (List.range n).map f, 0 ≤ v ∧ v ≤ 63 := by
      intro v hv
      obtain ⟨i, _, rfl⟩ := List.mem_map.1 hv
      exact hf i
    refine ⟨⟨by simp; omega, fun v hv => by have := hb v hv; omega⟩, ?_, ?_⟩
    · simp only [okC, Bool.and_eq_true, inR_iff, List.all_eq_true, okV, List.length_map, List.length_range]
      refine ⟨by omega, fun v hv => ?_⟩
      have := hb v hv
      rw [wrap_id (by omega) (by omega)]; omega
    · have hh : ((List.range n).map f).headD 0 ≤ 63 := by
        cases hr : (List.range n).map f with
        | nil => simp
        | cons a r => exact (hb a (by rw [hr]; simp)).2
      have := mxF_le ((List.range n).map f) _ 63 hh (fun v hv => (hb v hv).2)
      unfold mxL; omega
  obtain ⟨x1, x2, x3⟩ := key (fun i => g (gS l i).1 0) (fun i => (hS i).x)
  obtain ⟨y1, y2, y3⟩ := key (fun i => g (gS l i).1 1) (fun i => (hS i).y)
  obtain ⟨p1, p2, p3⟩ := key (fun i => pen (gS l i)) (fun i => by unfold pen; split <;> omega)
  refine ⟨?_, ⟨x1, y1, p1⟩⟩
  simp only [okM, mv, Bool.and_eq_true, decide_eq_true_eq, beq_iff_eq]
  exact ⟨⟨⟨⟨⟨x2, x3⟩, y2, y3⟩, p2⟩, by simp [mfR]⟩, by simp [mfR]⟩
theorem dcy_eq {l : List Stp} (hl : l ≠ []) (h : ∀ k a, l = k ++ [a] → a.2.1 = true → (l.headD ([], false, ())).2.1 = true → a.1 = (l.headD ([], false, ())).1) (x : Mk) : x ∈ dcy l ↔ x ∈ drw l := by
  obtain ⟨hd, hhd⟩ : ∃ hd, hd = l.headD ([], false, ()) := ⟨_, rfl⟩
  have hmem : hd ∈ l := by
    cases l with
    | nil => exact absurd rfl hl
    | cons a r => rw [hhd]; simp
  unfold dcy
  rw [← hhd] at h ⊢
  rcases List.eq_nil_or_concat l with h4 | ⟨k, a, h4⟩
  · exact absurd h4 hl
  · rw [List.concat_eq_append] at h4
    have e := drw_snoc k a hd x
    rw [← h4] at e
    rw [e]
    constructor
    · intro h2
      have hone : x ∈ onk hd → x ∈ drw l := fun h3 => by
        unfold onk at h3
        split at h3
        · rename_i hs
          rw [List.mem_singleton.1 h3]; exact drw_mem l hd hmem hs
        · simp at h3
      rcases h2 with h2 | h2 | h2
      · exact h2
      · unfold sgm at h2
        split at h2
        · rename_i hs
          have := h k a h4 hs.1 hs.2
          rw [this, lineM_same, List.mem_singleton] at h2
          rw [h2]; exact drw_mem l hd hmem hs.2
        · simp at h2
      · exact hone h2
    · exact .inl
/-- What the machine that is compiled draws. -/
theorem csL_draws {most n : Nat} (hm : 1 ≤ most) (h8 : 8 ≤ n) {K : List Stk} (G : ∀ s ∈ K, (1 ≤ (s.length : Int) ∧ (s.length : Int) ≤ 60) ∧ ∀ m ∈ s, OnP m) (hn : (plP most K).length ≤ n) (x : Mk) : x ∈ dcy (csL (plP most K) n) ↔ x ∈ drK K := by
  have hp := plD hm G
  have hc := plNear hm G
  have hlen := csL_len hn
  rw [dcy_eq (by intro e; rw [e] at hlen; simp at hlen; omega)]
  · unfold csL
    rw [drw_ups _ _ (fun b hb => by rw [(List.mem_replicate.1 hb).2]; rfl)]
    exact hp.draws x
  · intro k a e ha hd
    by_cases hz : n - (plP most K).length = 0
    · have e1 : csL (plP most K) n = plP most K := by unfold csL; rw [hz]; simp
      rw [e1] at e hd ⊢
      have h1 := hp.last k a e
      rw [h1]
      show o0 = _
      -- the first stop is down: it is where the plan begins
      unfold plP at hd ⊢
      cases K with
      | nil =>
        have : goL most false (plF most []).1 o0 = [] := by
          show goL most false o0 o0 = []
          unfold goL
          rw [lineM_same]; exact goF_last _ _ _ _ (by simp)
        rw [this] at hd
        simp [plF] at hd
      | cons s r =>
        obtain ⟨h1', h2'⟩ := G s (by simp)
        have h0 : OnP (gM s 0) := h2' _ (gM_idx (L := s) (i := 0) (Int.le_refl _) (by omega)).mem
        have pre1 : ∀ (l : List Mk) (st : Mk × List Stp), ∃ q, (l.foldl (drF most) st).2 = st.2 ++ q := by
          intro l
          induction l with
          | nil => intro st; exact ⟨[], by simp⟩
          | cons m l ih => intro st; obtain ⟨q, hq⟩ := ih (drF most st m); exact ⟨goL most true st.1 m ++ q, by rw [List.foldl_cons, hq]; simp [drF]⟩
        have pre2 : ∀ (l : List Stk) (st : Mk × List Stp), ∃ q, (l.foldl (stF most) st).2 = st.2 ++ q := by
          intro l
          induction l with
          | nil => intro st; exact ⟨[], by simp⟩
          | cons s l ih =>
            intro st
            obtain ⟨q, hq⟩ := ih (stF most st s)
            obtain ⟨q1, hq1⟩ := pre1 (s.drop 1) (gM s 0, st.2 ++ goL most false st.1 (gM s 0) ++ [(gM s 0, true, ())])
            have : (stF most st s).2 = st.2 ++ goL most false st.1 (gM s 0) ++ [(gM s 0, true, ())] ++ q1 := hq1
            exact ⟨goL most false st.1 (gM s 0) ++ [(gM s 0, true, ())] ++ q1 ++ q, by rw [List.foldl_cons, hq, this]; simp⟩
        obtain ⟨q1, hq1⟩ := pre1 (s.drop 1) (gM s 0, [] ++ goL most false o0 (gM s 0) ++ [(gM s 0, true, ())])
        obtain ⟨q2, hq2⟩ := pre2 r (stF most (o0, []) s)
        have hq1' : (stF most (o0, []) s).2 = [] ++ goL most false o0 (gM s 0) ++ [(gM s 0, true, ())] ++ q1 := hq1
        have e2 : (plF most (s :: r)).2 = goL most false o0 (gM s 0) ++ ((gM s 0, true, ()) :: (q1 ++ q2)) := by
          show (r.foldl (stF most) (stF most (o0, []) s)).2 = _
          rw [hq2, hq1']; simp
        rw [e2] at hd ⊢
        cases hg : goL most false o0 (gM s 0) with
        | nil =>
          have := goL_nil o0_on h0 hg
          simp [← this]
        | cons c t =>
          rw [hg] at hd
          have hc : c.2.1 = false := goF_ups most _ 64 0 c (by
            have : goF most false (lineM o0 (gM s 0)) 64 0 = goL most false o0 (gM s 0) := rfl
            rw [this, hg]; simp)
          simp [hc] at hd
    · exfalso
      obtain ⟨j, hj⟩ : ∃ j, n - (plP most K).length = j + 1 := ⟨n - (plP most K).length - 1, by omega⟩
      unfold csL at e
      rw [hj, List.replicate_succ', ← List.append_assoc] at e
      have e2 : upS = a := by have := (List.append_inj' e rfl).2; simpa using this
      rw [← e2] at ha
      cases ha
end Go.Cams

/- Inner loops with untold results; drawn strokes. -/
namespace Go.Fw
variable {α β σ τ : Type}
theorem inner_ex {f : Nat → (σ → Option α) → τ → (τ → Option α) → Option α} (I : τ → Prop) (μ : τ → Nat) (Q : σ → Prop) {x : τ} (h : I x)
    (step : ∀ x, I x → (∃ s, Q s ∧ ∀ y, Round (σ := σ ⊕ τ) (fun n ag => f n (fun s => ag (.inl s)) x (fun t => ag (.inr t))) y (fun z => z = .inl s)) ∨ (∃ x1, I x1 ∧ μ x1 < μ x ∧ ∀ y, Round (σ := σ ⊕ τ) (fun n ag => f n (fun s => ag (.inl s)) x (fun t => ag (.inr t))) y (fun z => z = .inr x1))) :
    ∃ s, Q s ∧ ∀ y, Round (fun n ag => loopK (f n ag) n x) y (fun x' => x' = s) := by
  have key : ∀ m x, I x → μ x ≤ m → ∃ s, Q s ∧ ∀ y, (∃ N, ∀ n, N ≤ n → ∀ k, m < k → ∀ ag, loopK (f n ag) k x = some y) ∨ (∃ N, ∀ n, N ≤ n → ∀ k, m < k → ∀ ag, loopK (f n ag) k x = ag s) := by
    intro m
    induction m with
    | zero =>
      intro x hx hm
      rcases step x hx with ⟨s, hs, hR⟩ | ⟨x1, _, hlt, _⟩
      · refine ⟨s, hs, fun y => ?_⟩
        rcases hR y with ⟨N, hN⟩ | ⟨z, rfl, N, hN⟩
        · refine .inl ⟨N, fun n hn k hk ag => ?_⟩
          obtain ⟨k, rfl⟩ : ∃ j, k = j + 1 := ⟨k - 1, by omega⟩
          exact hN n hn (fun z => match z with | .inl s => ag s | .inr t => loopK (f n ag) k t)
        · refine .inr ⟨N, fun n hn k hk ag => ?_⟩
          obtain ⟨k, rfl⟩ : ∃ j, k = j + 1 := ⟨k - 1, by omega⟩
          exact hN n hn (fun z => match z with | .inl s => ag s | .inr t => loopK (f n ag) k t)
      · omega
    | succ m ih =>
      intro x hx hm
      rcases step x hx with ⟨s, hs, hR⟩ | ⟨x1, hx1, hlt, hR⟩
      · refine ⟨s, hs, fun y => ?_⟩
        rcases hR y with ⟨N, hN⟩ | ⟨z, rfl, N, hN⟩
        · refine .inl ⟨N, fun n hn k hk ag => ?_⟩
          obtain ⟨k, rfl⟩ : ∃ j, k = j + 1 := ⟨k - 1, by omega⟩
          exact hN n hn (fun z => match z with | .inl s => ag s | .inr t => loopK (f n ag) k t)
        · refine .inr ⟨N, fun n hn k hk ag => ?_⟩
          obtain ⟨k, rfl⟩ : ∃ j, k = j + 1 := ⟨k - 1, by omega⟩
          exact hN n hn (fun z => match z with | .inl s => ag s | .inr t => loopK (f n ag) k t)
      · obtain ⟨s, hs, hS⟩ := ih x1 hx1 (by omega)
        refine ⟨s, hs, fun y => ?_⟩
        rcases hR y with ⟨N, hN⟩ | ⟨z, rfl, N, hN⟩
        · refine .inl ⟨N, fun n hn k hk ag => ?_⟩
          obtain ⟨k, rfl⟩ : ∃ j, k = j + 1 := ⟨k - 1, by omega⟩
          exact hN n hn (fun z => match z with | .inl s => ag s | .inr t => loopK (f n ag) k t)
        · have h1 : ∀ n, N ≤ n → ∀ k ag, loopK (f n ag) (k + 1) x = loopK (f n ag) k x1 := fun n hn k ag => hN n hn (fun z => match z with | .inl s => ag s | .inr t => loopK (f n ag) k t)
          rcases hS y with ⟨M, hM⟩ | ⟨M, hM⟩
          · refine .inl ⟨N + M, fun n hn k hk ag => ?_⟩
            obtain ⟨k, rfl⟩ : ∃ j, k = j + 1 := ⟨k - 1, by omega⟩
            rw [h1 n (by omega)]
            exact hM n (by omega) k (by omega) ag
          · refine .inr ⟨N + M, fun n hn k hk ag => ?_⟩
            obtain ⟨k, rfl⟩ : ∃ j, k = j + 1 := ⟨k - 1, by omega⟩
            rw [h1 n (by omega)]
            exact hM n (by omega) k (by omega) ag
  obtain ⟨s, hs, hS⟩ := key (μ x) x h (Nat.le_refl _)
  refine ⟨s, hs, fun y => ?_⟩
  rcases hS y with ⟨N, hN⟩ | ⟨N, hN⟩
  · left; exact ⟨N + μ x + 1, fun n hn ag => hN n (by omega) n (by omega) ag⟩
  · right; exact ⟨s, rfl, N + μ x + 1, fun n hn ag => hN n (by omega) n (by omega) ag⟩
end Go.Fw
namespace Go.Cams
open Go Go.Fw
/-- Strokes as they are drawn. -/
def SmT (K : List Stk) : Prop := K.length ≤ 4 ∧ ∀ s ∈ K, (1 ≤ s.length ∧ s.length ≤ 4) ∧ ∀ m ∈ s, OnP m
theorem SmT.good {K : List Stk} (h : SmT K) : ∀ s ∈ K, (1 ≤ (s.length : Int) ∧ (s.length : Int) ≤ 60) ∧ ∀ m ∈ s, OnP m := fun s hs => ⟨by have := (h.2 s hs).1; omega, (h.2 s hs).2⟩
theorem SmT.rng {K : List Stk} (h : SmT K) : RngT K := ⟨by have := h.1; omega, fun s hs => ⟨by have := (h.2 s hs).1; omega, fun m hm => ⟨((h.2 s hs).2 m hm).len, onP_rng ((h.2 s hs).2 m hm)⟩⟩⟩
theorem okMk_of {m : Mk} (h : OnP m) : okMk m = true := by
  have hx := h.x; have hy := h.y
  simp only [okMk, Bool.and_eq_true, inR_iff]
  rw [wrap_id (by omega) (by omega), wrap_id (by omega) (by omega)]
  exact ⟨hx, hy⟩
theorem skCode_ok {K : List Stk} (hl : K.length ≤ 20) (G : ∀ s ∈ K, (1 ≤ (s.length : Int) ∧ (s.length : Int) ≤ 60) ∧ ∀ m ∈ s, OnP m) : skCode K = 0 := by
  unfold skCode
  have h1 : K.all okSk = true := List.all_eq_true.2 fun s hs => by
    simp only [okSk, Bool.and_eq_true, inR_iff, List.all_eq_true]
    exact ⟨(G s hs).1, fun m hm => okMk_of ((G s hs).2 m hm)⟩
  rw [h1, if_neg (by simp), if_neg (by omega)]
/-- The marks of a stroke, as they are drawn one after another. -/
def skM (s : Stk) : Nat → List Mk
  | 0 => []
  | k + 1 => skM s k ++ (if k = 0 then [gM s 0] else gM s k :: lineM (gM s (k - 1)) (gM s k))
theorem skM_on {s : Stk} (h : ∀ m ∈ s, OnP m) : ∀ k, k ≤ s.length → ∀ m ∈ skM s k, OnP m
  | 0, _, m, hm => by simp [skM] at hm
  | k + 1, hk, m, hm => by
    have hat : ∀ i, i < s.length → OnP (gM s i) := fun i hi => h _ (gM_idx (L := s) (i := (i : Int)) (by omega) (by omega)).mem
    unfold skM at hm
    rcases List.mem_append.1 hm with hm | hm
    · exact skM_on h k (by omega) m hm
    · split at hm
      · rename_i e
        rw [List.mem_singleton.1 hm]; exact hat 0 (by omega)
      · rcases List.mem_cons.1 hm with rfl | hm
        · exact hat k (by omega)
        · exact lineM_on (hat (k - 1) (by omega)) (hat k (by omega)) m hm
theorem drs_take {s : Stk} (h : ∀ m ∈ s, OnP m) (x : Mk) : ∀ k, k ≤ s.length → (x ∈ drs (s.take k) ↔ x ∈ skM s k)
  | 0, _ => by simp [drs, drw, skM]
  | 1, hk => by
    have e : s.take 1 = [gM s 0] := by
      cases s with
      | nil => simp at hk
      | cons a r => rfl
    rw [e]
    simp [drs, drw, onk, dwn, skM]
  | k + 2, hk => by
    have ih := drs_take h x (k + 1) (by omega)
    have hg : ∀ i, i < s.length → s.take (i + 1) = s.take i ++ [gM s i] := fun i hi => by
      have := (gM_idx (L := s) (i := (i : Int)) (by omega) (by omega)).take
      rwa [Int.toNat_natCast, show ((i : Int) + 1).toNat = i + 1 by omega] at this
    rw [hg (k + 1) (by omega), hg k (by omega), drs_snoc, ← hg k (by omega), ih]
    show _ ↔ x ∈ skM s (k + 1) ++ (if k + 1 = 0 then [gM s 0] else gM s (k + 1) :: lineM (gM s (k + 1 - 1)) (gM s (k + 1)))
    rw [if_neg (by omega), Nat.add_sub_cancel, List.mem_append, List.mem_cons]
    constructor <;> intro h <;> rcases h with h | h | h <;> simp [h]
/-- The marks of strokes. -/
def kM (K : List Stk) (i : Nat) : List Mk := (K.take i).flatMap fun s => skM s s.length
theorem kM_draws {K : List Stk} (G : ∀ s ∈ K, ∀ m ∈ s, OnP m) (x : Mk) : x ∈ kM K K.length ↔ x ∈ drK K := by
  unfold kM drK
  rw [List.take_length, List.mem_flatMap, List.mem_flatMap]
  have : ∀ s ∈ K, (x ∈ skM s s.length ↔ x ∈ drs s) := fun s hs => by
    have := drs_take (G s hs) x s.length (Nat.le_refl _)
    rw [List.take_length] at this
    exact this.symm
  exact ⟨fun ⟨s, hs, h⟩ => ⟨s, hs, (this s hs).1 h⟩, fun ⟨s, hs, h⟩ => ⟨s, hs, (this s hs).2 h⟩⟩
theorem drK_plt {K : List Stk} (G : ∀ s ∈ K, ∀ m ∈ s, OnP m) : plt (kM K K.length) = plt (drK K) := plate_ext fun x => kM_draws G x
theorem plt_len (L : List Mk) : (plt L).length = 64 := by simp [plt, tb_len]
/-- The machine that is compiled of drawn strokes. -/
theorem csR_cases {K : List Stk} (h : SmT K) {most : Int} (h1 : 1 ≤ most) (h2 : most ≤ 63) : ((psR K most).2.1 = 4 ∧ (csR K most).2.1 = 4) ∨ (psR K most = (plP most.toNat K, 0, ()) ∧ (plP most.toNat K).length ≤ 360 ∧ csR K most = (mfR (plP most.toNat K) (max 8 (plP most.toNat K).length), 0, ())) := by
  have hc := skCode_ok (by have := h.1; omega) h.good
  have hi : inR most 1 63 = true := inR_iff.2 ⟨h1, h2⟩
  by_cases hl : ((plP most.toNat K).length : Int) > 360
  · left
    have e : psR K most = ([], 4, ()) := by unfold psR; rw [if_neg (by simp [hc]), if_neg (by simp [hi]), if_pos hl]
    refine ⟨by rw [e], ?_⟩
    unfold csR; rw [e]; rfl
  · right
    have e : psR K most = (plP most.toNat K, 0, ()) := by unfold psR; rw [if_neg (by simp [hc]), if_neg (by simp [hi]), if_neg hl]
    refine ⟨e, by omega, ?_⟩
    unfold csR; rw [e]; rfl
/-- What is known of that machine. -/
structure CmpM (K : List Stk) (most : Int) (m : Mch) (l : List Stp) : Prop where
  ok : okM m = true
  rng : RngM m
  len : l.length ≤ 360
  n8 : 8 ≤ m.1.length
  stops : stopsM m = csL l (max 8 l.length)
  mlen : m.1.length = max 8 l.length
  draw : drawTo m m.1.length = plt (drK K)
  on : ∀ v ∈ l, OnP v.1
  ch : Ch most o0 l ∧ endM o0 l = o0
theorem cmpM {K : List Stk} (h : SmT K) {most : Int} (h1 : 1 ≤ most) (h2 : most ≤ 63) (hl : (plP most.toNat K).length ≤ 360) : CmpM K most (mfR (plP most.toNat K) (max 8 (plP most.toNat K).length)) (plP most.toNat K) := by
  have hm : 1 ≤ most.toNat := by omega
  have hn := plNear hm h.good
  have e : ((most.toNat : Nat) : Int) = most := by omega
  obtain ⟨a, b⟩ := mfR_ok (l := plP most.toNat K) (n := max 8 (plP most.toNat K).length) (by omega) (by omega) hn.on
  have hs := mfR_stops (l := plP most.toNat K) (n := max 8 (plP most.toNat K).length) (by omega) (fun v hv => (hn.on v hv).len)
  have hml : (mfR (plP most.toNat K) (max 8 (plP most.toNat K).length)).1.length = max 8 (plP most.toNat K).length := by simp [mfR]
  refine ⟨a, b, hl, by rw [hml]; omega, hs, hml, ?_, hn.on, by have := hn.ch; rw [e] at this; exact this, hn.end_⟩
  rw [drawTo_dcy b (goodM a), hs]
  exact plate_ext fun x => csL_draws hm (by omega) h.good (by omega) x
/-- No move is longer than told. -/
theorem Ch.get {most : Int} : ∀ {l : List Stp} {a : Mk}, Ch most a l → ∀ {i : Nat} {s t : Stp}, l[i]? = some s → l[i + 1]? = some t → far s.1 t.1 ≤ most
  | [], _, _, i, s, t, h, _ => by simp at h
  | [c], _, _, i, s, t, _, h => by simp at h
  | c :: d :: r, a, h, 0, s, t, h1, h2 => by
    simp at h1 h2
    subst h1; subst h2
    exact h.2.1
  | c :: d :: r, a, h, i + 1, s, t, h1, h2 => Ch.get (l := d :: r) (a := c.1) h.2 (i := i) (by simpa using h1) (by simpa using h2)
theorem Ch.first {most : Int} {l : List Stp} {a : Mk} {t : Stp} (h : Ch most a l) (h2 : l[0]? = some t) : far a t.1 ≤ most := by
  cases l with
  | nil => simp at h2
  | cons c r => simp at h2; subst h2; exact h.1
theorem endM_get {l : List Stp} {a : Mk} {s : Stp} (h : l[l.length - 1]? = some s) : endM a l = s.1 := by
  rcases List.eq_nil_or_concat l with h4 | ⟨k, b, h4⟩
  · subst h4; simp at h
  · rw [List.concat_eq_append] at h4
    subst h4
    rw [endM_snoc]
    simp at h
    rw [h]
theorem csL_near {most : Int} (h1 : 1 ≤ most) {l : List Stp} {n : Nat} (hl : l.length ≤ n) (hc : Ch most o0 l ∧ endM o0 l = o0) {i : Nat} (hi : i < n) {s t : Stp} (hs : (csL l n)[i]? = some s) (ht : (csL l n)[(i + 1) % n]? = some t) : far s.1 t.1 ≤ most := by
  have hup : ∀ k, Ch most o0 (List.replicate k upS) ∧ endM o0 (List.replicate k upS) = o0 := by
    intro k
    induction k with
    | zero => exact ⟨trivial, rfl⟩
    | succ k ih => exact ⟨⟨by show far o0 o0 ≤ most; rw [far_self]; omega, ih.1⟩, ih.2⟩
  have hch : Ch most o0 (csL l n) := by unfold csL; rw [ch_append, hc.2]; exact ⟨hc.1, (hup _).1⟩
  have hend : endM o0 (csL l n) = o0 := by unfold csL; rw [endM_append, hc.2]; exact (hup _).2
  have hlen := csL_len hl
  by_cases h : i + 1 < n
  · rw [Nat.mod_eq_of_lt h] at ht
    exact hch.get hs ht
  · have e : i + 1 = n := by omega
    rw [e, Nat.mod_self] at ht
    have hs' : (csL l n)[(csL l n).length - 1]? = some s := by rw [hlen, show n - 1 = i by omega]; exact hs
    have := endM_get (a := o0) hs'
    rw [hend] at this
    rw [← this]
    exact hch.first ht
end Go.Cams
namespace Go.Cams
open Go Go.Fw
theorem allS_same (p : List Int) : ∀ y, allS (dif p p) y = (0, [0, 0])
  | 0 => rfl
  | y + 1 => by
    have h : dif p p y = 0 := by unfold dif; exact Nat.xor_self _
    unfold allS
    rw [allS_same p y, h, rowS_zero]
theorem trS_ne {p : List Stk × Stk} (h : ∀ s ∈ p.1, s ≠ []) (s : Stp) : ∀ t ∈ (trS p s).1, t ≠ [] := by
  intro t ht
  unfold trS at ht
  split at ht
  · by_cases e : p.2 = []
    · rw [if_pos e] at ht; exact h t ht
    · rw [if_neg e] at ht
      rcases List.mem_append.1 ht with ht | ht
      · exact h t ht
      · rw [List.mem_singleton.1 ht]; exact e
  · split at ht
    · rename_i e
      rcases List.mem_append.1 ht with ht | ht
      · exact h t ht
      · rw [List.mem_singleton.1 ht]; intro e2; rw [e2] at e; simp at e
    · exact h t ht
theorem trL_ne (l : List Stp) : ∀ t ∈ (trL l).1, t ≠ [] := by
  refine rev_ind (P := fun l => ∀ t ∈ (trL l).1, t ≠ []) (fun t ht => by simp [trL] at ht) (fun l s ih => ?_) l
  rw [trL_snoc]; exact trS_ne ih s
theorem shutT_ne {p : List Stk × Stk} (h : ∀ s ∈ p.1, s ≠ []) : ∀ t ∈ shutT p, t ≠ [] := by
  intro t ht
  unfold shutT at ht
  split at ht
  · exact h t ht
  · rename_i e
    rcases List.mem_append.1 ht with ht | ht
    · exact h t ht
    · rw [List.mem_singleton.1 ht]; exact e
theorem trR_ne (l : List Stp) : ∀ t ∈ trR l, t ≠ [] := by
  rw [trR_eq]
  have h := trL_ne l
  split
  · exact h
  · split
    · exact shutT_ne (trS_ne h _)
    · rename_i e _
      have := shutT_ne h
      simpa [shutT, e] using this
theorem far_nn (a b : Mk) : 0 ≤ far a b := by
  unfold far
  have : ∀ x, 0 ≤ siz x := fun x => by unfold siz; split <;> omega
  have := this (g a 0 - g b 0)
  omega
theorem siz_of {x : Int} (h : 0 ≤ x) : siz x = x := by unfold siz; rw [if_neg (by omega)]
def mvS (l : List Stp) : List Int := tb l.length fun i => far (gS l i).1 (gS l ((i + 1) % l.length)).1
/-- No move of the compiled machine is longer than told. -/
theorem cmp_moves {K : List Stk} {most : Int} (h1 : 1 ≤ most) {m : Mch} {l : List Stp} (h : CmpM K most m l) : (gr (mvS (stopsM m))).2.1 ≤ most := by
  unfold gr
  rw [gr_le]
  refine ⟨by show (-1 : Int) ≤ most; omega, fun v hv => ?_⟩
  obtain ⟨i, hi, rfl⟩ := tb_mem hv
  rw [h.stops] at hi ⊢
  have hlen := csL_len (l := l) (n := max 8 l.length) (by omega)
  rw [hlen] at hi ⊢
  have hm := Nat.mod_lt (i + 1) (show 0 < max 8 l.length by omega)
  have e : ∀ j, j < max 8 l.length → (csL l (max 8 l.length))[j]? = some (gS (csL l (max 8 l.length)) j) := fun j hj => by
    have := (gS_idx (l := csL l (max 8 l.length)) (i := (j : Int)) (by omega) (by omega)).get
    rwa [Int.toNat_natCast] at this
  rw [siz_of (far_nn _ _)]
  exact csL_near h1 (by omega) h.ch hi (e i hi) (e _ hm)
/-- What a machine's strokes draw, is what it draws. -/
theorem soR_draws {m : Mch} (hr : RngM m) (h : okM m = true) (h2 : (soR m).2.1 = 0) : skCode (soR m).1 = 0 ∧ plt (drK (soR m).1) = drawTo m m.1.length := by
  have G := goodM h
  have lx := okC_len G.x
  have hl : (stopsM m).length = m.1.length := by simp [stopsM]
  have hon : ∀ s ∈ stopsM m, OnP s.1 := by
    intro s hs
    simp only [stopsM, List.mem_map, List.mem_range] at hs
    obtain ⟨i, hi, rfl⟩ := hs
    exact stop_on hr G hi
  have hk := trR_ok (stopsM m) (by omega) hon
  have e : soR m = (trR (stopsM m), 0, ()) ∧ (trR (stopsM m)).length ≤ 20 := by
    unfold soR at h2 ⊢
    rw [if_pos h] at h2 ⊢
    split at h2
    · cases h2
    · rename_i h3
      rw [if_neg h3]
      exact ⟨rfl, by omega⟩
  rw [e.1]
  refine ⟨skCode_ok e.2 fun s hs => ⟨⟨?_, by have := (hk.2 s hs).1; omega⟩, (hk.2 s hs).2⟩, ?_⟩
  · have := trR_ne _ s hs
    have := List.length_pos_iff.2 this
    omega
  · rw [drawTo_dcy hr G]
    exact plate_ext fun x => trR_draws _ (by intro e; rw [e] at hl; simp at hl; omega) x
end Go.Cams

/- Flat cutters and feet; springs that keep a follower on its cam; shafts that turn with the machine, in plain terms. -/
namespace Go.Cams
open Go Go.Fw
/-! ### Flat cutters -/
theorem g_fl0 (f i : Nat) : g (List.replicate (2 * f + 1) (0 : Int)) i = 0 := by
  unfold g
  rw [List.getD_eq_getElem?_getD, List.getElem?_replicate]
  split <;> rfl
theorem good_fl0 {f : Nat} (h : f ≤ 15) : GoodK (List.replicate (2 * f + 1) (0 : Int)) := by
  refine ⟨by simp, by simp; omega, by simp, g_fl0 _ _, fun i _ => by rw [g_fl0]; omega, fun i _ => by rw [g_fl0, g_fl0]⟩
theorem okK_fl0 {f : Nat} (h : f ≤ 15) : okK (List.replicate (2 * f + 1) (0 : Int)) = true ∧ Rng (List.replicate (2 * f + 1) (0 : Int)) := by
  refine ⟨?_, ⟨by simp; omega, fun v hv => by rw [(List.mem_replicate.1 hv).2]; omega⟩⟩
  simp only [okK, Bool.and_eq_true, inR_iff, decide_eq_true_eq, beq_iff_eq, allTo_iff, List.length_replicate]
  refine ⟨⟨⟨by omega, by omega⟩, g_fl0 _ _⟩, fun i _ => ?_⟩
  unfold kOne
  rw [g_fl0, g_fl0, g_fl0]
  simp [inR_iff, show inR (wr .i64 0) 0 10000 = true from rfl]
theorem half_fl0 (f : Nat) : half (List.replicate (2 * f + 1) (0 : Int)) = f := by
  unfold half
  rw [List.length_replicate]; omega
theorem tip_fl0 (c : List Int) (f : Nat) (s m : Int) : tip c (List.replicate (2 * f + 1) (0 : Int)) s ≤ m ↔ (tipTo c (List.replicate (2 * f + 1) (0 : Int)) s 0 ≤ m ∧ ∀ i : Nat, i < 2 * f + 1 → cAt c (s + i - f) ≤ m) := by
  have key : ∀ k : Nat, tipTo c (List.replicate (2 * f + 1) (0 : Int)) s k ≤ m ↔ (tipTo c (List.replicate (2 * f + 1) (0 : Int)) s 0 ≤ m ∧ ∀ i : Nat, i < k → cAt c (s + i - f) ≤ m) := by
    intro k
    induction k with
    | zero => simp
    | succ k ih =>
      rw [tipTo_succ, g_fl0, half_fl0]
      constructor
      · intro H
        have h1 := ih.1 (by omega)
        refine ⟨h1.1, fun i hi => ?_⟩
        by_cases e : i = k
        · subst e; omega
        · exact h1.2 i (by omega)
      · rintro ⟨h1, h2⟩
        have h3 := ih.2 ⟨h1, fun i hi => h2 i (by omega)⟩
        have := h2 k (by omega)
        omega
  unfold tip
  rw [List.length_replicate]
  exact key _
theorem lf_fl0 (c : List Int) (f : Nat) (p m : Int) : m ≤ lf c (List.replicate (2 * f + 1) (0 : Int)) p ↔ (m ≤ tip c (List.replicate (2 * f + 1) (0 : Int)) p ∧ ∀ i : Nat, i < 2 * f + 1 → m ≤ tip c (List.replicate (2 * f + 1) (0 : Int)) ((p + i - f) % c.length)) := by
  have key : ∀ k : Nat, m ≤ lfTo c (List.replicate (2 * f + 1) (0 : Int)) p k ↔ (m ≤ tip c (List.replicate (2 * f + 1) (0 : Int)) p ∧ ∀ i : Nat, i < k → m ≤ tip c (List.replicate (2 * f + 1) (0 : Int)) ((p + i - f) % c.length)) := by
    intro k
    induction k with
    | zero => simp [lfTo]
    | succ k ih =>
      rw [lfTo_succ, g_fl0, half_fl0]
      constructor
      · intro H
        have h1 := ih.1 (by omega)
        refine ⟨h1.1, fun i hi => ?_⟩
        by_cases e : i = k
        · subst e; omega
        · exact h1.2 i (by omega)
      · rintro ⟨h1, h2⟩
        have h3 := ih.2 ⟨h1, fun i hi => h2 i (by omega)⟩
        have := h2 k (by omega)
        omega
  unfold lf
  rw [List.length_replicate]
  exact key _
theorem tip_up {c : List Int} (hC : ∀ x, 0 ≤ cAt c x) (f : Nat) (s : Int) : tip c (List.replicate (2 * f + 1) (0 : Int)) s = upW (cAt c) f s := by
  have key : ∀ m, tip c (List.replicate (2 * f + 1) (0 : Int)) s ≤ m ↔ upW (cAt c) f s ≤ m := fun m => by
    rw [tip_fl0, upW_le]
    constructor
    · rintro ⟨_, h⟩ d d0 d1
      have := h (d + f).toNat (by omega)
      rwa [show s + (((d + f).toNat : Nat) : Int) - (f : Nat) = s + d by omega] at this
    · intro h
      refine ⟨?_, fun i hi => by have := h ((i : Int) - f) (by omega) (by omega); rwa [show s + ((i : Int) - f) = s + i - f by omega] at this⟩
      have h0 := h 0 (by omega) (by omega)
      rw [Int.add_zero] at h0
      have h1 := hC s
      have : tipTo c (List.replicate (2 * f + 1) (0 : Int)) s 0 = cAt c s ∨ tipTo c (List.replicate (2 * f + 1) (0 : Int)) s 0 = 0 := by
        unfold tipTo
        first | exact .inl rfl | exact .inr rfl
      omega
  exact Int.le_antisymm ((key _).2 (Int.le_refl _)) ((key _).1 (Int.le_refl _))
theorem upW_mod (c : List Int) (f : Nat) (x : Int) : upW (cAt c) f (x % c.length) = upW (cAt c) f x := by
  unfold upW; exact wTo_per f x _
theorem lf_rc {c : List Int} (hC : ∀ x, 0 ≤ cAt c x) (f : Nat) (p : Int) : lf c (List.replicate (2 * f + 1) (0 : Int)) p = rcW (cAt c) f p := by
  have key : ∀ m, m ≤ lf c (List.replicate (2 * f + 1) (0 : Int)) p ↔ m ≤ rcW (cAt c) f p := fun m => by
    rw [lf_fl0]
    unfold rcW
    rw [le_dnW]
    simp only [tip_up hC, upW_mod]
    constructor
    · rintro ⟨_, h⟩ d d0 d1
      have := h (d + f).toNat (by omega)
      rwa [show p + (((d + f).toNat : Nat) : Int) - (f : Nat) = p + d by omega] at this
    · intro h
      refine ⟨by have := h 0 (by omega) (by omega); rwa [Int.add_zero] at this, fun i hi => by have := h ((i : Int) - f) (by omega) (by omega); rwa [show p + ((i : Int) - f) = p + i - f by omega] at this⟩
  exact Int.le_antisymm ((key _).1 (Int.le_refl _)) ((key _).2 (Int.le_refl _))
/-- What a flat cutter leaves of a cam is what a foot of its width reaches. -/
theorem left_rcL {c : List Int} (hr : Rng c) (ok : okC c = true) {f : Nat} (h : f ≤ 15) : leftL c (List.replicate (2 * f + 1) (0 : Int)) = rcL c f := by
  have lx := okC_len ok
  have hC := okC_el ok hr
  have h0 : 0 < c.length := by omega
  refine cAt_ext (by rw [leftL_len, rcL_len]) fun i hi => ?_
  rw [rcL_len] at hi
  rw [rcL_at h0, cAt_self (by rw [leftL_len]; exact hi), leftL_g h0 hC (good_fl0 h) hi]
  exact lf_rc (fun x => (hC _ (cAt_mem h0 x)).1) f i
/-! ### Springs -/
def bends (c : List Int) : List Int := tb c.length fun i => bendP c (i : Nat)
def sprL (l : List Int) (n : Nat) : Int := (l.take n).foldl (fun m v => max m (-v)) 1
def sprF (l : List Int) : Int := l.foldl (fun m v => max m (-v)) 1
theorem sprF_snoc (l : List Int) (v : Int) : sprF (l ++ [v]) = max (sprF l) (-v) := by simp [sprF]
theorem sprF_le' : ∀ (l : List Int) (q m : Int), l.foldl (fun m v => max m (-v)) q ≤ m ↔ (q ≤ m ∧ ∀ v ∈ l, -v ≤ m)
  | [], q, m => by simp
  | v :: l, q, m => by
    rw [List.foldl_cons, sprF_le' l _ m]
    constructor
    · rintro ⟨h1, h2⟩
      refine ⟨by omega, fun u hu => ?_⟩
      rcases List.mem_cons.1 hu with rfl | hu
      · omega
      · exact h2 u hu
    · rintro ⟨h1, h2⟩
      have := h2 v (by simp)
      exact ⟨by omega, fun u hu => h2 u (by simp [hu])⟩
theorem sprF_le (l : List Int) (m : Int) : sprF l ≤ m ↔ (1 ≤ m ∧ ∀ v ∈ l, -v ≤ m) := sprF_le' l 1 m
theorem sprF_mn {l : List Int} (h : l ≠ []) : (if -(mnL l) > 1 then -(mnL l) else 1) = sprF l := by
  have hm : ∀ m : Int, m ≤ mnL l ↔ ∀ v ∈ l, m ≤ v := fun m => by
    constructor
    · intro h1 v hv
      have := (mnF_ge l (l.headD 0)).2 v hv
      unfold mnL at h1; omega
    · intro h1
      cases l with
      | nil => exact absurd rfl h
      | cons a r => exact mnF_le (a :: r) a m (h1 a (by simp)) h1
  have key : ∀ m : Int, (if -(mnL l) > 1 then -(mnL l) else 1) ≤ m ↔ sprF l ≤ m := fun m => by
    rw [sprF_le]
    have h1 := hm (-m)
    have h2 : (∀ v ∈ l, -v ≤ m) ↔ ∀ v ∈ l, -m ≤ v := ⟨fun h v hv => by have := h v hv; omega, fun h v hv => by have := h v hv; omega⟩
    rw [h2, ← h1]
    split <;> omega
  exact Int.le_antisymm ((key _).2 (Int.le_refl _)) ((key _).1 (Int.le_refl _))
theorem bends_bd {c : List Int} (h0 : 0 < c.length) (hC : ∀ v ∈ c, 0 ≤ v ∧ v ≤ 10000) (x : Int) : -20000 ≤ bendP c x ∧ bendP c x ≤ 20000 := by
  have a := hC _ (cAt_mem h0 (x + 1))
  have b := hC _ (cAt_mem h0 x)
  have d := hC _ (cAt_mem h0 (x - 1))
  unfold bendP; omega
theorem bendP_mod {c : List Int} (x : Int) : bendP c (x % c.length) = bendP c x := by
  unfold bendP
  have h1 : cAt c (x % c.length + 1) = cAt c (x + 1) := by unfold cAt; rw [Int.emod_add_emod]
  have h2 : cAt c (x % c.length - 1) = cAt c (x - 1) := by unfold cAt; rw [Int.emod_sub_emod]
  rw [h1, h2, cAt_mod]
/-- With its least spring a follower stays on its cam. -/
theorem spr_bend {c : List Int} (h0 : 0 < c.length) (x : Int) : -(bendP c x) ≤ sprF (bends c) := by
  have h := ((sprF_le (bends c) (sprF (bends c))).1 (Int.le_refl _)).2
  have h1 := Int.emod_nonneg x (show (c.length : Int) ≠ 0 by omega)
  have h2 := Int.emod_lt_of_pos x (show (0 : Int) < c.length by omega)
  have h3 := h (bendP c (((x % c.length).toNat : Nat) : Int)) (by
    unfold bends tb
    exact List.mem_map.2 ⟨(x % c.length).toNat, by simp; omega, rfl⟩)
  rw [show (((x % c.length).toNat : Nat) : Int) = x % c.length by omega, bendP_mod] at h3
  exact h3
theorem sprF_bd {c : List Int} (h0 : 0 < c.length) (hC : ∀ v ∈ c, 0 ≤ v ∧ v ≤ 10000) : 1 ≤ sprF (bends c) ∧ sprF (bends c) ≤ 20000 := by
  refine ⟨((sprF_le (bends c) (sprF (bends c))).1 (Int.le_refl _)).1, (sprF_le _ _).2 ⟨by omega, fun v hv => ?_⟩⟩
  obtain ⟨i, _, rfl⟩ := tb_mem hv
  have := bends_bd h0 hC i
  omega
theorem sprF_small {c : List Int} (h0 : 0 < c.length) {M : Int} (hM : 1 ≤ M) (hC : ∀ v ∈ c, 0 ≤ v ∧ v ≤ M) : 1 ≤ sprF (bends c) ∧ sprF (bends c) ≤ 2 * M := by
  refine ⟨((sprF_le (bends c) (sprF (bends c))).1 (Int.le_refl _)).1, (sprF_le _ _).2 ⟨by omega, fun v hv => ?_⟩⟩
  obtain ⟨i, _, rfl⟩ := tb_mem hv
  have a := hC _ (cAt_mem h0 ((i : Int) + 1))
  have b := hC _ (cAt_mem h0 (i : Int))
  have d := hC _ (cAt_mem h0 ((i : Int) - 1))
  unfold bendP; omega
theorem bends_len (c : List Int) : (bends c).length = c.length := tb_len _ _
theorem bends_ne {c : List Int} (h0 : 0 < c.length) : bends c ≠ [] := fun h => by
  have := bends_len c
  rw [h] at this
  simp at this
  rw [← this] at h0
  simp at h0
theorem mnL_bd {l : List Int} (h : l ≠ []) {A B : Int} (hb : ∀ v ∈ l, A ≤ v ∧ v ≤ B) : A ≤ mnL l ∧ mnL l ≤ B := by
  cases l with
  | nil => exact absurd rfl h
  | cons a r =>
    have h1 := mnF_le (a :: r) a A (hb a (by simp)).1 (fun v hv => (hb v hv).1)
    have h2 := (mnF_ge (a :: r) a).2 a (by simp)
    have h3 := (hb a (by simp)).2
    exact ⟨h1, by show mnF (a :: r) a ≤ B; omega⟩
abbrev Trk : Type := Int × (Int × (Bool × Unit))
def onT (c : List Int) (t : Nat) : Trk := (cAt c t, cAt c t - cAt c ((t : Int) - 1), true, ())
/-! ### Shafts that turn with the machine -/
def sfM (m : Mch) : List Sft := [(1, 1, 0, m.1, ()), (1, 1, 0, m.2.1, ()), (1, 1, 0, m.2.2.1, ())]
theorem gg_self {a : Int} (h : 0 ≤ a) : gg a a = a := by unfold gg; rw [Nat.gcd_self]; omega
theorem gg_one (a : Int) : gg a 1 = 1 := by unfold gg; simp
theorem own_one {c : List Int} (h : okC c = true) (hr : Rng c) : okS (1, 1, 0, c, ()) = true ∧ own (1, 1, 0, c, ()) = c.length := by
  have lx := okC_len h
  constructor
  · simp only [okS, h, Bool.and_eq_true, inR_iff, and_true]
    rw [wrap_id (x := (c.length : Int) - 1) (by omega) (by omega), wrap_id (x := (1 : Int)) (by omega) (by omega), wrap_id (x := (0 : Int)) (by omega) (by omega)]
    omega
  · have e : dl (1, 1, 0, c, ()) = c.length := by
      unfold dl
      show wr .i64 (wr .i64 1 * (c.length : Int)) = _
      rw [wrap_id (x := (1 : Int)) (by omega) (by omega), Int.one_mul, wrap_id (by omega) (by omega)]
    unfold own
    rw [e]
    show wr .i64 (Int.tdiv (c.length : Int) (gg (c.length : Int) (wr .i64 1))) = _
    rw [wrap_id (x := (1 : Int)) (by omega) (by omega), gg_one, Int.tdiv_one, wrap_id (by omega) (by omega)]
theorem nxt_one {t n : Int} {s : Sft} (h : own s = n) (hn : 1 ≤ n) (hn2 : n ≤ 20000) (ht : t = 1 ∨ t = n) : nxt t s = n := by
  unfold nxt
  rw [h]
  rcases ht with rfl | rfl
  · have : gg 1 n = 1 := by unfold gg; simp
    rw [this]
    rw [show Int.tdiv 1 1 = 1 from rfl, wrap_id (x := (1 : Int)) (by omega) (by omega), Int.one_mul, wrap_id (by omega) (by omega)]
  · rw [gg_self (by omega), Int.tdiv_self (by omega), wrap_id (x := (1 : Int)) (by omega) (by omega), Int.one_mul, wrap_id (by omega) (by omega)]
theorem sfM_ok {m : Mch} (hr : RngM m) (G : GoodM m) : okA (sfM m) = true ∧ codeR (sfM m) true = ((m.1.length : Int), 0, ()) := by
  have lx := okC_len G.x
  obtain ⟨a1, a2⟩ := own_one G.x hr.x
  obtain ⟨b1, b2⟩ := own_one G.y hr.y
  obtain ⟨c1, c2⟩ := own_one G.p hr.p
  have hA : okA (sfM m) = true := by
    simp only [okA, Bool.and_eq_true, inR_iff, List.all_eq_true]
    refine ⟨by simp [sfM], fun s hs => ?_⟩
    simp only [sfM, List.mem_cons, List.not_mem_nil, or_false] at hs
    rcases hs with rfl | rfl | rfl
    · exact a1
    · exact b1
    · exact c1
  refine ⟨hA, ?_⟩
  have hxy := G.xy
  have hxp := G.xp
  have hp : per (sfM m) 1 = some (m.1.length : Int) := by
    unfold sfM
    simp only [per]
    rw [nxt_one a2 (by omega) (by omega) (.inl rfl), if_neg (by omega), nxt_one (n := (m.1.length : Int)) (by rw [b2]; omega) (by omega) (by omega) (.inr rfl), if_neg (by omega), nxt_one (n := (m.1.length : Int)) (by rw [c2]; omega) (by omega) (by omega) (.inr rfl), if_neg (by omega)]
  unfold codeR
  rw [hA, if_neg (by simp), if_neg (by simp)]
  unfold allR
  rw [hp]
theorem lift_one {c : List Int} (h : okC c = true) (hr : Rng c) {t : Nat} (ht : t < c.length) : lift (1, 1, 0, c, ()) ((t : Int) + c.length) = g c t := by
  have lx := okC_len h
  have e : stp (1, 1, 0, c, ()) ((t : Int) + c.length) = t := by
    unfold stp
    show Int.tmod (wr .i64 (wr .i64 0 + wr .i64 (Int.tdiv (wr .i64 (((t : Int) + c.length) * wr .i64 1)) (wr .i64 1)))) (c.length : Int) = t
    rw [wrap_id (x := (1 : Int)) (by omega) (by omega), wrap_id (x := (0 : Int)) (by omega) (by omega), Int.mul_one, Int.tdiv_one, wrap_id (x := (t : Int) + c.length) (by omega) (by omega), wrap_id (x := (t : Int) + c.length) (by omega) (by omega), Int.zero_add, wrap_id (x := (t : Int) + c.length) (by omega) (by omega)]
    rw [Int.tmod_eq_emod_of_nonneg (by omega), Int.add_emod_right]
    exact Int.emod_eq_of_lt (by omega) (by omega)
  unfold lift
  rw [e]
  have hg := g_idx (l := c) (i := (t : Int)) (by omega) (by omega)
  have hi : idx c (t : Int) = some (g c t) := hg.idx
  show (match idx c (t : Int) with | some v => wr .i64 v | none => 0) = _
  rw [hi]
  exact hr.id (g_mem ht)
end Go.Cams

/- Slopes, bases and wear of cams, in plain terms. -/
namespace Go.Cams
open Go Go.Fw
/-! ### Tracks -/
def nxT (q : Trk) (l s : Int) : Trk := if q.1 + (q.2.1 - s) > l then (q.1 + (q.2.1 - s), q.2.1 - s, false, ()) else (l, l - q.1, true, ())
def trk (c : List Int) (s : Int) : Nat → Trk
  | 0 => onT c 0
  | k + 1 => nxT (trk c s k) (cAt c ((k + 1 : Nat) : Int)) s
theorem trk_bd {c : List Int} {M s : Int} (hM : ∀ x, 0 ≤ cAt c x ∧ cAt c x ≤ M) (s1 : 1 ≤ s) : ∀ k : Nat, (0 ≤ (trk c s k).1 ∧ (trk c s k).1 ≤ M * (k + 1)) ∧ (-(M * (k + 1)) - s * k ≤ (trk c s k).2.1 ∧ (trk c s k).2.1 ≤ M)
  | 0 => by
    have a := hM 0
    have b := hM (-1)
    have e : trk c s 0 = (cAt c 0, cAt c 0 - cAt c (0 - 1), true, ()) := rfl
    rw [e, show (0 : Int) - 1 = -1 by omega, show ((0 : Nat) : Int) = 0 from rfl, Int.mul_zero, show (0 : Int) + 1 = 1 by omega, Int.mul_one]
    refine ⟨⟨?_, ?_⟩, ?_, ?_⟩ <;> (try simp only) <;> omega
  | k + 1 => by
    obtain ⟨⟨h1, h2⟩, h3, h4⟩ := trk_bd hM s1 k
    have a := hM ((k + 1 : Nat) : Int)
    have e1 : M * (((k + 1 : Nat) : Int) + 1) = M * (k + 1) + M := by rw [show ((k + 1 : Nat) : Int) + 1 = (k + 1) + 1 by omega, Int.mul_add, Int.mul_one]
    have e2 : s * ((k + 1 : Nat) : Int) = s * k + s := by rw [show ((k + 1 : Nat) : Int) = k + 1 by omega, Int.mul_add, Int.mul_one]
    have e3 : 0 ≤ s * k := Int.mul_nonneg (by omega) (by omega)
    have e : trk c s (k + 1) = nxT (trk c s k) (cAt c ((k + 1 : Nat) : Int)) s := rfl
    rw [e1, e2, e]
    unfold nxT
    split
    · refine ⟨⟨?_, ?_⟩, ?_, ?_⟩ <;> (try simp only) <;> omega
    · refine ⟨⟨?_, ?_⟩, ?_, ?_⟩ <;> (try simp only) <;> omega
/-- With a spring that never lets go the follower is on its cam. -/
theorem trk_on {c : List Int} {s : Int} (hb : ∀ x, -(bendP c x) ≤ s) : ∀ k, trk c s k = onT c k
  | 0 => rfl
  | k + 1 => by
    have hbk := hb (k : Int)
    show nxT (trk c s k) (cAt c ((k + 1 : Nat) : Int)) s = _
    rw [trk_on hb k]
    unfold nxT
    rw [if_neg]
    · unfold onT
      rw [show ((k + 1 : Nat) : Int) - 1 = (k : Int) by omega]
    · show ¬ cAt c (k : Int) + (cAt c (k : Int) - cAt c ((k : Int) - 1) - s) > cAt c ((k + 1 : Nat) : Int)
      unfold bendP at hbk
      rw [show ((k + 1 : Nat) : Int) = (k : Int) + 1 by omega]
      omega
/-! ### Landings and wear -/
def lds (c : List Int) (s : Int) (k : Nat) : Bool := (trk c s k).2.2.1 && !(trk c s (k - 1)).2.2.1
def blw (c : List Int) (s : Int) (k : Nat) : Int := (trk c s k).2.1 - ((trk c s (k - 1)).2.1 - s)
theorem blw_nn {c : List Int} {s : Int} {k : Nat} (hk : 1 ≤ k) (h : lds c s k = true) : 0 ≤ blw c s k := by
  obtain ⟨j, rfl⟩ : ∃ j, k = j + 1 := ⟨k - 1, by omega⟩
  unfold lds at h
  unfold blw
  rw [Nat.add_sub_cancel] at h ⊢
  simp only [Bool.and_eq_true] at h
  have e : trk c s (j + 1) = nxT (trk c s j) (cAt c ((j + 1 : Nat) : Int)) s := rfl
  rw [e] at h ⊢
  unfold nxT at h ⊢
  split at h
  · simp at h
  · rename_i h2
    rw [if_neg h2]
    show 0 ≤ cAt c ((j + 1 : Nat) : Int) - (trk c s j).1 - ((trk c s j).2.1 - s)
    omega
def wnV (c : List Int) (s h : Int) (k : Nat) : Int := max 0 (cAt c (k : Nat) - blw c s k / h)
/-- A cam behind a turn, up to a step. -/
def wnTo (c : List Int) (s h : Int) : Nat → List Int
  | 0 => c
  | j + 1 => if lds c s (c.length + 1 + j) = true then (wnTo c s h j).set ((c.length + 1 + j) % c.length) (wnV c s h (c.length + 1 + j)) else wnTo c s h j
def wnL (c : List Int) (s h : Int) : List Int := wnTo c s h c.length
theorem wnTo_len (c : List Int) (s h : Int) : ∀ j, (wnTo c s h j).length = c.length
  | 0 => rfl
  | j + 1 => by unfold wnTo; split <;> simp [wnTo_len c s h j]
theorem wnL_len (c : List Int) (s h : Int) : (wnL c s h).length = c.length := wnTo_len c s h _
theorem g_st0 {l : List Int} {i p : Nat} {v : Int} (hp : p < l.length) : g (l.set i v) p = if i = p then v else g l p := by
  unfold g
  rw [List.getD_eq_getElem?_getD, List.getD_eq_getElem?_getD, List.getElem?_set]
  split
  · rename_i e; subst e; rw [if_pos hp]; rfl
  · rfl
theorem mod_uni {n a b : Nat} (h1 : a ≤ b) (h2 : b < a + n) (h : a % n = b % n) : a = b := by
  have h3 : (b - a) % n = 0 := by
    have := Nat.sub_mod_eq_zero_of_mod_eq h.symm
    exact this
  have h4 : b - a < n := by omega
  rw [Nat.mod_eq_of_lt h4] at h3
  omega
theorem wnTo_keep (c : List Int) (s h : Int) (hn : 0 < c.length) : ∀ (j m : Nat), j ≤ m → m < c.length → g (wnTo c s h j) ((c.length + 1 + m) % c.length) = cAt c ((c.length + 1 + m : Nat) : Int)
  | 0, m, _, _ => by
    show g c _ = _
    unfold cAt
    rw [← Int.natCast_emod, Int.toNat_natCast]
  | j + 1, m, hj, hm => by
    have ih := wnTo_keep c s h hn j m (by omega) hm
    unfold wnTo
    split
    · rw [g_st0 (by rw [wnTo_len]; exact Nat.mod_lt _ hn), if_neg, ih]
      intro e
      have := mod_uni (n := c.length) (show c.length + 1 + j ≤ c.length + 1 + m by omega) (by omega) e
      omega
    · exact ih
theorem wnTo_le (c : List Int) {s h : Int} (hn : 0 < c.length) (hh : 1 ≤ h) (hC : ∀ x, 0 ≤ cAt c x) : ∀ j, j ≤ c.length → ∀ p, p < c.length → 0 ≤ g (wnTo c s h j) p ∧ g (wnTo c s h j) p ≤ g c p
  | 0, _, p, hp => by
    have := hC (p : Nat)
    rw [cAt_self hp] at this
    exact ⟨this, Int.le_refl _⟩
  | j + 1, hj, p, hp => by
    have ih := wnTo_le c (s := s) hn hh hC j (by omega) p hp
    unfold wnTo
    split
    · rename_i hl
      rw [g_st0 (by rw [wnTo_len]; exact hp)]
      split
      · rename_i e
        have hc : cAt c ((c.length + 1 + j : Nat) : Int) = g c p := by
          unfold cAt
          rw [← Int.natCast_emod, Int.toNat_natCast, e]
        have h0 := hC (p : Nat)
        rw [cAt_self hp] at h0
        have hb := blw_nn (k := c.length + 1 + j) (by omega) hl
        have hd : 0 ≤ blw c s (c.length + 1 + j) / h := Int.ediv_nonneg hb (by omega)
        unfold wnV
        rw [hc]
        omega
      · exact ih
    · exact ih
theorem wnL_le {c : List Int} {s h : Int} (hn : 0 < c.length) (hh : 1 ≤ h) (hC : ∀ x, 0 ≤ cAt c x) {p : Nat} (hp : p < c.length) : 0 ≤ g (wnL c s h) p ∧ g (wnL c s h) p ≤ g c p := wnTo_le c hn hh hC _ (Nat.le_refl _) p hp
theorem wnL_none {c : List Int} {s h : Int} (hb : ∀ x, -(bendP c x) ≤ s) : wnL c s h = c := by
  have : ∀ j, wnTo c s h j = c := by
    intro j
    induction j with
    | zero => rfl
    | succ j ih =>
      unfold wnTo
      rw [if_neg, ih]
      unfold lds
      rw [trk_on hb, trk_on hb]
      simp [onT]
  exact this _
theorem ext_g {a b : List Int} (hl : a.length = b.length) (h : ∀ p, p < b.length → g a p = g b p) : a = b := by
  refine List.ext_getElem? fun i => ?_
  by_cases hi : i < b.length
  · have := h i hi
    unfold g at this
    rw [List.getD_eq_getElem?_getD, List.getD_eq_getElem?_getD, List.getElem?_eq_getElem (by omega), List.getElem?_eq_getElem hi] at this
    rw [List.getElem?_eq_getElem (by omega), List.getElem?_eq_getElem hi]
    simpa using this
  · rw [List.getElem?_eq_none (by omega), List.getElem?_eq_none (by omega)]
theorem SmD.worn {c : List Int} (S : SmD c) (s : Int) {h : Int} (hh : 1 ≤ h) : SmD (wnL c s h) := by
  have hl := S.len
  have h0 : 0 < c.length := by omega
  refine ⟨by rw [wnL_len]; exact hl, fun v hv => ?_⟩
  obtain ⟨p, hp, e⟩ := List.getElem_of_mem hv
  rw [wnL_len] at hp
  have h1 := wnL_le (s := s) h0 hh (fun x => (S.el _ (cAt_mem h0 x)).1) hp
  have h2 := S.el _ (g_mem hp)
  have e2 : g (wnL c s h) p = v := by
    unfold g
    rw [List.getD_eq_getElem?_getD, List.getElem?_eq_getElem (by rw [wnL_len]; exact hp)]
    exact e
  rw [e2] at h1
  omega
def wearN (s h : Int) : Nat → List Int → List Int
  | 0, c => c
  | k + 1, c => wnL (wearN s h k c) s h
theorem wearN_ok {c : List Int} (S : SmD c) (s : Int) {h : Int} (hh : 1 ≤ h) : ∀ k, SmD (wearN s h k c) ∧ (wearN s h k c).length = c.length ∧ ∀ p, p < c.length → 0 ≤ g (wearN s h k c) p ∧ g (wearN s h k c) p ≤ g c p
  | 0 => ⟨S, rfl, fun p hp => ⟨(S.el _ (g_mem hp)).1, Int.le_refl _⟩⟩
  | k + 1 => by
    obtain ⟨h1, h2, h3⟩ := wearN_ok S s hh k
    have hl := h1.len
    have h0 : 0 < (wearN s h k c).length := by omega
    refine ⟨h1.worn s hh, by show (wnL _ s h).length = _; rw [wnL_len, h2], fun p hp => ?_⟩
    have := wnL_le (s := s) h0 hh (fun x => (h1.el _ (cAt_mem h0 x)).1) (p := p) (by omega)
    have h4 := h3 p hp
    exact ⟨this.1, Int.le_trans this.2 h4.2⟩
theorem wearN_same {c : List Int} (S : SmD c) (s : Int) {h : Int} (hh : 1 ≤ h) : wearN s h 3 c = c ↔ wnL c s h = c := by
  constructor
  · intro e
    have h1 := wearN_ok S s hh 1
    have h2 := wearN_ok h1.1 s hh 2
    have e2 : wearN s h 2 (wearN s h 1 c) = wearN s h 3 c := rfl
    rw [e2, e] at h2
    have e1 : wearN s h 1 c = wnL c s h := rfl
    rw [e1] at h1 h2
    refine ext_g (by rw [wnL_len]) fun p hp => ?_
    have a := h1.2.2 p hp
    have b := h2.2.2 p (by rw [wnL_len]; exact hp)
    omega
  · intro e
    have : ∀ k, wearN s h k c = c := by
      intro k
      induction k with
      | zero => rfl
      | succ k ih => show wnL (wearN s h k c) s h = c; rw [ih, e]
    exact this 3
theorem wearN_none {c : List Int} {s h : Int} (hb : ∀ x, -(bendP c x) ≤ s) : ∀ k, wearN s h k c = c
  | 0 => rfl
  | k + 1 => by show wnL (wearN s h k c) s h = c; rw [wearN_none hb k, wnL_none hb]
abbrev Lnd : Type := Int × (Int × Unit)
/-- The landings up to a step. -/
def lnL (c : List Int) (s : Int) : Nat → List Lnd
  | 0 => []
  | k + 1 => if lds c s (k + 1) = true then lnL c s k ++ [(((k + 1 : Nat) : Int), blw c s (k + 1), ())] else lnL c s k
theorem lnL_len (c : List Int) (s : Int) : ∀ k, (lnL c s k).length ≤ k
  | 0 => Nat.le_refl _
  | k + 1 => by
    have := lnL_len c s k
    unfold lnL
    split
    · simp; omega
    · omega
theorem lnL_el {c : List Int} {s : Int} : ∀ {k : Nat} {x : Lnd}, x ∈ lnL c s k → ∃ j : Nat, 1 ≤ j ∧ j ≤ k ∧ x = ((j : Int), blw c s j, ()) ∧ lds c s j = true
  | 0, x, h => by simp [lnL] at h
  | k + 1, x, h => by
    unfold lnL at h
    split at h
    · rename_i hl
      rcases List.mem_append.1 h with h | h
      · obtain ⟨j, h1, h2, h3⟩ := lnL_el h; exact ⟨j, h1, by omega, h3⟩
      · exact ⟨k + 1, by omega, Nat.le_refl _, List.mem_singleton.1 h, hl⟩
    · obtain ⟨j, h1, h2, h3⟩ := lnL_el h; exact ⟨j, h1, by omega, h3⟩
/-- What the landings make of a cam, one behind another. -/
def wrS (n : Nat) (h : Int) (o : List Int) (x : Lnd) : List Int := if x.1 > (n : Int) then o.set (x.1.toNat % n) (max 0 (g o (x.1.toNat % n) - x.2.1 / h)) else o
theorem wr_fold {c : List Int} {s h : Int} (hn : 0 < c.length) : ∀ j, j ≤ c.length → (lnL c s (c.length + j)).foldl (wrS c.length h) c = wnTo c s h j
  | 0, _ => by
    have : ∀ k, k ≤ c.length → (lnL c s k).foldl (wrS c.length h) c = c := by
      intro k
      induction k with
      | zero => intro _; rfl
      | succ k ih =>
        intro hk
        unfold lnL
        split
        · rw [List.foldl_append, ih (by omega)]
          show wrS c.length h c _ = c
          unfold wrS
          rw [if_neg (by simp only; omega)]
        · exact ih (by omega)
    exact this _ (Nat.le_refl _)
  | j + 1, hj => by
    have ih := wr_fold (s := s) (h := h) hn j (by omega)
    have e : lnL c s (c.length + (j + 1)) = if lds c s (c.length + 1 + j) = true then lnL c s (c.length + j) ++ [(((c.length + 1 + j : Nat) : Int), blw c s (c.length + 1 + j), ())] else lnL c s (c.length + j) := by
      rw [show c.length + (j + 1) = (c.length + j) + 1 by omega]
      unfold lnL
      rw [show c.length + j + 1 = c.length + 1 + j by omega]
      cases h2 : c.length + j with
      | zero => omega
      | succ q => rfl
    rw [e]
    unfold wnTo
    split
    · rw [List.foldl_append, ih]
      show wrS c.length h (wnTo c s h j) _ = _
      unfold wrS
      simp only [Int.toNat_natCast]
      rw [if_pos (by omega), wnTo_keep c s h hn j j (Nat.le_refl _) (by omega)]
      rfl
    · exact ih
end Go.Cams

/- Slopes and bases, in plain terms. -/
namespace Go.Cams
open Go Go.Fw
abbrev Slp : Type := Int × (Int × Unit)
def slN (c : List Int) (i : Int) : Int := (cAt c (i + 1) - cAt c i) * c.length * 7
def slD (c : List Int) (b i : Int) : Int := 44 * (b + cAt c i)
def slG (c : List Int) (b i : Int) : Int := gg (siz (slN c i)) (slD c b i)
def slS (c : List Int) (b i : Int) : Slp := (Int.tdiv (slN c i) (slG c b i), Int.tdiv (slD c b i) (slG c b i), ())
def cmS (s t : Slp) : Int := if siz s.1 * t.2.1 < siz t.1 * s.2.1 then -1 else if siz s.1 * t.2.1 > siz t.1 * s.2.1 then 1 else 0
theorem siz_abs (x : Int) : siz x = (x.natAbs : Int) := by unfold siz; split <;> omega
/-- A slope's parts, times what they have in common. -/
structure SlO (c : List Int) (b i : Int) : Prop where
  g : 1 ≤ slG c b i
  p : siz (slS c b i).1 * slG c b i = siz (slN c i)
  q : (slS c b i).2.1 * slG c b i = slD c b i
  q1 : 1 ≤ (slS c b i).2.1
theorem slO {c : List Int} {b i : Int} (hD : 1 ≤ slD c b i) : SlO c b i := by
  have hsn := siz_nn (slN c i)
  have e1 : siz (slN c i) = ((slN c i).natAbs : Int) := siz_abs _
  have hg : slG c b i = ((Nat.gcd (slN c i).natAbs (slD c b i).toNat : Nat) : Int) := by
    unfold slG gg
    rw [e1, Int.toNat_natCast]
  have hpos : 0 < Nat.gcd (slN c i).natAbs (slD c b i).toNat := Nat.gcd_pos_of_pos_right _ (by omega)
  have hG : 1 ≤ slG c b i := by omega
  have d1 : slG c b i ∣ slN c i := by
    rw [hg]
    exact Int.ofNat_dvd_left.2 (Nat.gcd_dvd_left _ _)
  have d2 : slG c b i ∣ slD c b i := by
    rw [hg]
    have := Nat.gcd_dvd_right (slN c i).natAbs (slD c b i).toNat
    have h3 : ((slD c b i).toNat : Int) = slD c b i := by omega
    rw [← h3]
    exact Int.natCast_dvd_natCast.2 (by rw [Int.toNat_natCast] ; simpa using this)
  have q : (slS c b i).2.1 * slG c b i = slD c b i := Int.tdiv_mul_cancel d2
  have p0 : (slS c b i).1 * slG c b i = slN c i := Int.tdiv_mul_cancel d1
  refine ⟨hG, ?_, q, ?_⟩
  · rw [siz_abs, siz_abs, ← p0, Int.natAbs_mul, Int.natCast_mul]
    congr 1
  · by_cases h : 1 ≤ (slS c b i).2.1
    · exact h
    · have : (slS c b i).2.1 * slG c b i ≤ 0 * slG c b i := Int.mul_le_mul_of_nonneg_right (by omega) (by omega)
      omega
theorem cmS_gt (s t : Slp) : cmS s t > 0 ↔ siz t.1 * s.2.1 < siz s.1 * t.2.1 := by
  unfold cmS
  split
  · constructor <;> intro h <;> omega
  · split
    · constructor <;> intro h <;> omega
    · constructor <;> intro h <;> omega
theorem cmS_zero (s t : Slp) : cmS s t = 0 ↔ siz t.1 * s.2.1 = siz s.1 * t.2.1 := by
  unfold cmS
  split
  · constructor <;> intro h <;> omega
  · split
    · constructor <;> intro h <;> omega
    · constructor <;> intro h <;> omega
theorem mul4 (a b c d : Int) : (a * b) * (c * d) = (a * c) * (d * b) := by grind
theorem mul_lt_iff {a b k : Int} (hk : 0 < k) : a * k < b * k ↔ a < b :=
  ⟨fun h => Int.lt_of_mul_lt_mul_right h (by omega), fun h => Int.mul_lt_mul_of_pos_right h hk⟩
/-- The order of slopes by their parts. -/
theorem cm_lt {c d : List Int} {b i e j : Int} (h1 : SlO c b i) (h2 : SlO d e j) : siz (slS d e j).1 * (slS c b i).2.1 < siz (slS c b i).1 * (slS d e j).2.1 ↔ siz (slN d j) * slD c b i < siz (slN c i) * slD d e j := by
  have i1 : siz (slS d e j).1 * slG d e j * ((slS c b i).2.1 * slG c b i) = (siz (slS d e j).1 * (slS c b i).2.1) * (slG c b i * slG d e j) := by grind
  have i2 : siz (slS c b i).1 * slG c b i * ((slS d e j).2.1 * slG d e j) = (siz (slS c b i).1 * (slS d e j).2.1) * (slG c b i * slG d e j) := by grind
  rw [← h1.p, ← h2.p, ← h1.q, ← h2.q, i1, i2]
  exact (mul_lt_iff (Int.mul_pos (by have := h1.g; omega) (by have := h2.g; omega))).symm
theorem cm_most {c : List Int} {b i P Q : Int} (h1 : SlO c b i) : P * (slS c b i).2.1 < siz (slS c b i).1 * Q ↔ P * slD c b i < siz (slN c i) * Q := by
  rw [← h1.p, ← h1.q, ← Int.mul_assoc, Int.mul_assoc _ (slG c b i) Q, Int.mul_comm (slG c b i) Q, ← Int.mul_assoc]
  exact (mul_lt_iff (by have := h1.g; omega)).symm
/-- The steepest slope of the first steps, and where. -/
def stB (c : List Int) (b : Int) : Nat → Int × Slp
  | 0 => (0, slS c b 0)
  | n + 1 => if cmS (slS c b (n : Nat)) (stB c b n).2 > 0 then ((n : Nat), slS c b (n : Nat)) else stB c b n
theorem stB_one (c : List Int) (b : Int) : stB c b 1 = stB c b 0 := by
  show (if cmS (slS c b ((0 : Nat) : Int)) (slS c b 0) > 0 then _ else _) = _
  rw [if_neg]
  have := cmS_gt (slS c b ((0 : Nat) : Int)) (slS c b 0)
  rw [this]
  show ¬ siz (slS c b 0).1 * (slS c b 0).2.1 < siz (slS c b 0).1 * (slS c b 0).2.1
  omega
theorem frac_le {n1 d1 n2 d2 n3 d3 : Int} (h1 : 0 < d1) (h2 : 0 < d2) (h3 : 0 < d3) (a : n1 * d2 ≤ n2 * d1) (b : n2 * d3 < n3 * d2) : n1 * d3 < n3 * d1 := by
  have e1 : n1 * d2 * d3 ≤ n2 * d1 * d3 := Int.mul_le_mul_of_nonneg_right a (by omega)
  have e2 : n2 * d3 * d1 < n3 * d2 * d1 := Int.mul_lt_mul_of_pos_right b h1
  have e3 : n1 * d3 * d2 < n3 * d1 * d2 := by
    have i1 : n1 * d2 * d3 = n1 * d3 * d2 := by grind
    have i2 : n2 * d1 * d3 = n2 * d3 * d1 := by grind
    have i3 : n3 * d2 * d1 = n3 * d1 * d2 := by grind
    omega
  exact (mul_lt_iff h2).1 e3
/-- What is known of the steepest slope. -/
theorem stB_spec {c : List Int} {b : Int} (hD : ∀ i, 1 ≤ slD c b i) : ∀ n : Nat, 1 ≤ n → ∃ k : Nat, k < n ∧ stB c b n = ((k : Int), slS c b (k : Nat)) ∧ (∀ i : Nat, i < n → siz (slN c i) * slD c b k ≤ siz (slN c k) * slD c b i) ∧ ∀ i : Nat, i < k → siz (slN c i) * slD c b k < siz (slN c k) * slD c b i
  | 0, h => by omega
  | 1, _ => by
    refine ⟨0, by omega, stB_one c b, fun i hi => ?_, fun i hi => by omega⟩
    have : i = 0 := by omega
    subst this
    exact Int.le_refl _
  | n + 2, _ => by
    obtain ⟨k, hk, e, h1, h2⟩ := stB_spec hD (n + 1) (by omega)
    have hs : stB c b (n + 2) = if cmS (slS c b ((n + 1 : Nat) : Int)) (stB c b (n + 1)).2 > 0 then (((n + 1 : Nat) : Int), slS c b ((n + 1 : Nat) : Int)) else stB c b (n + 1) := rfl
    rw [hs, e]
    have hk' := cm_lt (slO (hD ((n + 1 : Nat) : Int))) (slO (hD (k : Nat)))
    by_cases hc : cmS (slS c b ((n + 1 : Nat) : Int)) (slS c b (k : Nat)) > 0
    · rw [if_pos hc]
      have hlt := hk'.1 ((cmS_gt _ _).1 hc)
      refine ⟨n + 1, by omega, rfl, fun i hi => ?_, fun i hi => ?_⟩
      · by_cases e2 : i = n + 1
        · subst e2; exact Int.le_refl _
        · exact Int.le_of_lt (frac_le (hD i) (hD k) (hD _) (h1 i (by omega)) hlt)
      · exact frac_le (hD i) (hD k) (hD _) (h1 i (by omega)) hlt
    · rw [if_neg hc]
      refine ⟨k, by omega, rfl, fun i hi => ?_, h2⟩
      by_cases e2 : i = n + 1
      · subst e2
        have : ¬ siz (slN c (k : Nat)) * slD c b ((n + 1 : Nat) : Int) < siz (slN c ((n + 1 : Nat) : Int)) * slD c b (k : Nat) := fun h => hc ((cmS_gt _ _).2 (hk'.2 h))
        omega
      · exact h1 i (by omega)
/-! ### Bases -/
def need (c : List Int) (P Q : Int) (i : Int) : Int := -((-(siz (slN c i)) * Q) / (44 * P)) - cAt c i
def baT (c : List Int) (P Q : Int) : Nat → Int
  | 0 => 1
  | n + 1 => max (baT c P Q n) (need c P Q (n : Nat))
theorem need_le {c : List Int} {P Q b i : Int} (hP : 1 ≤ P) : need c P Q i ≤ b ↔ siz (slN c i) * Q ≤ P * slD c b i := by
  unfold need slD
  have h1 : (-(siz (slN c i)) * Q) / (44 * P) ≥ -(b + cAt c i) ↔ -(b + cAt c i) * (44 * P) ≤ -(siz (slN c i)) * Q := by
    rw [ge_iff_le, Int.le_ediv_iff_mul_le (by omega)]
  have e1 : -(b + cAt c i) * (44 * P) = -(P * (44 * (b + cAt c i))) := by grind
  have e2 : -(siz (slN c i)) * Q = -(siz (slN c i) * Q) := by grind
  rw [e1, e2] at h1
  rw [e2]
  constructor
  · intro h
    have := h1.1 (by omega)
    omega
  · intro h
    have := h1.2 (by omega)
    omega
theorem baT_le {c : List Int} {P Q : Int} (hP : 1 ≤ P) {b : Int} : ∀ n : Nat, baT c P Q n ≤ b ↔ (1 ≤ b ∧ ∀ i : Nat, i < n → siz (slN c i) * Q ≤ P * slD c b i)
  | 0 => by simp [baT]
  | n + 1 => by
    have ih := baT_le (c := c) (Q := Q) hP (b := b) n
    have hn := need_le (c := c) (Q := Q) (b := b) (i := (n : Nat)) hP
    unfold baT
    constructor
    · intro h
      have h1 := ih.1 (by omega)
      refine ⟨h1.1, fun i hi => ?_⟩
      by_cases e : i = n
      · subst e; exact hn.1 (by omega)
      · exact h1.2 i (by omega)
    · rintro ⟨h1, h2⟩
      have h3 := ih.2 ⟨h1, fun i hi => h2 i (by omega)⟩
      have h4 := hn.2 (h2 n (by omega))
      omega
theorem baT_pos (c : List Int) (P Q : Int) : ∀ n, 1 ≤ baT c P Q n
  | 0 => Int.le_refl _
  | n + 1 => by have := baT_pos c P Q n; unfold baT; omega
def baL (c : List Int) (P Q : Int) : Int := baT c P Q c.length
/-- The steepest slope is no greater than told just where the base is long enough. -/
theorem ba_steep {c : List Int} {b P Q : Int} (hl : 1 ≤ c.length) (hP : 1 ≤ P) (hQ : 1 ≤ Q) (hb : 1 ≤ b) (hD : ∀ i, 1 ≤ slD c b i) : cmS (stB c b c.length).2 (P, Q, ()) > 0 ↔ b < baL c P Q := by
  obtain ⟨k, hk, e, h1, _⟩ := stB_spec hD c.length hl
  have hso := slO (hD (k : Nat))
  rw [e, cmS_gt]
  show siz P * (slS c b (k : Nat)).2.1 < siz (slS c b (k : Nat)).1 * Q ↔ _
  rw [show siz P = P by unfold siz; rw [if_neg (by omega)], cm_most hso]
  have hbl := baT_le (c := c) (Q := Q) hP (b := b) c.length
  have key : (∀ i : Nat, i < c.length → siz (slN c i) * Q ≤ P * slD c b i) ↔ siz (slN c k) * Q ≤ P * slD c b k := by
    constructor
    · exact fun h => h k hk
    · intro h i hi
      have a := h1 i hi
      by_cases hh : siz (slN c i) * Q ≤ P * slD c b i
      · exact hh
      · exfalso
        have hlt : P * slD c b i < siz (slN c i) * Q := by omega
        have a2 : siz (slN c i) * Q * slD c b k ≤ siz (slN c k) * Q * slD c b i := by
          have := Int.mul_le_mul_of_nonneg_right a (show 0 ≤ Q by omega)
          have i1 : siz (slN c i) * slD c b k * Q = siz (slN c i) * Q * slD c b k := by grind
          have i2 : siz (slN c k) * slD c b i * Q = siz (slN c k) * Q * slD c b i := by grind
          omega
        have a3 : P * slD c b i * slD c b k < siz (slN c i) * Q * slD c b k := Int.mul_lt_mul_of_pos_right hlt (by have := hD (k : Nat); omega)
        have a4 : siz (slN c k) * Q * slD c b i ≤ P * slD c b k * slD c b i := Int.mul_le_mul_of_nonneg_right h (by have := hD (i : Nat); omega)
        have i3 : P * slD c b i * slD c b k = P * slD c b k * slD c b i := by grind
        omega
  rw [key] at hbl
  unfold baL
  constructor
  · intro h
    by_cases h2 : baT c P Q c.length ≤ b
    · have := (hbl.1 h2).2; omega
    · omega
  · intro h
    by_cases h2 : siz (slN c k) * Q ≤ P * slD c b k
    · have := hbl.2 ⟨hb, h2⟩; omega
    · omega
/-! ### Bounds -/
theorem SmD.cAt_bd {c : List Int} (S : SmD c) (x : Int) : 0 ≤ cAt c x ∧ cAt c x ≤ 60 := S.el _ (cAt_mem (by have := S.len; omega) x)
theorem SmD.slN_bd {c : List Int} (S : SmD c) (i : Int) : -15120 ≤ slN c i ∧ slN c i ≤ 15120 := by
  have a := S.cAt_bd (i + 1)
  have b := S.cAt_bd i
  have l := S.len
  have h1 : (cAt c (i + 1) - cAt c i) * (c.length : Int) ≤ 60 * (c.length : Int) := Int.mul_le_mul_of_nonneg_right (by omega) (by omega)
  have h2 : -60 * (c.length : Int) ≤ (cAt c (i + 1) - cAt c i) * (c.length : Int) := Int.mul_le_mul_of_nonneg_right (by omega) (by omega)
  unfold slN; omega
theorem SmD.slD_bd {c : List Int} (S : SmD c) {b : Int} (b1 : 1 ≤ b) (b2 : b ≤ 20000) (i : Int) : 44 ≤ slD c b i ∧ slD c b i ≤ 882640 := by
  have a := S.cAt_bd i
  unfold slD; omega
theorem SmD.slS_bd {c : List Int} (S : SmD c) {b : Int} (b1 : 1 ≤ b) (b2 : b ≤ 20000) (i : Int) : (-15120 ≤ (slS c b i).1 ∧ (slS c b i).1 ≤ 15120) ∧ 1 ≤ (slS c b i).2.1 ∧ (slS c b i).2.1 ≤ 882640 := by
  have h := slO (c := c) (b := b) (i := i) (by have := S.slD_bd b1 b2 i; omega)
  have n := S.slN_bd i
  have d := S.slD_bd b1 b2 i
  have h1 : siz (slS c b i).1 * 1 ≤ siz (slS c b i).1 * slG c b i := Int.mul_le_mul_of_nonneg_left h.g (siz_nn _)
  have h2 : (slS c b i).2.1 * 1 ≤ (slS c b i).2.1 * slG c b i := Int.mul_le_mul_of_nonneg_left h.g (by have := h.q1; omega)
  rw [h.p] at h1
  rw [h.q] at h2
  have h3 : siz (slN c i) ≤ 15120 := by unfold siz; split <;> omega
  have h4 : siz (slS c b i).1 = if (slS c b i).1 < 0 then -(slS c b i).1 else (slS c b i).1 := rfl
  have := h.q1
  refine ⟨?_, by omega, by omega⟩
  split at h4 <;> omega
theorem stB_is {c : List Int} {b : Int} : ∀ n : Nat, ∃ k : Nat, (stB c b n).2 = slS c b (k : Nat)
  | 0 => ⟨0, rfl⟩
  | n + 1 => by
    obtain ⟨k, hk⟩ := stB_is (c := c) (b := b) n
    unfold stB
    split
    · exact ⟨n, rfl⟩
    · exact ⟨k, hk⟩
end Go.Cams
namespace Go.Cams
open Go Go.Fw
/-- A slope that can be compared. -/
structure SlB (s : Slp) : Prop where
  p : -1000000000 ≤ s.1 ∧ s.1 ≤ 1000000000
  q : 1 ≤ s.2.1 ∧ s.2.1 ≤ 1000000000
theorem SlB.siz {s : Slp} (h : SlB s) : 0 ≤ Cams.siz s.1 ∧ Cams.siz s.1 ≤ 1000000000 := by
  have := h.p
  unfold Cams.siz; split <;> omega
theorem SlB.mul {s t : Slp} (h : SlB s) (k : SlB t) : 0 ≤ Cams.siz s.1 * t.2.1 ∧ Cams.siz s.1 * t.2.1 ≤ 1000000000000000000 := by
  have a := h.siz
  have b := k.q
  have h1 : Cams.siz s.1 * t.2.1 ≤ 1000000000 * t.2.1 := Int.mul_le_mul_of_nonneg_right a.2 (by omega)
  have h2 : 0 ≤ Cams.siz s.1 * t.2.1 := Int.mul_nonneg a.1 (by omega)
  omega
theorem SmD.slB {c : List Int} (S : SmD c) {b : Int} (b1 : 1 ≤ b) (b2 : b ≤ 20000) (i : Int) : SlB (slS c b i) := by
  have := S.slS_bd b1 b2 i
  exact ⟨by omega, by omega⟩
theorem SmD.stB_b {c : List Int} (S : SmD c) {b : Int} (b1 : 1 ≤ b) (b2 : b ≤ 20000) (n : Nat) : SlB (stB c b n).2 := by
  obtain ⟨k, hk⟩ := stB_is (c := c) (b := b) n
  rw [hk]; exact S.slB b1 b2 k
theorem stB_at {c : List Int} {b : Int} : ∀ n : Nat, 0 ≤ (stB c b n).1 ∧ (stB c b n).1 ≤ n
  | 0 => ⟨Int.le_refl _, Int.le_refl _⟩
  | n + 1 => by
    have := stB_at (c := c) (b := b) n
    unfold stB
    split
    · exact ⟨by show (0 : Int) ≤ (n : Nat); omega, by show ((n : Nat) : Int) ≤ ((n + 1 : Nat) : Int); omega⟩
    · omega
end Go.Cams
namespace Go.Cams
open Go Go.Fw
theorem lnL_succ (c : List Int) (s : Int) (k : Nat) : lnL c s (k + 1) = if lds c s (k + 1) = true then lnL c s k ++ [(((k + 1 : Nat) : Int), blw c s (k + 1), ())] else lnL c s k := rfl
theorem stB_succ (c : List Int) (b : Int) (k : Nat) : stB c b (k + 1) = if cmS (slS c b (k : Nat)) (stB c b k).2 > 0 then ((k : Int), slS c b (k : Nat)) else stB c b k := rfl
/-- The least base, and the code. -/
def lsbR (c : List Int) (P Q : Int) : Int × (Int × Unit) := if baL c P Q > 20000 then (0, 6, ()) else (baL c P Q, 0, ())
/-- The turns that wear, and the code. -/
def ttR (c : List Int) (s h : Int) : Int × (Int × Unit) := if wnL c s h = c then (0, 6, ()) else (1, 0, ())
end Go.Cams

/- Followers: flown steps, the hardest landing, springs that let go. In plain terms. -/
namespace Go.Cams
open Go Go.Fw
theorem tb_tail {α : Type} (K : Nat) (f : Nat → α) : (tb (K + 1) f).drop 1 = tb K fun i => f (i + 1) := by
  apply List.ext_getElem?
  intro i
  rw [List.getElem?_drop, Nat.add_comm 1 i]
  by_cases h : i < K
  · rw [tb_get (by omega), tb_get h]
  · rw [List.getElem?_eq_none (by rw [tb_len]; omega), List.getElem?_eq_none (by rw [tb_len]; omega)]
/-- The steps that the follower flies, up to a step. -/
def flN (c : List Int) (s : Int) : Nat → Int
  | 0 => 0
  | k + 1 => if (trk c s (k + 1)).2.2.1 = true then flN c s k else flN c s k + 1
theorem flN_bd (c : List Int) (s : Int) : ∀ k, 0 ≤ flN c s k ∧ flN c s k ≤ k
  | 0 => ⟨Int.le_refl _, Int.le_refl _⟩
  | k + 1 => by
    have := flN_bd c s k
    unfold flN
    split <;> omega
/-- The hardest landing up to a step: where, and how hard. -/
def hlN (c : List Int) (s : Int) : Nat → Int × Int
  | 0 => (0, 0)
  | k + 1 => if lds c s (k + 1) = true ∧ ((hlN c s k).1 = 0 ∨ blw c s (k + 1) > (hlN c s k).2) then (((k + 1 : Nat) : Int), blw c s (k + 1)) else hlN c s k
def hlS (m x : Lnd) : Lnd := if x.2.1 > m.2.1 then x else m
theorem lds_two {c : List Int} {s : Int} {k : Nat} (h1 : 1 ≤ k) (h : lds c s k = true) : 2 ≤ k := by
  apply Classical.byContradiction
  intro hn
  have : k = 1 := by omega
  subst this
  simp [lds, trk, onT] at h
theorem hlN_of (c : List Int) (s : Int) : ∀ k, (hlN c s k = (0, 0)) ∨ ∃ j : Nat, 2 ≤ j ∧ j ≤ k ∧ lds c s j = true ∧ hlN c s k = ((j : Int), blw c s j)
  | 0 => .inl rfl
  | k + 1 => by
    unfold hlN
    split
    · rename_i h
      exact .inr ⟨k + 1, lds_two (by omega) h.1, Nat.le_refl _, h.1, rfl⟩
    · rcases hlN_of c s k with h | ⟨j, h1, h2, h3⟩
      · exact .inl h
      · exact .inr ⟨j, h1, by omega, h3⟩
theorem hlN_list (c : List Int) (s : Int) : ∀ k, (lnL c s k = [] ∧ hlN c s k = (0, 0)) ∨ ∃ x, (lnL c s k)[0]? = some x ∧ (lnL c s k).foldl hlS x = ((hlN c s k).1, (hlN c s k).2, ()) ∧ (hlN c s k).1 ≠ 0
  | 0 => .inl ⟨rfl, rfl⟩
  | k + 1 => by
    unfold lnL hlN
    by_cases hl : lds c s (k + 1) = true
    · rw [if_pos hl]
      rcases hlN_list c s k with ⟨h1, h2⟩ | ⟨x, h1, h2, h3⟩
      · right
        rw [h1, h2, if_pos ⟨hl, .inl rfl⟩]
        refine ⟨_, rfl, ?_, by simp; omega⟩
        simp [hlS]
      · right
        refine ⟨x, ?_, ?_, ?_⟩
        · rw [List.getElem?_append_left]
          · exact h1
          · exact (List.getElem?_eq_some_iff.1 h1).1
        · rw [List.foldl_append, h2]
          simp only [List.foldl_cons, List.foldl_nil]
          by_cases hb : blw c s (k + 1) > (hlN c s k).2
          · rw [if_pos ⟨hl, .inr hb⟩]
            unfold hlS
            rw [if_pos hb]
          · rw [if_neg (fun h => h.2.elim h3 hb)]
            unfold hlS
            rw [if_neg hb]
        · split
          · simp; omega
          · exact h3
    · rw [if_neg hl, if_neg fun h => hl h.1]
      exact hlN_list c s k
/-- While the follower is on its cam its track is the cam's. -/
theorem trk_onT {c : List Int} {s : Int} : ∀ {k : Nat}, (trk c s k).2.2.1 = true → trk c s k = onT c k ∨ ∃ j, j < k ∧ (trk c s j).2.2.1 = false
  | 0, _ => .inl rfl
  | k + 1, h => by
    cases hk : (trk c s k).2.2.1 with
    | false => exact .inr ⟨k, by omega, hk⟩
    | true =>
      rcases trk_onT hk with h1 | ⟨j, h1, h2⟩
      · left
        have e : trk c s (k + 1) = nxT (onT c k) (cAt c ((k + 1 : Nat) : Int)) s := by rw [← h1]; rfl
        rw [e] at h ⊢
        unfold nxT at h ⊢
        split
        · rename_i hg; rw [if_pos hg] at h; cases h
        · unfold onT
          rw [show ((k + 1 : Nat) : Int) - 1 = (k : Int) by omega]
      · exact .inr ⟨j, by omega, h2⟩
theorem lets_go {c : List Int} {s : Int} {k : Nat} (hb : -(bendP c (k : Int)) > s) : ∃ j, 1 ≤ j ∧ j ≤ k + 1 ∧ (trk c s j).2.2.1 = false := by
  have pos : ∀ {j}, (trk c s j).2.2.1 = false → 1 ≤ j := fun {j} h => by
    cases j with
    | zero => cases h
    | succ j => omega
  cases hk : (trk c s k).2.2.1 with
  | false => exact ⟨k, pos hk, by omega, hk⟩
  | true =>
    rcases trk_onT hk with h1 | ⟨j, h1, h2⟩
    · refine ⟨k + 1, by omega, Nat.le_refl _, ?_⟩
      have e : trk c s (k + 1) = nxT (onT c k) (cAt c ((k + 1 : Nat) : Int)) s := by rw [← h1]; rfl
      rw [e]
      unfold nxT
      rw [if_pos]
      unfold bendP at hb
      unfold onT
      simp only
      rw [show ((k + 1 : Nat) : Int) = (k : Int) + 1 by omega]
      omega
    · exact ⟨j, pos h2, by omega, h2⟩
theorem fi_first {α : Type} {p : α → Bool} : ∀ {l : List α} {i : Int} {j : Nat}, 0 ≤ i → (∃ v, l[j]? = some v ∧ p v = true) → ∃ m : Nat, m ≤ j ∧ fi p l i = i + m ∧ ∃ v, l[m]? = some v ∧ p v = true
  | [], _, j, _, h => by obtain ⟨v, h, _⟩ := h; simp at h
  | a :: r, i, j, hi, h => by
    unfold fi
    by_cases ha : p a = true
    · rw [if_pos ha]; exact ⟨0, by omega, by omega, a, rfl, ha⟩
    · rw [if_neg ha]
      cases j with
      | zero => obtain ⟨v, h, hv⟩ := h; simp at h; subst h; exact absurd hv ha
      | succ j =>
        obtain ⟨m, h1, h2, h3⟩ := fi_first (l := r) (i := i + 1) (j := j) (by omega) (by simpa using h)
        exact ⟨m + 1, by omega, by rw [h2]; omega, by simpa using h3⟩
/-- A spring one weaker than the least lets the follower go within a turn. -/
theorem weak_goes {c : List Int} (h : 1 < sprF (bends c)) : ∃ i : Nat, 1 ≤ i ∧ i ≤ c.length ∧ fi (fun (q : Trk) => !q.2.2.1) (tb (c.length + 1) (trk c (sprF (bends c) - 1))) 0 = (i : Int) := by
  have hn : ¬ sprF (bends c) ≤ sprF (bends c) - 1 := by omega
  rw [sprF_le] at hn
  have : ∃ v ∈ bends c, -v > sprF (bends c) - 1 := by
    apply Classical.byContradiction
    intro hx
    exact hn ⟨by omega, fun v hv => by
      apply Classical.byContradiction
      intro hy
      exact hx ⟨v, hv, by omega⟩⟩
  obtain ⟨v, hv, hb⟩ := this
  obtain ⟨k, hk, rfl⟩ := tb_mem hv
  obtain ⟨j, j1, j2, hj⟩ := lets_go (s := sprF (bends c) - 1) hb
  obtain ⟨m, m1, m2, v, m3, m4⟩ := fi_first (p := fun (q : Trk) => !q.2.2.1) (l := tb (c.length + 1) (trk c (sprF (bends c) - 1))) (i := 0) (j := j) (Int.le_refl _) ⟨_, tb_get (by omega), by rw [hj]; rfl⟩
  refine ⟨m, ?_, by omega, by rw [m2]; omega⟩
  cases m with
  | zero => rw [tb_get (by omega)] at m3; injection m3 with m3; subst m3; cases m4
  | succ m => omega
end Go.Cams
