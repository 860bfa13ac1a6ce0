/- What the functions that the law reaches come to. -/
import Derived.Test.YtoafnbpahdnchaaRCutters
import Derived.Test.YtoafnbpahdnchaaPuAll
namespace Go.Cams.YtoafnbpahdnchaaLCutters
open Go Go.Fw Go.Proofs Go.Proofs.Ytoafnbpahdnchaa.LCutters
/- laws.a2Long -/
theorem e23 (a b : List Int) : Evt (fun n => call T C n 23 (a, b, ())) ((decide ((a.length : Int) > 3000) || decide ((b.length : Int) > 3000), ()), ()) := by
  refine Evt.next ?_ (fun n => r23 n a b)
  cases decide ((a.length : Int) > 3000) with
  | true => exact Evt.yes rfl (Evt.some _)
  | false => exact Evt.no (by simp) (Evt.some _)
/- spec.l00From -/
theorem e81 (a : List Int) : Evt (fun n => call T C n 81 (a, ())) (((a, 0, 0, ()), ()), ()) := Evt.next (Evt.some _) (fun n => r81 n a)
/- (*spec.l00Src).next -/
theorem e154 {k : Int} {s : Src} (h : SrcAt k s) (hk : k ≤ 1000000000000) : ∃ (v : Int) (s' : Src), Evt (fun n => call T C n 154 (s, ())) ((v, ()), (s', ())) ∧ 0 ≤ v ∧ v ≤ 255 ∧ SrcAt (k + 1) s' := by
  obtain ⟨h1, h2, h3, h4⟩ := h
  have hw : wr .i64 (s.2.1 + 1) = s.2.1 + 1 := wrap_id (by omega) (by omega)
  by_cases hp : s.2.1 < (s.1.length : Int)
  · obtain ⟨v, hv⟩ := at_of h3 hp
    have hb := h1 v hv.mem
    have ev : wr .i64 v = v := wrap_id (by omega) (by omega)
    obtain ⟨z, hz⟩ : ∃ z, z = wr .u64 ((wr .u64 ((wr .u64 (s.2.2.1 * (6364136223846793005 : Int))) + (wr .u64 (wr .i64 v)))) + (1442695040888963407 : Int)) := ⟨_, rfl⟩
    refine ⟨v, (s.1, s.2.1 + 1, z, ()), Evt.next (Evt.yes (decide_eq_true hp) (Evt.at hv.idx (Evt.yes (decide_eq_true (by rw [hw]; omega)) ((Evt.some _).of_eq fun n => ?_)))) (fun n => r154 n s), hb.1, hb.2, h1, h2, by show 0 ≤ s.2.1 + 1; omega, by show s.2.1 + 1 ≤ k + 1; omega⟩
    rw [← hz, hw, ev]
    rfl
  · obtain ⟨z, hz⟩ : ∃ z, z = wr .u64 ((wr .u64 ((wr .u64 (s.2.2.1 * (6364136223846793005 : Int))) + (wr .u64 (0 : Int)))) + (1442695040888963407 : Int)) := ⟨_, rfl⟩
    have hzb : 0 ≤ z ∧ z < 18446744073709551616 := by rw [hz]; exact wrap_u64 _
    obtain ⟨y, rfl⟩ : ∃ y : Nat, z = y := ⟨z.toNat, by omega⟩
    have hval : wr .i64 (bitsI .and .u64 (shr_ .u64 (y : Int) (40 : Int)) (255 : Int)) = ((y / 2 ^ 40 % 256 : Nat) : Int) := by
      rw [show (40 : Int) = ((40 : Nat) : Int) from rfl, shr_nat (by omega), and_255 (Nat.lt_of_le_of_lt (Nat.div_le_self _ _) (by omega))]
      have := Nat.mod_lt (y / 2 ^ 40) (show 0 < 256 by omega)
      exact wrap_id (by omega) (by omega)
    have hm := Nat.mod_lt (y / 2 ^ 40) (show 0 < 256 by omega)
    refine ⟨((y / 2 ^ 40 % 256 : Nat) : Int), (s.1, s.2.1 + 1, (y : Int), ()), Evt.next (Evt.no (by simpa using hp) (Evt.no (by rw [hw]; simp; omega) (Evt.chk rfl ((Evt.some _).of_eq fun n => ?_)))) (fun n => r154 n s), by omega, by omega, h1, h2, by show 0 ≤ s.2.1 + 1; omega, by show s.2.1 + 1 ≤ k + 1; omega⟩
    rw [← hz, hw, hval]
    rfl
/- (*spec.l00Src).pick -/
theorem e101 {k : Int} {s : Src} (h : SrcAt k s) (hk : k ≤ 999999999000) {m : Int} (m1 : 1 ≤ m) (m2 : m ≤ 1000000) : ∃ (v : Int) (s' : Src), Evt (fun n => call T C n 101 (s, m, ())) ((v, ()), (s', ())) ∧ 0 ≤ v ∧ v < m ∧ SrcAt (k + 2) s' := by
  by_cases hm : m ≤ 1
  · exact ⟨0, s, Evt.next (Evt.yes (decide_eq_true hm) (Evt.some _)) (fun n => r101 n s m), by omega, by omega, h.mono (by omega)⟩
  · obtain ⟨v, s1, hE, v0, v1, hs1⟩ := e154 h (by omega)
    by_cases hb : m > 200
    · obtain ⟨u, s2, hE2, u0, u1, hs2⟩ := e154 hs1 (by omega)
      have hx : wr .i64 (wr .i64 (v * 256) + u) = v * 256 + u := by rw [wrap_id (x := v * 256) (by omega) (by omega), wrap_id (by omega) (by omega)]
      have ht0 := Int.tmod_nonneg m (show 0 ≤ v * 256 + u by omega)
      have ht1 := Int.tmod_lt_of_pos (v * 256 + u) (show 0 < m by omega)
      refine ⟨Int.tmod (v * 256 + u) m, s2, Evt.next (Evt.no (by simpa using hm) (Evt.bind hE (Evt.yes (decide_eq_true hb) (Evt.bind hE2 (Evt.chk (bne_pos (by omega)) ((Evt.some _).of_eq fun n => ?_)))))) (fun n => r101 n s m), ht0, ht1, hs2.mono (by omega)⟩
      rw [hx]
      rfl
    · have ht0 := Int.tmod_nonneg m v0
      have ht1 := Int.tmod_lt_of_pos v (show 0 < m by omega)
      exact ⟨Int.tmod v m, s1, Evt.next (Evt.no (by simpa using hm) (Evt.bind hE (Evt.no (by simpa using hb) (Evt.chk (bne_pos (by omega)) (Evt.some _))))) (fun n => r101 n s m), ht0, ht1, hs1.mono (by omega)⟩
/- (*spec.l00Src).one -/
theorem e142 {k : Int} {s : Src} (h : SrcAt k s) (hk : k ≤ 999999999000) {m : Int} (m1 : 1 ≤ m) (m2 : m ≤ 1000000) : ∃ (b : Bool) (s' : Src), Evt (fun n => call T C n 142 (s, m, ())) ((b, ()), (s', ())) ∧ SrcAt (k + 2) s' := by
  obtain ⟨v, s1, hE, v0, v1, hs1⟩ := e101 h hk m1 m2
  exact ⟨v == 0, s1, Evt.next (Evt.bind hE (Evt.some _)) (fun n => r142 n s m), hs1⟩
/- spec.l02Drawn -/
theorem e80 {k : Int} {s : Src} (h : SrcAt k s) (hk : k ≤ 999999990000) : ∃ (p : Prg) (s' : Src), Evt (fun n => call T C n 80 (s, ())) ((p, ()), (s', ())) ∧ SmPg p ∧ SrcAt (k + 100) s' := by
  obtain ⟨t, s1, hE1, t0, t1, hs1⟩ := e101 h (by omega) (m := 30) (by omega) (by omega)
  obtain ⟨c, s2, hE2, c0, c1, hs2⟩ := e101 hs1 (by omega) (m := 4) (by omega) (by omega)
  have key : EvtX (fun n => call T C n 80 (s, ())) (fun y => SmPg y.1.1 ∧ SrcAt (k + 100) y.2.1) := by
    refine EvtX.next (EvtX.bind hE1 (EvtX.bind hE2 ?_)) (fun n => r80 n s)
    refine EvtX.loop (fun x => ∃ (src : Src) (L : List Ct) (m : Nat), x = (src, (0, [], ()), (t, L, ()), sumM L, (m : Int), ()) ∧ m ≤ 5 ∧ SrcAt (k + 4 + 8 * (5 - m)) src ∧ (∀ v ∈ L, MoSm v) ∧ (L.length : Int) + m ≤ 5 ∧ 2 ≤ (L.length : Int) + m) (fun x => x.2.2.2.2.1.toNat)
      ⟨s2, [], (2 + c).toNat, ?_, by omega, hs2.mono (by omega), by simp, by simp; omega, by simp; omega⟩ ?_
    · show (s2, _, (wr .i16 t, _, ()), _, wr .i64 (2 + c), ()) = _
      rw [wrap16 (x := t) (by omega) (by omega), wrap_id (x := 2 + c) (by omega) (by omega), show (((2 + c).toNat : Nat) : Int) = 2 + c by omega]
      rfl
    rintro x ⟨src, L, m, rfl, hm, hsrc, hL, hn1, hn2⟩
    have hsm := sumM_sm L hL
    by_cases h0 : 0 < m
    · right
      obtain ⟨a, a1, hA, a0, al, hs3⟩ := e101 hsrc (by omega) (m := 4) (by omega) (by omega)
      obtain ⟨b, b1, hB, b0, bl, hs4⟩ := e101 hs3 (by omega) (m := 9) (by omega) (by omega)
      obtain ⟨d, d1, hD, d0, dl, hs5⟩ := e101 hs4 (by omega) (m := 60) (by omega) (by omega)
      obtain ⟨o, o1, hO, hs6⟩ := e142 hs5 (by omega) (m := 3) (by omega) (by omega)
      have ea : wr .i8 a = a := wr_i8 (by omega) (by omega)
      have eb : wr .i16 (wr .i64 (1 + b)) = 1 + b := by rw [wrap_id (x := 1 + b) (by omega) (by omega), wrap16 (by omega) (by omega)]
      have ed : wr .i16 d = d := wrap16 (by omega) (by omega)
      have es : wr .i64 (sumM L + wr .i64 (1 + b)) = sumM L + (1 + b) := by rw [wrap_id (x := 1 + b) (by omega) (by omega), wrap_id (by omega) (by omega)]
      have em : wr .i64 ((m : Int) - 1) = ((m - 1 : Nat) : Int) := by rw [wrap_id (by omega) (by omega)]; omega
      have next : ∀ w, 0 ≤ w → w ≤ 59 → ∃ (src : Src) (L' : List Ct) (m' : Nat), ((o1, (0, [], ()), (t, L ++ [(a, 1 + b, w, ())], ()), sumM L + (1 + b), ((m - 1 : Nat) : Int), ()) : Src × Prg × Prg × Int × Int × Unit) = (src, (0, [], ()), (t, L', ()), sumM L', (m' : Int), ()) ∧ m' ≤ 5 ∧ SrcAt (k + 4 + 8 * (5 - m')) src ∧ (∀ v ∈ L', MoSm v) ∧ (L'.length : Int) + m' ≤ 5 ∧ 2 ≤ (L'.length : Int) + m' := fun w w0 w1 => by
        refine ⟨o1, L ++ [(a, 1 + b, w, ())], m - 1, by rw [sumM_snoc], by omega, hs6.mono (by omega), fun v hv => ?_, by simp; omega, by simp; omega⟩
        rcases List.mem_append.1 hv with hv | hv
        · exact hL v hv
        · simp at hv; rw [hv]; unfold MoSm; simp only; omega
      have hlen : ((L.length + 1) * 6 : Int) ≤ 140737488355328 := by omega
      by_cases ho : o = true ∧ 0 < L.length
      · obtain ⟨ho, hl⟩ := ho
        obtain ⟨M, v, rfl⟩ := last_split hl
        have hvm := hL v (by simp)
        have hi : wr .i64 (((M ++ [v]).length : Int) - 1) = (M.length : Int) := by rw [wrap_id (by omega) (by omega)]; simp
        have hg : (M ++ [v])[((M.length : Int)).toNat]? = some v := by simp
        refine ⟨(o1, (0, [], ()), (t, (M ++ [v]) ++ [(a, 1 + b, v.2.2.1, ())], ()), sumM (M ++ [v]) + (1 + b), ((m - 1 : Nat) : Int), ()), next _ hvm.2.2.1 hvm.2.2.2, ?_, fun y => ?_⟩
        · show ((m - 1 : Nat) : Int).toNat < (m : Int).toNat
          omega
        · refine Round.yes (decide_eq_true (show (m : Int) > 0 by omega)) (Round.bind hA (Round.bind hB (Round.bind hD (Round.bind hO (Round.yes ho (Round.yes (by simp) ?_))))))
          simp only [hi]
          refine Round.chk (decide_eq_true (by simp; omega)) (Round.at hg (Round.chk (decide_eq_true (by simp only [List.length_cons, List.length_nil]; omega)) (Round.again _ ?_)))
          rw [ea, eb, em, wrap_id (x := 1 + b) (by omega) (by omega), wrap_id (x := sumM (M ++ [v]) + (1 + b)) (by omega) (by omega)]
      · refine ⟨(o1, (0, [], ()), (t, L ++ [(a, 1 + b, d, ())], ()), sumM L + (1 + b), ((m - 1 : Nat) : Int), ()), next _ d0 (by omega), ?_, fun y => ?_⟩
        · show ((m - 1 : Nat) : Int).toNat < (m : Int).toNat
          omega
        · refine Round.yes (decide_eq_true (show (m : Int) > 0 by omega)) (Round.bind hA (Round.bind hB (Round.bind hD (Round.bind hO ?_))))
          have fin : ∀ {z}, z = ((o1, (0, [], ()), (t, L ++ [(a, 1 + b, d, ())], ()), sumM L + (1 + b), ((m - 1 : Nat) : Int), ()) : Src × Prg × Prg × Int × Int × Unit) → z = z := fun _ => rfl
          cases o with
          | true =>
            have hl : L.length = 0 := by
              apply Classical.byContradiction
              intro hx
              exact ho ⟨rfl, by omega⟩
            refine Round.yes rfl (Round.no (by simp [hl]) (Round.chk (decide_eq_true (by simp only [List.length_cons, List.length_nil]; omega)) (Round.again _ ?_)))
            rw [ea, eb, ed, em, wrap_id (x := 1 + b) (by omega) (by omega), wrap_id (x := sumM L + (1 + b)) (by omega) (by omega)]
          | false =>
            refine Round.no (by simp) (Round.chk (decide_eq_true (by simp only [List.length_cons, List.length_nil]; omega)) (Round.again _ ?_))
            rw [ea, eb, ed, em, wrap_id (x := 1 + b) (by omega) (by omega), wrap_id (x := sumM L + (1 + b)) (by omega) (by omega)]
    · left
      have hm0 : m = 0 := by omega
      subst hm0
      obtain ⟨M, v, rfl⟩ := last_split (L := L) (by omega)
      have hvm := hL v (by simp)
      obtain ⟨⟨v1, v2⟩, ⟨v3, v4⟩, v5, v6⟩ := hvm
      have hMs : ∀ u ∈ M, MoSm u := fun u hu => hL u (by simp [hu])
      have hsM := sumM_sm M hMs
      rw [sumM_snoc] at hsm
      have hlM : ((M ++ [v]).length : Int) = M.length + 1 := by simp
      have hi : wr .i64 (((M ++ [v]).length : Int) - 1) = (M.length : Int) := by rw [wrap_id (by omega) (by omega)]; simp
      have hg : (M ++ [v])[((M.length : Int)).toNat]? = some v := by simp
      have hset : ∀ u w : Ct, (M ++ [u]).set ((M.length : Int)).toNat w = M ++ [w] := fun u w => by simp
      have hg2 : ∀ u : Ct, (M ++ [u])[((M.length : Int)).toNat]? = some u := fun u => by simp
      by_cases h8 : sumM (M ++ [v]) < 8
      · refine ⟨(((t, M ++ [(v.1, v.2.1 + (8 - sumM (M ++ [v])), t, ())], ()), ()), (src, ())), ⟨?_, hsrc.mono (by omega)⟩, ?_⟩
        · rw [sumM_snoc] at h8 ⊢
          exact smPg t0 (by omega) hMs (by omega) v1 v2 (by omega) (by omega) (by omega) (by omega)
        · refine Round.no (by simp) ?_
          simp only [hi]
          refine Round.chk (decide_eq_true (show 0 ≤ (M.length : Int) ∧ (M.length : Int) < ((M ++ [v]).length : Int) by omega)) (Round.at hg (Round.yes (decide_eq_true h8) ?_))
          simp only [hset]
          refine Round.at (hg2 _) (Round.at (hg2 _) (Round.done ((Evt.some _).of_eq fun n => ?_)))
          rw [sumM_snoc] at h8 ⊢
          simp only [hset]
          rw [wrap_id (x := 8 - (sumM M + v.2.1)) (by omega) (by omega), wrap16 (x := 8 - (sumM M + v.2.1)) (by omega) (by omega), wrap16 (x := v.2.1 + (8 - (sumM M + v.2.1))) (by omega) (by omega)]
          rfl
      · refine ⟨(((t, M ++ [(v.1, v.2.1, t, ())], ()), ()), (src, ())), ⟨?_, hsrc.mono (by omega)⟩, ?_⟩
        · rw [sumM_snoc] at h8
          exact smPg t0 (by omega) hMs (by omega) v1 v2 (by omega) (by omega) (by omega) (by omega)
        · refine Round.no (by simp) ?_
          simp only [hi]
          refine Round.chk (decide_eq_true (show 0 ≤ (M.length : Int) ∧ (M.length : Int) < ((M ++ [v]).length : Int) by omega)) (Round.at hg (Round.no (by simpa using h8) (Round.done ((Evt.some _).of_eq fun n => ?_))))
          simp only [hset]
          rfl
  obtain ⟨⟨⟨p, _⟩, s', _⟩, ⟨h1, h2⟩, hE⟩ := key
  exact ⟨p, s', hE, h1, h2⟩
/- spec.l02Shape -/
theorem e174 {w k n : Int} (w0 : 0 ≤ w) (w1 : w ≤ 3) (k0 : 0 ≤ k) (k1 : k ≤ n) (n1 : n ≤ 360) : Evt (fun m => call T C m 174 (w, k, n, ())) ((shN w k n, shD w n, ()), ()) := by
  refine Evt.next ?_ (fun m => r174 m w k n)
  have W : ∀ x : Int, -9000000000000000000 ≤ x → x ≤ 9000000000000000000 → wr .i64 x = x := fun x a b => wrap_id (by omega) (by omega)
  have q2 := mulB (show 0 ≤ n by omega) n1 (show 0 ≤ n by omega) n1
  have q3 := mulB q2.1 q2.2 (show 0 ≤ n by omega) n1
  have q4 := mulB q3.1 q3.2 (show 0 ≤ n by omega) n1
  have q5 := mulB q4.1 q4.2 (show 0 ≤ n by omega) n1
  have kk := mulB (show 0 ≤ 2 * k by omega) (show 2 * k ≤ 720 by omega) k0 (show k ≤ 360 by omega)
  have dd := mulB (show 0 ≤ 2 * (n - k) by omega) (show 2 * (n - k) ≤ 720 by omega) (show 0 ≤ n - k by omega) (show n - k ≤ 360 by omega)
  have k3 := mulB (show 0 ≤ 3 * k by omega) (show 3 * k ≤ 1080 by omega) k0 (show k ≤ 360 by omega)
  have k3n := mulB k3.1 k3.2 (show 0 ≤ n by omega) n1
  have kkk := mulB kk.1 kk.2 k0 (show k ≤ 360 by omega)
  have c2 := mulB k0 (show k ≤ 360 by omega) k0 (show k ≤ 360 by omega)
  have c3 := mulB c2.1 c2.2 k0 (show k ≤ 360 by omega)
  have e1 := mulB (show 0 ≤ 10 * n by omega) (show 10 * n ≤ 3600 by omega) (show 0 ≤ n by omega) n1
  have e2 := mulB (show 0 ≤ 15 * k by omega) (show 15 * k ≤ 5400 by omega) (show 0 ≤ n by omega) n1
  have e3 := mulB (show 0 ≤ 6 * k by omega) (show 6 * k ≤ 2160 by omega) k0 (show k ≤ 360 by omega)
  have a1 : k * k * k * (-1944000) ≤ k * k * k * (10 * n * n - 15 * k * n + 6 * k * k) := Int.mul_le_mul_of_nonneg_left (by omega) c3.1
  have a2 : k * k * k * (10 * n * n - 15 * k * n + 6 * k * k) ≤ k * k * k * 2073600 := Int.mul_le_mul_of_nonneg_left (by omega) c3.1
  have one : Evt (fun _ => if decide (wr .i64 (2 * k) ≤ n) = true then some ((wr .i64 (wr .i64 (2 * k) * k), wr .i64 (n * n), ()), ()) else some ((wr .i64 (wr .i64 (n * n) - wr .i64 (wr .i64 (2 * wr .i64 (n - k)) * wr .i64 (n - k))), wr .i64 (n * n), ()), ())) ((shN 1 k n, shD 1 n, ()), ()) := by
    rw [W (2 * k) (by omega) (by omega), W (2 * k * k) (by omega) (by omega), W (n * n) (by omega) (by omega), W (n - k) (by omega) (by omega), W (2 * (n - k)) (by omega) (by omega), W (2 * (n - k) * (n - k)) (by omega) (by omega), W (n * n - 2 * (n - k) * (n - k)) (by omega) (by omega)]
    refine Evt.ite (fun h => ?_) (fun h => ?_)
    · have : shN 1 k n = 2 * k * k := by unfold shN; rw [if_pos rfl, if_pos (of_decide_eq_true h)]
      rw [this]; exact Evt.some _
    · have : shN 1 k n = n * n - 2 * (n - k) * (n - k) := by unfold shN; rw [if_pos rfl, if_neg (by simpa using h)]
      rw [this]; exact Evt.some _
  have two : Evt (fun _ => some ((wr .i64 (wr .i64 (wr .i64 (wr .i64 (3 * k) * k) * n) - wr .i64 (wr .i64 (wr .i64 (2 * k) * k) * k)), wr .i64 (wr .i64 (n * n) * n), ()), ())) ((shN 2 k n, shD 2 n, ()), ()) := by
    rw [W (3 * k) (by omega) (by omega), W (3 * k * k) (by omega) (by omega), W (3 * k * k * n) (by omega) (by omega), W (2 * k) (by omega) (by omega), W (2 * k * k) (by omega) (by omega), W (2 * k * k * k) (by omega) (by omega), W (3 * k * k * n - 2 * k * k * k) (by omega) (by omega), W (n * n) (by omega) (by omega), W (n * n * n) (by omega) (by omega)]
    exact Evt.some _
  have three : Evt (fun _ => some ((wr .i64 (wr .i64 (wr .i64 (k * k) * k) * wr .i64 (wr .i64 (wr .i64 (wr .i64 (10 * n) * n) - wr .i64 (wr .i64 (15 * k) * n)) + wr .i64 (wr .i64 (6 * k) * k))), wr .i64 (wr .i64 (wr .i64 (wr .i64 (n * n) * n) * n) * n), ()), ())) ((shN 3 k n, shD 3 n, ()), ()) := by
    rw [W (k * k) (by omega) (by omega), W (k * k * k) (by omega) (by omega), W (10 * n) (by omega) (by omega), W (10 * n * n) (by omega) (by omega), W (15 * k) (by omega) (by omega), W (15 * k * n) (by omega) (by omega), W (10 * n * n - 15 * k * n) (by omega) (by omega), W (6 * k) (by omega) (by omega), W (6 * k * k) (by omega) (by omega), W (10 * n * n - 15 * k * n + 6 * k * k) (by omega) (by omega), W (k * k * k * (10 * n * n - 15 * k * n + 6 * k * k)) (by omega) (by omega), W (n * n) (by omega) (by omega), W (n * n * n) (by omega) (by omega), W (n * n * n * n) (by omega) (by omega), W (n * n * n * n * n) (by omega) (by omega)]
    exact Evt.some _
  rcases (show w = 0 ∨ w = 1 ∨ w = 2 ∨ w = 3 by omega) with rfl | rfl | rfl | rfl
  · exact Evt.no (by decide) (Evt.no (by decide) (Evt.no (by decide) (Evt.some _)))
  · exact Evt.yes rfl one
  · exact Evt.no (by decide) (Evt.yes rfl two)
  · exact Evt.no (by decide) (Evt.no (by decide) (Evt.yes rfl three))
/- spec.l01Near -/
theorem e175 {x n : Int} (hn : 0 < n) (hn' : n ≤ 10000000000000) (h1 : -2000000000000000000 ≤ x) (h2 : x ≤ 2000000000000000000) : Evt (fun m => call T C m 175 (x, n, ())) ((nr x n, ()), ()) := by
  have hbd := ediv_bd (a := 2 * x + n) (b := 2 * n) (M := 4500000000000000000) (by omega) (by omega) (by omega) (by omega)
  have he := floorDiv_eq (a := 2 * x + n) (b := 2 * n) (by omega)
  refine Evt.next ?_ (fun m => r175 m x n)
  rw [wrap_id (x := 2 * n) (by omega) (by omega), wrap_id (x := 2 * x) (by omega) (by omega), wrap_id (x := 2 * x + n) (by omega) (by omega)]
  refine Evt.chk (bne_pos (by omega)) (Evt.chk (bne_pos (by omega)) (Evt.ite (fun h => ?_) (fun h => ?_)))
  · have h : Int.tmod (2 * x + n) (2 * n) < 0 := of_decide_eq_true h
    rw [if_pos h] at he
    refine (Evt.some _).of_eq fun m => ?_
    rw [wrap_id (x := Int.tdiv (2 * x + n) (2 * n)) (by omega) (by omega), wrap_id (by omega) (by omega), he]
    rfl
  · have h : ¬ Int.tmod (2 * x + n) (2 * n) < 0 := by simpa using h
    rw [if_neg h] at he
    refine (Evt.some _).of_eq fun m => ?_
    rw [wrap_id (x := Int.tdiv (2 * x + n) (2 * n)) (by omega) (by omega), he]
    rfl
/- spec.l02Lift -/
theorem e143 {f t w k n : Int} (f0 : 0 ≤ f) (f1 : f ≤ 10000) (t0 : 0 ≤ t) (t1 : t ≤ 10000) (w0 : 0 ≤ w) (w1 : w ≤ 3) (k0 : 0 ≤ k) (k1 : k ≤ n) (n0 : 1 ≤ n) (n1 : n ≤ 360) : Evt (fun m => call T C m 143 (f, t, w, k, n, ())) ((liftP f t w k n, ()), ()) := by
  have hd := shD_bd (w := w) n0 n1
  have hb := lift_bd (w := w) f0 f1 t0 t1 k0 k1 n0 n1
  refine Evt.next (Evt.bind (e174 w0 w1 k0 k1 n1) ?_) (fun m => r143 m f t w k n)
  show Evt (fun m => (call T C m 175 (wr .i64 (wr .i64 (f * shD w n) + wr .i64 (wr .i64 (t - f) * shN w k n)), shD w n, ())).bind _) _
  rw [wrap_id (x := f * shD w n) (by omega) (by omega), wrap_id (x := t - f) (by omega) (by omega), wrap_id (x := (t - f) * shN w k n) (by omega) (by omega), wrap_id (x := f * shD w n + (t - f) * shN w k n) (by omega) (by omega)]
  exact Evt.bind (e175 (by omega) (by omega) (by omega) (by omega)) (Evt.some _)
/- spec.l02Make -/
theorem e82 {p : Prg} (hr : RngPg p) (hn : (p.2.1.length : Int) ≤ 24) (ht : 0 ≤ p.1 ∧ p.1 ≤ 10000) (hi : ∀ v ∈ p.2.1, MoIn 0 10000 v) : Evt (fun n => call T C n 82 (p, ())) ((proF p.1 p.2.1, ()), ()) := by
  refine Evt.next ?_ (fun n => r82 n p)
  rw [wrap_id (x := p.1) (by omega) (by omega)]
  have hpl : ∀ i : Nat, ((proF p.1 (p.2.1.take i)).length : Int) ≤ 1000000 := fun i => by
    have h1 := proF_len (p.2.1.take i) p.1 fun v hv => (hi v (List.mem_of_mem_take hv)).n.1
    have h2 := sumM_take hr.m hn i
    omega
  refine for_evt' 0 (p.2.1.length : Int) (fun i (_ : Unit) => (p, proF p.1 (p.2.1.take i.toNat), toF p.1 (p.2.1.take i.toNat), i, ())) (fun _ _ => True) (b0 := ()) (by simp [proF, toF]) (by omega) trivial ?_ ?_
  · intro i _ h2 h3 _
    obtain ⟨v, hv⟩ := at_of h2 h3
    have hm := hi v hv.mem
    have hw := hm.w
    have hn1 := hm.n
    have htt := hm.t
    have hf := toF_in (p.2.1.take i.toNat) (f := p.1) (fun u hu => hi u (List.mem_of_mem_take hu)) ht.1 ht.2
    have hl := hpl i.toNat
    refine Round.yes (decide_eq_true h3) (Round.at hv.idx ?_)
    have e2 : wr .i64 v.2.1 = v.2.1 := hr.m.i2 hv.mem
    have e1 : wr .i64 v.1 = v.1 := hr.m.i1 hv.mem
    have e3 : wr .i64 v.2.2.1 = v.2.2.1 := hr.m.i3 hv.mem
    refine for_round' 0 v.2.1 (fun j (_ : Unit) => (p, proF p.1 (p.2.1.take i.toNat) ++ (seg (toF p.1 (p.2.1.take i.toNat)) v).take j.toNat, toF p.1 (p.2.1.take i.toNat), i, v, j, ())) (fun _ _ => True) (b0 := ()) (by simp) (by omega) trivial ?_ ?_
    · intro j _ h4 h5 _
      have hb := liftP_in (f := toF p.1 (p.2.1.take i.toNat)) (t := v.2.2.1) (w := v.1) (k := j) (n := v.2.1) (lo := 0) (hi := 10000) hw.1 hw.2 h4 (by omega) hn1.1 hn1.2 hf.1 hf.2 htt.1 htt.2
      have hsl := seg_len (toF p.1 (p.2.1.take i.toNat)) v
      have hlen : ((proF p.1 (p.2.1.take i.toNat) ++ (seg (toF p.1 (p.2.1.take i.toNat)) v).take j.toNat).length : Int) ≤ 1000360 := by
        rw [List.length_append, List.length_take]
        omega
      refine Round.yes (decide_eq_true (show j < wr .i64 v.2.1 by rw [e2]; exact h5)) ?_
      simp only [e1, e2, e3]
      refine Round.bind (e143 hf.1 hf.2 htt.1 htt.2 hw.1 hw.2 h4 (by omega) hn1.1 hn1.2) (Round.chk (decide_eq_true (by simp only [List.length_cons, List.length_nil]; omega)) (Round.inr _ ⟨(), ?_, trivial⟩))
      rw [wrap16 (x := liftP (toF p.1 (p.2.1.take i.toNat)) v.2.2.1 v.1 j v.2.1) (by omega) (by omega), seg_take _ _ h4 h5, List.append_assoc, wr_succ h4 h5 (by omega)]
    · intro _ _
      have ht2 : (seg (toF p.1 (p.2.1.take i.toNat)) v).take v.2.1.toNat = seg (toF p.1 (p.2.1.take i.toNat)) v := List.take_of_length_le (by rw [seg_len]; omega)
      refine Round.no (by simp [e2]) (Round.inl _ ⟨(), ?_, trivial⟩)
      rw [hv.take, proF_snoc, toF_snoc, e3, wr_succ h2 h3 (by omega), ht2]
  · intro _ _
    simp only [take_all]
    exact Round.no (by simp) (Round.done (Evt.some _))
/- spec.A2Cam -/
theorem e24 {b : List Int} (hb : ∀ v ∈ b, 0 ≤ v ∧ v ≤ 255) (hl : (b.length : Int) ≤ 3000) : ∃ c, Evt (fun n => call T C n 24 (b, ())) ((c, ()), ()) ∧ SmC c := by
  obtain ⟨p, s', hE, S, _⟩ := e80 (k := 0) (s := (b, 0, 0, ())) ⟨hb, by show (b.length : Int) ≤ _; omega, by show (0 : Int) ≤ 0; omega, by show (0 : Int) ≤ 0; omega⟩ (by omega)
  have ht := S.t
  have hn := S.n
  have hM := e82 S.rng (by omega) (by omega) (fun v hv => by
    have h := S.ins v hv
    exact ⟨h.w, h.n, by have := h.t; omega⟩)
  exact ⟨proF p.1 p.2.1, Evt.next (Evt.bind (e81 b) (Evt.bind hE (Evt.bind hM (Evt.some ((proF p.1 p.2.1, ()), ()))))) (fun n => r24 n b), S.cam⟩
/- spec.l00In -/
theorem e129 (a b c : Int) : Evt (fun n => call T C n 129 (a, b, c, ())) ((inR a b c, ()), ()) := by
  refine Evt.next ?_ (fun n => r129 n a b c)
  refine Evt.ite (fun h => ?_) (fun h => ?_)
  · refine (Evt.some _).of_eq fun n => ?_
    have h : b ≤ a := of_decide_eq_true h
    simp [inR, h]
    rfl
  · refine (Evt.some _).of_eq fun n => ?_
    have h : ¬ b ≤ a := by simpa using h
    simp [inR, h]
    rfl
/- spec.FlatCutter -/
theorem e144 {H : Nat} (hH : H ≤ 15) : Evt (fun n => call T C n 144 (((2 * H + 1 : Nat) : Int), ())) ((symK H (fun _ => 0), 0, ()), ()) := by
  have h1 : inR ((2 * H + 1 : Nat) : Int) 1 31 = true := inR_iff.2 ⟨by omega, by omega⟩
  have h2 : Int.tmod ((2 * H + 1 : Nat) : Int) 2 = 1 := by rw [show (2 : Int) = ((2 : Nat) : Int) from rfl, ← Int.ofNat_tmod]; omega
  have hE := e129 ((2 * H + 1 : Nat) : Int) 1 31
  rw [h1] at hE
  refine Evt.next (Evt.bind hE ?_) (fun n => r144 n ((2 * H + 1 : Nat) : Int))
  rw [h2]
  refine Evt.no (by decide) (Evt.chk rfl (Evt.no (by decide) (Evt.chk (decide_eq_true ⟨rfl, by omega, by omega⟩) ((Evt.some _).of_eq fun n => ?_))))
  rw [← flat_sym, Int.toNat_natCast]
  rfl
/- spec.l06Drawn -/
theorem e83 {k : Int} {s : Src} (h : SrcAt k s) (hk : k ≤ 999999990000) : ∃ (c : List Int) (s' : Src), Evt (fun n => call T C n 83 (s, ())) ((c, ()), (s', ())) ∧ SmK c ∧ SrcAt (k + 100) s' := by
  obtain ⟨o, s1, hO, hs1⟩ := e142 h (by omega) (m := 3) (by omega) (by omega)
  cases o with
  | true =>
    obtain ⟨v, s2, hV, v0, v1, hs2⟩ := e101 hs1 (by omega) (m := 3) (by omega) (by omega)
    obtain ⟨u, rfl⟩ : ∃ u : Nat, v = u := ⟨v.toNat, by omega⟩
    have hF := e144 (H := u) (by omega)
    have e1 : wr .i64 (1 + wr .i64 (2 * (u : Int))) = ((2 * u + 1 : Nat) : Int) := by rw [wrap_id (x := 2 * (u : Int)) (by omega) (by omega), wrap_id (by omega) (by omega)]; omega
    refine ⟨symK u fun _ => 0, s2, Evt.next (Evt.bind hO (Evt.yes rfl (Evt.bind hV ?_))) (fun n => r83 n s), SmK.of (flat_ris u) (by omega), hs2.mono (by omega)⟩
    rw [e1]
    exact Evt.bind hF (Evt.some _)
  | false =>
    obtain ⟨v, s2, hV, v0, v1, hs2⟩ := e101 hs1 (by omega) (m := 4) (by omega) (by omega)
    obtain ⟨H, rfl⟩ : ∃ u : Nat, v = u := ⟨v.toNat, by omega⟩
    have e1 : wr .i64 (wr .i64 (2 * (H : Int)) + 1) = ((2 * H + 1 : Nat) : Int) := by rw [wrap_id (x := 2 * (H : Int)) (by omega) (by omega), wrap_id (by omega) (by omega)]; omega
    have key : EvtX (fun n => call T C n 83 (s, ())) (fun y => SmK y.1.1 ∧ SrcAt (k + 100) y.2.1) := by
      refine EvtX.next (EvtX.bind hO (EvtX.no (by simp) (EvtX.bind hV ?_))) (fun n => r83 n s)
      simp only [e1]
      refine EvtX.chk (by simp; omega) ?_
      refine EvtX.loop (fun x => ∃ (src : Src) (h : Nat → Int) (i : Nat), x = (src, (H : Int), symK H (fun a => if a < i then h a else 0), h (i - 1), (i : Int), ()) ∧ 1 ≤ i ∧ i ≤ H + 1 ∧ SrcAt (k + 10 + 2 * i) src ∧ h 0 = 0 ∧ (∀ a b, a ≤ b → b < i → h a ≤ h b) ∧ (∀ a : Nat, a < i → h a ≤ 3 * a)) (fun x => (H + 2 - x.2.2.2.2.1.toNat : Nat))
        ⟨s2, fun _ => 0, 1, ?_, by omega, by omega, hs2.mono (by omega), rfl, fun _ _ _ _ => Int.le_refl _, fun a _ => by show (0 : Int) ≤ 3 * a; omega⟩ ?_
      · rw [Int.toNat_natCast, flat_sym]
        have : (fun a => if a < 1 then (fun _ => (0 : Int)) a else 0) = (fun _ : Nat => (0 : Int)) := by funext a; simp
        rw [this]
        rfl
      rintro x ⟨src, h, i, rfl, i1, i2, hsrc, h0, hup, hhi⟩
      by_cases hi : i ≤ H
      · right
        obtain ⟨d, s3, hD, d0, d1, hs3⟩ := e101 hsrc (by omega) (m := 4) (by omega) (by omega)
        have hp0 := hup 0 (i - 1) (by omega) (by omega)
        have hp1 := hhi (i - 1) (by omega)
        have ed : wr .i16 (h (i - 1) + wr .i16 d) = h (i - 1) + d := by rw [wrap16 (x := d) (by omega) (by omega), wrap16 (by omega) (by omega)]
        have em : wr .i64 ((H : Int) - (i : Int)) = ((H - i : Nat) : Int) := by rw [wrap_id (by omega) (by omega)]; omega
        have ep : wr .i64 ((H : Int) + (i : Int)) = ((H + i : Nat) : Int) := by rw [wrap_id (by omega) (by omega)]; omega
        have ei : wr .i64 ((i : Int) + 1) = ((i + 1 : Nat) : Int) := by rw [wrap_id (by omega) (by omega)]; omega
        have hl := symK_len H (fun a => if a < i then h a else 0)
        have g1 := g_idx (l := symK H (fun a => if a < i then h a else 0)) (i := ((H - i : Nat) : Int)) (by omega) (by omega)
        have g2 := g_idx (l := (symK H (fun a => if a < i then h a else 0)).set (H - i) (h (i - 1) + d)) (i := ((H + i : Nat) : Int)) (by omega) (by rw [List.length_set]; omega)
        have n1 := g1.get
        have n2 := g2.get
        refine ⟨(s3, (H : Int), symK H (fun a => if a < i + 1 then (if a = i then h (i - 1) + d else h a) else 0), h (i - 1) + d, ((i + 1 : Nat) : Int), ()), ⟨s3, fun a => if a = i then h (i - 1) + d else h a, i + 1, ?_, by omega, by omega, hs3.mono (by omega), ?_, fun a b hab hb => ?_, fun a ha => ?_⟩, ?_, fun y => ?_⟩
        · simp only [Nat.add_sub_cancel, if_true]
        · show (if 0 = i then _ else _) = (0 : Int)
          rw [if_neg (by omega)]; exact h0
        · show (if a = i then _ else _) ≤ (if b = i then _ else _ : Int)
          by_cases hb2 : b = i
          · rw [if_pos hb2]
            by_cases ha2 : a = i
            · rw [if_pos ha2]; exact Int.le_refl _
            · rw [if_neg ha2]
              have := hup a (i - 1) (by omega) (by omega)
              omega
          · rw [if_neg hb2, if_neg (by omega)]
            exact hup a b hab (by omega)
        · show (if a = i then _ else _) ≤ (3 * a : Int)
          by_cases ha2 : a = i
          · rw [if_pos ha2]; omega
          · rw [if_neg ha2]; exact hhi a (by omega)
        · show (H + 2 - ((i + 1 : Nat) : Int).toNat : Nat) < (H + 2 - (i : Int).toNat : Nat)
          omega
        · refine Round.yes (decide_eq_true (show (i : Int) ≤ (H : Int) by omega)) (Round.bind hD ?_)
          simp only [em, ep, ed, ei, Int.toNat_natCast]
          rw [Int.toNat_natCast] at n1 n2
          refine Round.chk (decide_eq_true ⟨by omega, by rw [hl]; omega⟩) (Round.at n1 (Round.chk (decide_eq_true ⟨by omega, by rw [List.length_set, hl]; omega⟩) (Round.at n2 (Round.again _ ?_))))
          rw [symK_step i1 hi]
      · left
        have hi2 : i = H + 1 := by omega
        have hsame : symK H (fun a => if a < i then h a else 0) = symK H h := tb_ext fun j hj => by
          have := dst_le hj
          show (if dst H j < i then _ else _) = _
          rw [if_pos (by omega)]
        refine ⟨((symK H h, ()), (src, ())), ⟨SmK.of ⟨h0, fun a b hab hb => hup a b hab (by omega), fun a ha => by have := hhi a (by omega); omega⟩ (by omega), hsrc.mono (by omega)⟩, ?_⟩
        rw [hsame]
        exact Round.no (by simp; omega) (Round.done (Evt.some _))
    obtain ⟨⟨⟨c, _⟩, s', _⟩, ⟨h1, h2⟩, hE⟩ := key
    exact ⟨c, s', hE, h1, h2⟩
/- spec.A2Cutter -/
theorem e25 {b : List Int} (hb : ∀ v ∈ b, 0 ≤ v ∧ v ≤ 255) (hl : (b.length : Int) ≤ 4000) : ∃ c, Evt (fun n => call T C n 25 (b, ())) ((c, ()), ()) ∧ SmK c := by
  obtain ⟨c, s', hE, S, _⟩ := e83 (k := 0) (s := (b, 0, 0, ())) ⟨hb, by show (b.length : Int) ≤ _; omega, by show (0 : Int) ≤ 0; omega, by show (0 : Int) ≤ 0; omega⟩ (by omega)
  exact ⟨c, Evt.next (Evt.bind (e81 b) (Evt.bind hE (Evt.some ((c, ()), ())))) (fun n => r25 n b), S⟩
/- (impl.Cam).steps -/
theorem e77 (a : List Int) : Evt (fun n => call T C n 77 (a, ())) (((a.length : Int), ()), ()) := Evt.next (Evt.some _) (fun n => r77 n a)
/- impl.inRange -/
theorem e133 (a b c : Int) : Evt (fun n => call T C n 133 (a, b, c, ())) ((inR a b c, ()), ()) := by
  refine Evt.next ?_ (fun n => r133 n a b c)
  refine Evt.ite (fun h => ?_) (fun h => ?_)
  · refine (Evt.some _).of_eq fun n => ?_
    have h : b ≤ a := of_decide_eq_true h
    simp [inR, h]
    rfl
  · refine (Evt.some _).of_eq fun n => ?_
    have h : ¬ b ≤ a := by simpa using h
    simp [inR, h]
    rfl
/- impl.isSteps -/
theorem e91 (a : Int) : Evt (fun n => call T C n 91 (a, ())) ((inR a 8 360, ()), ()) := Evt.next (Evt.bind (e133 a 8 360) (Evt.some _)) (fun n => r91 n a)
/- impl.isLift -/
theorem e73 (a : Int) : Evt (fun n => call T C n 73 (a, ())) ((inR a 0 10000, ()), ()) := Evt.next (Evt.bind (e133 a 0 10000) (Evt.some _)) (fun n => r73 n a)
/- impl.ValidCam$1 -/
theorem e93 (v : Int) : Evt (fun n => call T C n 93 (v, ())) ((!okV v, ()), ()) := Evt.next (Evt.bind (e73 _) (Evt.some _)) (fun n => r93 n v)
/- slices.IndexFunc[impl.Cam,int16]{impl.ValidCam$1} -/
theorem e148 (l : List Int) (hl : (l.length : Int) ≤ 140737488351232) : Evt (fun n => call T C n 148 (l, ((), ()), ())) ((fi (fun v => !okV v) l 0, ()), ()) := by
  refine Evt.next ?_ (fun n => r148 n l ((), ()))
  refine loop_evt (fun (x : List Int × (Unit × Unit) × Int × Int × Unit) => x.1 = l ∧ x.2.2.1 = (l.length : Int) ∧ 0 ≤ x.2.2.2.1 ∧ x.2.2.2.1 ≤ (l.length : Int) ∧ fi (fun v => !okV v) l 0 = fi (fun v => !okV v) (l.drop x.2.2.2.1.toNat) x.2.2.2.1) (fun (x : List Int × (Unit × Unit) × Int × Int × Unit) => ((l.length : Int) - x.2.2.2.1).toNat) (x := (l, ((), ()), (l.length : Int), 0, ())) ⟨rfl, rfl, Int.le_refl _, by simp, by simp⟩ ?_
  rintro ⟨x1, u, m, i, _⟩ ⟨h', hm, h0, h1, h2⟩
  simp only at h' hm h0 h1 h2
  subst h'; subst hm
  refine Round.ite (fun hlt => ?_) (fun hge => ?_)
  · have hlt : i < (x1.length : Int) := of_decide_eq_true hlt
    obtain ⟨v, hv, hv'⟩ := idx_at h0 hlt
    have hd := drop_cons hv'
    refine Round.at hv (Round.bind (e93 _) (Round.ite (fun hb => ?_) (fun hb => ?_)))
    · have hb : okV v = false := by simpa using hb
      have h3 : fi (fun v => !okV v) x1 0 = i := by rw [h2, hd]; simp [fi, hb]
      rw [h3]
      exact Round.done (Evt.some _)
    · have hb : okV v = true := by simpa using hb
      have hw : wr .i64 (i + 1) = i + 1 := wrap_id (by omega) (by omega)
      refine Round.again _ ⟨⟨rfl, rfl, ?_, ?_, ?_⟩, ?_⟩ <;> simp only [hw]
      · omega
      · omega
      · rw [h2, hd, show (i + 1).toNat = i.toNat + 1 by omega]
        simp [fi, hb]
      · omega
  · have hge : ¬ i < (x1.length : Int) := by simpa using hge
    have : x1.drop i.toNat = [] := List.drop_of_length_le (by omega)
    rw [h2, this]
    exact Round.done (Evt.some _)
/- slices.ContainsFunc[impl.Cam,int16]{impl.ValidCam$1} -/
theorem e92 (l : List Int) (hl : (l.length : Int) ≤ 140737488351232) : Evt (fun n => call T C n 92 (l, ((), ()), ())) ((l.any (fun v => !okV v), ()), ()) := by
  refine Evt.next (Evt.bind (e148 l hl) ((Evt.some _).of_eq fun n => ?_)) (fun n => r92 n l ((), ()))
  simp only [fi_any _ l 0 (Int.le_refl _)]
  rfl
/- impl.ValidCam -/
theorem e35 (l : List Int) (hl : (l.length : Int) ≤ 140737488351232) : Evt (fun n => call T C n 35 (l, ())) ((okC l, ()), ()) := by
  refine Evt.next (Evt.bind (e77 l) (Evt.bind (e91 _) ?_)) (fun n => r35 n l)
  refine Evt.ite (fun h => ?_) (fun h => ?_)
  · refine Evt.bind (e92 l hl) ((Evt.some _).of_eq fun n => ?_)
    have h : inR (l.length : Int) 8 360 = true := h
    have : okC l = !l.any (fun v => !okV v) := by simp [okC, h, List.any_eq_not_all_not]
    rw [this]
    rfl
  · refine (Evt.some _).of_eq fun n => ?_
    have h : inR (l.length : Int) 8 360 = false := by simpa using h
    simp [okC, h]
    rfl
/- impl.ValidCutter -/
theorem e34 (k : List Int) (hr : Rng k) : Evt (fun n => call T C n 34 (k, ())) ((okK k, ()), ()) := by
  have hl := hr.len'
  have hm : Int.tmod (k.length : Int) 2 = ((k.length % 2 : Nat) : Int) := by rw [show (2 : Int) = ((2 : Nat) : Int) from rfl, ← Int.ofNat_tmod]
  have hd : Int.tdiv (k.length : Int) 2 = ((k.length / 2 : Nat) : Int) := by rw [show (2 : Int) = ((2 : Nat) : Int) from rfl, ← Int.ofNat_tdiv]
  refine Evt.next (Evt.chk rfl ?_) (fun n => r34 n k)
  rw [hm, hd, wrap_id (x := ((k.length / 2 : Nat) : Int)) (by omega) (by omega)]
  refine Evt.ite (fun h => ?_) (fun h => ?_)
  · have h : k.length % 2 = 0 := by
      have h' : (k.length : Int) % 2 = 0 := by simpa using h
      omega
    have e : okK k = false := by unfold okK; rw [show decide (k.length % 2 = 1) = false from decide_eq_false (by omega)]; simp
    rw [e]; exact Evt.some _
  have h : k.length % 2 = 1 := by
    have h' : ¬ (k.length : Int) % 2 = 0 := by simpa using h
    omega
  refine Evt.ite (fun h1 => ?_) (fun h1 => ?_)
  · have h1 : (k.length : Int) > 31 := by simpa using h1
    have e : okK k = false := by
      unfold okK
      have : inR (k.length : Int) 1 31 = false := by rw [Bool.eq_false_iff]; intro hh; have := inR_iff.1 hh; omega
      rw [this]; simp
    rw [e]; exact Evt.some _
  have h1 : ¬ (k.length : Int) > 31 := by simpa using h1
  have hin : inR (k.length : Int) 1 31 = true := inR_iff.2 ⟨by omega, by omega⟩
  have e : okK k = ((g k (k.length / 2) == 0) && allTo (kOne k) (k.length / 2 + 1)) := by unfold okK; rw [hin, show decide (k.length % 2 = 1) = true from decide_eq_true h]; simp
  rw [e]
  have hmid := g_idx (l := k) (i := ((k.length / 2 : Nat) : Int)) (by omega) (by omega)
  rw [Int.toNat_natCast] at hmid
  refine Evt.chk rfl (Evt.at hmid.idx (Evt.ite (fun h0 => ?_) (fun h0 => ?_)))
  · have h0 : (g k (k.length / 2) == 0) = false := by simpa using h0
    rw [h0]; exact Evt.some _
  have h0 : (g k (k.length / 2) == 0) = true := by simpa using h0
  rw [h0]
  simp only [Bool.true_and]
  have e2 : allTo (kOne k) (k.length / 2 + 1) = allTo (kTwo k) k.length := by
    rw [Bool.eq_iff_iff]
    exact ⟨kTwo_of h, kOne_of h⟩
  rw [e2]
  refine for_evt' 0 (k.length : Int) (fun i (_ : Unit) => (k, (k.length : Int), k, (k.length : Int), i, ())) (fun i _ => allTo (kTwo k) i.toNat = true) (b0 := ()) rfl (by omega) (by rfl) ?_ ?_
  · intro i _ h2 h3 hp
    obtain ⟨a, rfl⟩ : ∃ a : Nat, i = a := ⟨i.toNat, by omega⟩
    rw [Int.toNat_natCast] at hp
    have hai := g_idx (l := k) (i := (a : Int)) (by omega) (by omega)
    have haj := g_idx (l := k) (i := (k.length : Int) - 1 - a) (by omega) (by omega)
    rw [Int.toNat_natCast] at hai
    rw [show ((k.length : Int) - 1 - a).toNat = k.length - 1 - a by omega] at haj
    have bad : kTwo k a = false → allTo (kTwo k) k.length = false := allTo_false (by omega)
    simp only [hd, wrap_id (x := ((k.length / 2 : Nat) : Int)) (by omega) (by omega), wrap_id (x := (a : Int) + 1) (by omega) (by omega), wrap_id (x := (a : Int) - 1) (by omega) (by omega), wrap_id (x := (k.length : Int) - 1) (by omega) (by omega), wrap_id (x := (k.length : Int) - 1 - (a : Int)) (by omega) (by omega)]
    refine Round.yes (decide_eq_true h3) (Round.at hai.idx (Round.bind (e73 _) (Round.ite (fun c1 => ?_) (fun c1 => ?_))))
    · have c1 : inR (wr .i64 (g k a)) 0 10000 = false := by simpa using c1
      rw [bad (by simp [kTwo, c1])]
      exact Round.done (Evt.some _)
    have c1 : inR (wr .i64 (g k a)) 0 10000 = true := by simpa using c1
    refine Round.at haj.idx (Round.ite (fun c2 => ?_) (fun c2 => ?_))
    · have c2 : (g k a == g k (k.length - 1 - a)) = false := by simpa using c2
      rw [bad (by simp [kTwo, c2])]
      exact Round.done (Evt.some _)
    have c2 : (g k a == g k (k.length - 1 - a)) = true := by simpa using c2
    have again : kTwo k a = true → ∃ b' : Unit, ((k, (k.length : Int), k, (k.length : Int), (a : Int) + 1, ()) : List Int × Int × List Int × Int × Int × Unit) = (k, (k.length : Int), k, (k.length : Int), (a : Int) + 1, ()) ∧ allTo (kTwo k) ((a : Int) + 1).toNat = true := fun h => ⟨(), rfl, by rw [show ((a : Int) + 1).toNat = a + 1 by omega, allTo_succ, hp, h]; rfl⟩
    refine Round.chk rfl (Round.ite (fun c3 => ?_) (fun c3 => ?_))
    · have c3 : (a : Int) > ((k.length / 2 : Nat) : Int) := of_decide_eq_true c3
      have hab := g_idx (l := k) (i := (a : Int) - 1) (by omega) (by omega)
      rw [show ((a : Int) - 1).toNat = a - 1 by omega] at hab
      refine Round.at hab.idx (Round.ite (fun c4 => ?_) (fun c4 => ?_))
      · have c4 : g k a < g k (a - 1) := by simpa using c4
        rw [bad (by
          have c5 : a > k.length / 2 := by omega
          simp [kTwo, c4, c5])]
        exact Round.done (Evt.some _)
      · have c4 : ¬ g k a < g k (a - 1) := by simpa using c4
        exact Round.again _ (again (by simp only [kTwo, c1, c2, decide_eq_false c4]; simp))
    · have c3 : ¬ (a : Int) > ((k.length / 2 : Nat) : Int) := by simpa using c3
      exact Round.no (by simp) (Round.again _ (again (by simp only [kTwo, c1, c2, decide_eq_false (show ¬ a > k.length / 2 by omega)]; simp)))
  · intro _ hp
    have hp : allTo (kTwo k) k.length = true := by simpa using hp
    rw [hp]
    exact Round.no (by simp) (Round.done (Evt.some _))
/- impl.codeIf -/
theorem e72 (c : Bool) (v : Int) : Evt (fun n => call T C n 72 (c, v, ())) (((if c = true then v else 0), ()), ()) := by
  refine Evt.next ?_ (fun n => r72 n c v)
  cases c with
  | true => exact Evt.yes rfl (Evt.some _)
  | false => exact Evt.no (by simp) (Evt.some _)
/- impl.cutterCode -/
theorem e84 (c k : List Int) (hc : Rng c) (hk : Rng k) : Evt (fun n => call T C n 84 (c, k, ())) ((cutCode c k, ()), ()) := by
  have hl := hc.len'
  refine Evt.next (Evt.bind (e35 c (by omega)) ?_) (fun n => r84 n c k)
  unfold cutCode
  cases okC c with
  | false => exact Evt.yes rfl (Evt.bind (e72 _ _) (Evt.some _))
  | true =>
    refine Evt.no (by simp) (Evt.bind (e34 k hk) (Evt.bind (e72 _ _) ?_))
    cases okK k with
    | false => exact Evt.some _
    | true => exact Evt.some _
/- impl.floorDiv -/
theorem e109 {a b : Int} (hb : 0 < b) (h1 : -4500000000000000000 ≤ a) (h2 : a ≤ 4500000000000000000) : Evt (fun n => call T C n 109 (a, b, ())) ((a / b, ()), ()) := by
  have hbd := ediv_bd hb h1 h2 (by omega)
  have he := floorDiv_eq (a := a) hb
  refine Evt.next (Evt.chk (bne_pos hb) (Evt.chk (bne_pos hb) (Evt.ite (fun h => ?_) (fun h => ?_)))) (fun n => r109 n a b)
  · have h : Int.tmod a b < 0 := of_decide_eq_true h
    rw [if_pos h] at he
    refine (Evt.some _).of_eq fun n => ?_
    rw [wrap_id (x := Int.tdiv a b) (by omega) (by omega), wrap_id (by omega) (by omega), he]
    rfl
  · have h : ¬ Int.tmod a b < 0 := by simpa using h
    rw [if_neg h] at he
    refine (Evt.some _).of_eq fun n => ?_
    rw [wrap_id (x := Int.tdiv a b) (by omega) (by omega), he]
    rfl
/- impl.mod -/
theorem e141 {a b : Int} (hb : 0 < b) (hb' : b ≤ 1000000000000) (h1 : -1000000000000 ≤ a) (h2 : a ≤ 1000000000000) : Evt (fun n => call T C n 141 (a, b, ())) ((a % b, ()), ()) := by
  have hd := Int.emod_def a b
  have h3 := Int.emod_nonneg a (show b ≠ 0 by omega)
  have h4 := Int.emod_lt_of_pos a hb
  refine Evt.next (Evt.bind (e109 hb (by omega) (by omega)) ((Evt.some _).of_eq fun n => ?_)) (fun n => r141 n a b)
  simp only
  rw [wrap_id (x := b * (a / b)) (by omega) (by omega), ← hd, wrap_id (by omega) (by omega)]
  rfl
/- (impl.Cam).at -/
theorem e112 {l : List Int} (hr : Rng l) (h0 : 0 < (l.length : Int)) (h1 : (l.length : Int) ≤ 1000000) {x : Int} (hx : -4000000 ≤ x) (hx' : x ≤ 4000000) : Evt (fun n => call T C n 112 (l, x, ())) ((cAt l x, ()), ()) := by
  have hp := Int.emod_nonneg x (show (l.length : Int) ≠ 0 by omega)
  have hq := Int.emod_lt_of_pos x h0
  have hv := g_idx (l := l) hp hq
  refine Evt.next (Evt.bind (e77 l) (Evt.bind (e141 (a := x) h0 (by omega) (by omega) (by omega)) (Evt.at hv.idx ((Evt.some _).of_eq fun n => ?_)))) (fun n => r112 n l x)
  rw [hr.id hv.mem]
  rfl
/- (impl.Cam).tips$1$1 -/
theorem e147 {c : List Int} (hr : Rng c) (h0 : 0 < (c.length : Int)) (h1 : (c.length : Int) ≤ 1000000) (hC : ∀ v ∈ c, 0 ≤ v ∧ v ≤ 10000) {x y z : Int} (hx : -4000000 ≤ x) (hx' : x ≤ 4000000) (hy : 0 ≤ y) (hy' : y ≤ 10000) : Evt (fun n => call T C n 147 (x, y, z, c, ())) ((), (max z (cAt c x - y), c, ())) := by
  have hv := hC _ (cAt_mem (by omega) x)
  refine Evt.next (Evt.bind (e112 hr h0 h1 hx hx') ((Evt.some _).of_eq fun n => ?_)) (fun n => r147 n x y z c)
  simp only [wrap_id (x := cAt c x - y) (by omega) (by omega)]
  have : (if cAt c x - y > z then cAt c x - y else z) = max z (cAt c x - y) := by split <;> omega
  rw [this]
  rfl
/- (impl.Cutter).each{(impl.Cam).tips$1$1} -/
theorem e139 {c k : List Int} (hc : Rng c) (hk : Rng k) (hl0 : 0 < c.length) (hl1 : c.length ≤ 1000) (hC : ∀ v ∈ c, 0 ≤ v ∧ v ≤ 10000) (G : GoodK k) {s : Int} (h0 : 0 ≤ s) (h1 : s ≤ 1000000) : Evt (fun n => call T C n 139 (k, s, ((), 0, c, ()), ())) ((), (((), tip c k s, c, ()), ())) := by
  have hd : Int.tdiv (k.length : Int) 2 = ((k.length / 2 : Nat) : Int) := by rw [show (2 : Int) = ((2 : Nat) : Int) from rfl, ← Int.ofNat_tdiv]
  have hhi := G.hi
  refine Evt.next (Evt.chk rfl ?_) (fun n => r139 n k s ((), 0, c, ()))
  rw [hd, wrap_id (x := ((k.length / 2 : Nat) : Int)) (by omega) (by omega)]
  refine for_evt' 0 (k.length : Int) (fun i (_ : Unit) => (s, ((), (tipTo c k s i.toNat, (c, ()))), ((k.length / 2 : Nat) : Int), k, (k.length : Int), i, ())) (fun _ _ => True) (b0 := ()) rfl (by omega) trivial ?_ ?_
  · intro i _ h2 h3 _
    obtain ⟨a, rfl⟩ : ∃ a : Nat, i = a := ⟨i.toNat, by omega⟩
    have hai := g_idx (l := k) (i := (a : Int)) (by omega) (by omega)
    rw [Int.toNat_natCast] at hai
    have hka := G.el a (by omega)
    simp only [Int.toNat_natCast, wr_succ h2 h3 (by omega), wrap_id (x := s + (a : Int)) (by omega) (by omega), wrap_id (x := s + (a : Int) - ((k.length / 2 : Nat) : Int)) (by omega) (by omega)]
    refine Round.yes (decide_eq_true h3) (Round.at hai.idx ?_)
    simp only [hk.id hai.mem]
    refine Round.bind (e147 hc (by omega) (by omega) hC (by omega) (by omega) hka.1 hka.2) (Round.again _ ⟨(), ?_, trivial⟩)
    rw [show ((a : Int) + 1).toNat = a + 1 by omega, tipTo_succ]
    rfl
  · intro _ _
    simp only [Int.toNat_natCast]
    exact Round.no (by simp) (Round.done (Evt.some _))
/- (impl.Cam).tips$1 -/
theorem e146 {c k : List Int} (hc : Rng c) (hk : Rng k) (hl0 : 0 < c.length) (hl1 : c.length ≤ 1000) (hC : ∀ v ∈ c, 0 ≤ v ∧ v ≤ 10000) (G : GoodK k) {s : Int} (h0 : 0 ≤ s) (h1 : s ≤ 1000000) : Evt (fun n => call T C n 146 (s, k, c, ())) ((tip c k s, ()), (k, c, ())) := Evt.next (Evt.bind (e139 hc hk hl0 hl1 hC G h0 h1) (Evt.some _)) (fun n => r146 n s k c)
/- (impl.Cam).numbers{(impl.Cam).tips$1} -/
theorem e145 {c k : List Int} (hc : Rng c) (hk : Rng k) (hl0 : 0 < c.length) (hl1 : c.length ≤ 1000) (hC : ∀ v ∈ c, 0 ≤ v ∧ v ≤ 10000) (G : GoodK k) : Evt (fun n => call T C n 145 (c, ((), k, c, ()), ())) ((tipsL c k c.length, ()), (((), k, c, ()), ())) := by
  refine Evt.next (Evt.bind (e77 c) ?_) (fun n => r145 n c ((), k, c, ()))
  refine for_evt' 0 (c.length : Int) (fun i (_ : Unit) => (((), (k, (c, ()))), tipsL c k i.toNat, (c.length : Int), i, ())) (fun _ _ => True) (b0 := ()) rfl (by omega) trivial ?_ ?_
  · intro i _ h2 h3 _
    refine Round.yes (decide_eq_true h3) (Round.bind (e146 hc hk hl0 hl1 hC G h2 (show i ≤ 1000000 by omega)) (Round.chk (by simp [tipsL_len]; omega) (Round.again _ ⟨(), ?_, trivial⟩)))
    rw [tipsL_succ c k h2, wr_succ h2 h3 (by omega)]
  · intro _ _
    simp only [Int.toNat_natCast]
    exact Round.no (by simp) (Round.done (Evt.some _))
/- (impl.Cam).tips -/
theorem e86 {c k : List Int} (hc : Rng c) (hk : Rng k) (hl0 : 0 < c.length) (hl1 : c.length ≤ 1000) (hC : ∀ v ∈ c, 0 ≤ v ∧ v ≤ 10000) (G : GoodK k) : Evt (fun n => call T C n 86 (c, k, ())) ((tipsL c k c.length, ()), ()) := Evt.next (Evt.bind (e145 hc hk hl0 hl1 hC G) (Evt.some _)) (fun n => r86 n c k)
/- (impl.Cam).left$1$1 -/
theorem e140 {c k : List Int} (h0 : 0 < c.length) (h1 : c.length ≤ 1000) (hC : ∀ v ∈ c, 0 ≤ v ∧ v ≤ 10000) (G : GoodK k) {x y z : Int} (hx : -4000000 ≤ x) (hx' : x ≤ 4000000) (hy : 0 ≤ y) (hy' : y ≤ 10000) : Evt (fun n => call T C n 140 (x, y, z, tipsL c k c.length, c, ())) ((), (min z (tip c k (x % c.length) + y), tipsL c k c.length, c, ())) := by
  have hp := Int.emod_nonneg x (show (c.length : Int) ≠ 0 by omega)
  have hq := Int.emod_lt_of_pos x (show 0 < (c.length : Int) by omega)
  have hv := g_idx (l := tipsL c k c.length) (i := x % c.length) hp (by rw [tipsL_len]; exact hq)
  rw [g_tips c k (by omega), show (((x % (c.length : Int)).toNat : Nat) : Int) = x % (c.length : Int) by omega] at hv
  have hb := tipTo_bd h0 hC G.el (x % c.length) k.length (Nat.le_refl _)
  have hb1 : 0 ≤ tip c k (x % c.length) := hb.1
  have hb2 : tip c k (x % c.length) ≤ 10000 := hb.2
  refine Evt.next (Evt.bind (e77 c) (Evt.bind (e141 (a := x) (show 0 < (c.length : Int) by omega) (by omega) (by omega) (by omega)) (Evt.at hv.idx ((Evt.some _).of_eq fun n => ?_)))) (fun n => r140 n x y z (tipsL c k c.length) c)
  simp only [wrap_id (x := tip c k (x % c.length) + y) (by omega) (by omega)]
  have : (if tip c k (x % c.length) + y < z then tip c k (x % c.length) + y else z) = min z (tip c k (x % c.length) + y) := by split <;> omega
  rw [this]
  rfl
/- (impl.Cutter).each{(impl.Cam).left$1$1} -/
theorem e1139 {c k : List Int} (hk : Rng k) (hl0 : 0 < c.length) (hl1 : c.length ≤ 1000) (hC : ∀ v ∈ c, 0 ≤ v ∧ v ≤ 10000) (G : GoodK k) {s : Int} (h0 : 0 ≤ s) (h1 : s ≤ 1000000) : Evt (fun n => call T C n 1139 (k, s, ((), tip c k s, tipsL c k c.length, c, ()), ())) ((), (((), lf c k s, tipsL c k c.length, c, ()), ())) := by
  have hd : Int.tdiv (k.length : Int) 2 = ((k.length / 2 : Nat) : Int) := by rw [show (2 : Int) = ((2 : Nat) : Int) from rfl, ← Int.ofNat_tdiv]
  have hhi := G.hi
  refine Evt.next (Evt.chk rfl ?_) (fun n => r1139 n k s ((), tip c k s, tipsL c k c.length, c, ()))
  rw [hd, wrap_id (x := ((k.length / 2 : Nat) : Int)) (by omega) (by omega)]
  refine for_evt' 0 (k.length : Int) (fun i (_ : Unit) => (s, ((), (lfTo c k s i.toNat, (tipsL c k c.length, (c, ())))), ((k.length / 2 : Nat) : Int), k, (k.length : Int), i, ())) (fun _ _ => True) (b0 := ()) rfl (by omega) trivial ?_ ?_
  · intro i _ h2 h3 _
    obtain ⟨a, rfl⟩ : ∃ a : Nat, i = a := ⟨i.toNat, by omega⟩
    have hai := g_idx (l := k) (i := (a : Int)) (by omega) (by omega)
    rw [Int.toNat_natCast] at hai
    have hka := G.el a (by omega)
    simp only [Int.toNat_natCast, wr_succ h2 h3 (by omega), wrap_id (x := s + (a : Int)) (by omega) (by omega), wrap_id (x := s + (a : Int) - ((k.length / 2 : Nat) : Int)) (by omega) (by omega)]
    refine Round.yes (decide_eq_true h3) (Round.at hai.idx ?_)
    simp only [hk.id hai.mem]
    refine Round.bind (e140 hl0 hl1 hC G (by omega) (by omega) hka.1 hka.2) (Round.again _ ⟨(), ?_, trivial⟩)
    rw [show ((a : Int) + 1).toNat = a + 1 by omega, lfTo_succ]
    rfl
  · intro _ _
    simp only [Int.toNat_natCast]
    exact Round.no (by simp) (Round.done (Evt.some _))
/- (impl.Cam).left$1 -/
theorem e138 {c k : List Int} (hk : Rng k) (hl0 : 0 < c.length) (hl1 : c.length ≤ 1000) (hC : ∀ v ∈ c, 0 ≤ v ∧ v ≤ 10000) (G : GoodK k) {s : Nat} (h : s < c.length) : Evt (fun n => call T C n 138 ((s : Int), tipsL c k c.length, k, c, ())) ((lf c k s, ()), (tipsL c k c.length, k, c, ())) := by
  have hv := g_idx (l := tipsL c k c.length) (i := (s : Int)) (by omega) (by rw [tipsL_len]; omega)
  rw [Int.toNat_natCast, g_tips c k h] at hv
  exact Evt.next (Evt.at hv.idx (Evt.bind (e1139 hk hl0 hl1 hC G (s := (s : Int)) (by omega) (by omega)) (Evt.some ((lf c k s, ()), (tipsL c k c.length, k, c, ()))))) (fun n => r138 n s (tipsL c k c.length) k c)
/- impl.camOf{(impl.Cam).left$1} -/
theorem e136 {c k : List Int} (hk : Rng k) (hl0 : 0 < c.length) (hl1 : c.length ≤ 1000) (hC : ∀ v ∈ c, 0 ≤ v ∧ v ≤ 10000) (G : GoodK k) : Evt (fun n => call T C n 136 ((c.length : Int), ((), tipsL c k c.length, k, c, ()), ())) ((leftL c k, 0, ()), (((), tipsL c k c.length, k, c, ()), ())) := by
  have hll := leftL_len c k
  refine Evt.next ?_ (fun n => r136 n (c.length : Int) ((), tipsL c k c.length, k, c, ()))
  refine for_evt' 0 (c.length : Int) (fun i (_ : Unit) => (((), (tipsL c k c.length, (k, (c, ())))), (leftL c k).take i.toNat, (c.length : Int), i, ())) (fun _ _ => True) (b0 := ()) rfl (by omega) trivial ?_ ?_
  · intro i _ h2 h3 _
    obtain ⟨a, rfl⟩ : ∃ a : Nat, i = a := ⟨i.toNat, by omega⟩
    have hb := lf_bd hl0 hC G (show a < c.length by omega)
    have hin : inR (lf c k a) 0 10000 = true := inR_iff.2 hb
    have hlen : ((leftL c k).take a).length = a := by rw [List.length_take]; omega
    simp only [Int.toNat_natCast, wr_succ h2 h3 (by omega)]
    refine Round.yes (decide_eq_true h3) (Round.bind (e138 hk hl0 hl1 hC G (show a < c.length by omega)) (Round.bind (e73 _) (Round.no (by simp [hin]) (Round.chk (by simp [hlen]; omega) (Round.again _ ⟨(), ?_, trivial⟩)))))
    rw [show ((a : Int) + 1).toNat = a + 1 by omega, leftL_take hl0 hC G (by omega), wrap16 (x := lf c k a) (by omega) (by omega)]
  · intro _ _
    have e : (leftL c k).take (c.length : Int).toNat = leftL c k := List.take_of_length_le (by omega)
    simp only [e]
    exact Round.no (by simp) (Round.done (Evt.some _))
/- (impl.Cam).left -/
theorem e79 {c k : List Int} (hc : Rng c) (hk : Rng k) (hl0 : 0 < c.length) (hl1 : c.length ≤ 1000) (hC : ∀ v ∈ c, 0 ≤ v ∧ v ≤ 10000) (G : GoodK k) : Evt (fun n => call T C n 79 (c, k, ())) ((leftL c k, ()), ()) := Evt.next (Evt.bind (e86 hc hk hl0 hl1 hC G) (Evt.bind (e77 c) (Evt.bind (e136 hk hl0 hl1 hC G) (Evt.some ((leftL c k, ()), ()))))) (fun n => r79 n c k)
/- impl.LeftBy -/
theorem e26 (c k : List Int) (hc : Rng c) (hk : Rng k) (h1 : okC c = true) (h2 : okK k = true) : Evt (fun n => call T C n 26 (c, k, ())) ((leftL c k, 0, ()), ()) := by
  have hl := okC_len h1
  have e : cutCode c k = 0 := by unfold cutCode; rw [h1, h2]; rfl
  have hE := e84 c k hc hk
  rw [e] at hE
  refine Evt.next (Evt.bind hE ?_) (fun n => r26 n c k)
  exact Evt.no (by decide) (Evt.bind (e79 hc hk (by omega) (by omega) (okC_el h1 hc) (goodK hk h2)) (Evt.some _))
/- spec.l01Steps -/
theorem e159 (a : Int) : Evt (fun n => call T C n 159 (a, ())) ((inR a 8 360, ()), ()) := Evt.next (Evt.bind (e129 a 8 360) (Evt.some _)) (fun n => r159 n a)
/- spec.l01Lift -/
theorem e65 (a : Int) : Evt (fun n => call T C n 65 (a, ())) ((inR a 0 10000, ()), ()) := Evt.next (Evt.bind (e129 a 0 10000) (Evt.some _)) (fun n => r65 n a)
/- spec.l01Ok -/
theorem e113 (l : List Int) (hl : (l.length : Int) ≤ 140737488351232) : Evt (fun n => call T C n 113 (l, ())) ((okC l, ()), ()) := by
  refine Evt.next ?_ (fun n => r113 n l)
  refine Evt.bind (e159 _) ?_
  refine Evt.ite (fun h => ?_) (fun h => ?_)
  · refine (Evt.some _).of_eq fun n => ?_
    have h : inR (l.length : Int) 8 360 = false := by simpa using h
    simp [okC, h]
    rfl
  · have h : inR (l.length : Int) 8 360 = true := by simpa using h
    have he : okC l = l.all okV := by simp [okC, h]
    rw [he]
    refine loop_evt (fun (x : List Int × Int × Unit) => x.1 = l ∧ 0 ≤ x.2.1 ∧ x.2.1 ≤ (l.length : Int) ∧ l.all okV = (l.drop x.2.1.toNat).all okV) (fun (x : List Int × Int × Unit) => ((l.length : Int) - x.2.1).toNat) (x := (l, 0, ())) ⟨rfl, Int.le_refl _, by simp, by simp⟩ ?_
    rintro ⟨x1, i, _⟩ ⟨h', h0, h1, h2⟩
    simp only at h' h0 h1 h2
    subst h'
    refine Round.ite (fun hlt => ?_) (fun hge => ?_)
    · have hlt : i < (x1.length : Int) := of_decide_eq_true hlt
      obtain ⟨v, hv, hv'⟩ := idx_at h0 hlt
      have hd := drop_cons hv'
      refine Round.at hv (Round.bind (e65 _) (Round.ite (fun hb => ?_) (fun hb => ?_)))
      · have hb : okV v = false := by simpa [okV] using hb
        have h3 : x1.all okV = false := by rw [h2, hd]; simp [hb]
        rw [h3]
        exact Round.done (Evt.some _)
      · have hb : okV v = true := by simpa [okV] using hb
        have hw : wr .i64 (i + 1) = i + 1 := wrap_id (by omega) (by omega)
        refine Round.again _ ⟨⟨rfl, ?_, ?_, ?_⟩, ?_⟩ <;> simp only [hw]
        · omega
        · omega
        · rw [h2, hd, show (i + 1).toNat = i.toNat + 1 by omega]
          simp [hb]
        · omega
    · have hge : ¬ i < (x1.length : Int) := by simpa using hge
      have : x1.drop i.toNat = [] := List.drop_of_length_le (by omega)
      rw [h2, this]
      exact Round.done (Evt.some _)
/- spec.l06Ok -/
theorem e96 (k : List Int) (hr : Rng k) : Evt (fun n => call T C n 96 (k, ())) ((okK k, ()), ()) := by
  have hl := hr.len'
  refine Evt.next (Evt.bind (e129 _ _ _) ?_) (fun n => r96 n k)
  unfold okK
  cases h1 : inR (k.length : Int) 1 31 with
  | false => exact Evt.yes rfl (Evt.some _)
  | true =>
    have hb := inR_iff.1 h1
    have hm : Int.tmod (k.length : Int) 2 = ((k.length % 2 : Nat) : Int) := by rw [show (2 : Int) = ((2 : Nat) : Int) from rfl, ← Int.ofNat_tmod]
    have hd : Int.tdiv (k.length : Int) 2 = ((k.length / 2 : Nat) : Int) := by rw [show (2 : Int) = ((2 : Nat) : Int) from rfl, ← Int.ofNat_tdiv]
    rw [hm, hd, wrap_id (x := ((k.length / 2 : Nat) : Int)) (by omega) (by omega)]
    refine Evt.no (by simp) (Evt.chk rfl (Evt.ite (fun h => ?_) (fun h => ?_)))
    · have h : k.length % 2 = 0 := by
        have h' : (k.length : Int) % 2 = 0 := by simpa using h
        omega
      have e : decide (k.length % 2 = 1) = false := decide_eq_false (by omega)
      rw [e]; exact Evt.some _
    · have h : k.length % 2 = 1 := by
        have h' : ¬ (k.length : Int) % 2 = 0 := by simpa using h
        omega
      have e : decide (k.length % 2 = 1) = true := decide_eq_true h
      rw [e]
      have hmid := g_idx (l := k) (i := ((k.length / 2 : Nat) : Int)) (by omega) (by omega)
      rw [Int.toNat_natCast] at hmid
      refine Evt.chk rfl (Evt.at hmid.idx (Evt.ite (fun h0 => ?_) (fun h0 => ?_)))
      · have h0 : (g k (k.length / 2) == 0) = false := by simpa using h0
        rw [h0]; exact Evt.some _
      · have h0 : (g k (k.length / 2) == 0) = true := by simpa using h0
        rw [h0]
        simp only [Bool.true_and]
        refine for_evt' 0 (((k.length / 2 : Nat) : Int) + 1) (fun i (_ : Unit) => (k, (k.length : Int), i, ())) (fun i _ => allTo (kOne k) i.toNat = true) (b0 := ()) rfl (by omega) (by rfl) ?_ ?_
        · intro i _ h2 h3 hp
          obtain ⟨a, rfl⟩ : ∃ a : Nat, i = a := ⟨i.toNat, by omega⟩
          rw [Int.toNat_natCast] at hp
          have h3' : a < k.length / 2 + 1 := by omega
          have hai := g_idx (l := k) (i := (a : Int)) (by omega) (by omega)
          have haj := g_idx (l := k) (i := (k.length : Int) - 1 - a) (by omega) (by omega)
          rw [Int.toNat_natCast] at hai
          rw [show ((k.length : Int) - 1 - a).toNat = k.length - 1 - a by omega] at haj
          have bad : kOne k a = false → allTo (kOne k) (k.length / 2 + 1) = false := allTo_false h3'
          simp only [hd, wrap_id (x := ((k.length / 2 : Nat) : Int)) (by omega) (by omega), wrap_id (x := (a : Int) + 1) (by omega) (by omega), wrap_id (x := (a : Int) - 1) (by omega) (by omega), wrap_id (x := (k.length : Int) - 1) (by omega) (by omega), wrap_id (x := (k.length : Int) - 1 - (a : Int)) (by omega) (by omega)]
          refine Round.chk rfl (Round.yes (decide_eq_true (by omega)) (Round.at hai.idx (Round.bind (e65 _) (Round.ite (fun c1 => ?_) (fun c1 => ?_)))))
          · have c1 : inR (wr .i64 (g k a)) 0 10000 = false := by simpa using c1
            rw [bad (by simp [kOne, c1])]
            exact Round.done (Evt.some _)
          have c1 : inR (wr .i64 (g k a)) 0 10000 = true := by simpa using c1
          refine Round.at haj.idx (Round.at hai.idx (Round.ite (fun c2 => ?_) (fun c2 => ?_)))
          · have c2 : (g k (k.length - 1 - a) == g k a) = false := by simpa using c2
            rw [bad (by simp [kOne, c2])]
            exact Round.done (Evt.some _)
          have c2 : (g k (k.length - 1 - a) == g k a) = true := by simpa using c2
          have again : kOne k a = true → ∃ b' : Unit, ((k, (k.length : Int), (a : Int) + 1, ()) : List Int × Int × Int × Unit) = (k, (k.length : Int), (a : Int) + 1, ()) ∧ allTo (kOne k) ((a : Int) + 1).toNat = true := fun h => ⟨(), rfl, by rw [show ((a : Int) + 1).toNat = a + 1 by omega, allTo_succ, hp, h]; rfl⟩
          refine Round.ite (fun c3 => ?_) (fun c3 => ?_)
          · have c3 : (a : Int) > 0 := of_decide_eq_true c3
            have hab := g_idx (l := k) (i := (a : Int) - 1) (by omega) (by omega)
            rw [show ((a : Int) - 1).toNat = a - 1 by omega] at hab
            refine Round.at hab.idx (Round.at hai.idx (Round.ite (fun c4 => ?_) (fun c4 => ?_)))
            · have c4 : g k (a - 1) < g k a := by simpa using c4
              rw [bad (by simp [kOne, c4]; omega)]
              exact Round.done (Evt.some _)
            · have c4 : ¬ g k (a - 1) < g k a := by simpa using c4
              exact Round.again _ (again (by simp only [kOne, c1, c2]; simp; omega))
          · have c3 : ¬ (a : Int) > 0 := by simpa using c3
            exact Round.no (by simp) (Round.again _ (again (by simp only [kOne, c1, c2]; simp; omega)))
        · intro _ hp
          have hp : allTo (kOne k) (k.length / 2 + 1) = true := by
            rw [show (((k.length / 2 : Nat) : Int) + 1).toNat = k.length / 2 + 1 by omega] at hp; exact hp
          rw [hp]
          simp only [hd, wrap_id (x := ((k.length / 2 : Nat) : Int)) (by omega) (by omega)]
          exact Round.chk rfl (Round.no (by simp; omega) (Round.done (Evt.some _)))
/- spec.l06Asked -/
theorem e85 (c k : List Int) (hc : Rng c) (hk : Rng k) : Evt (fun n => call T C n 85 (c, k, ())) ((cutCode c k, ()), ()) := by
  have hl := hc.len'
  refine Evt.next (Evt.bind (e113 c (by omega)) ?_) (fun n => r85 n c k)
  unfold cutCode
  cases okC c with
  | false => exact Evt.yes rfl (Evt.some _)
  | true =>
    refine Evt.no (by simp) (Evt.bind (e96 k hk) ?_)
    cases okK k with
    | false => exact Evt.yes rfl (Evt.some _)
    | true => exact Evt.no (by simp) (Evt.some _)
/- spec.l01At -/
theorem e161 {l : List Int} (hr : Rng l) (h0 : 0 < (l.length : Int)) (h1 : (l.length : Int) ≤ 1000000) {x : Int} (hx : -4000000 ≤ x) (hx' : x ≤ 4000000) : ∃ v, l[(x % l.length).toNat]? = some v ∧ v ∈ l ∧ Evt (fun n => call T C n 161 (l, x, ())) ((v, ()), ()) := by
  have hp := Int.emod_nonneg x (show (l.length : Int) ≠ 0 by omega)
  obtain ⟨v, hv⟩ := at_of (l := l) hp (Int.emod_lt_of_pos x h0)
  refine ⟨v, hv.get, hv.mem, ?_⟩
  refine Evt.next (Evt.chk (bne_pos h0) (Evt.chk (bne_pos h0) ?_)) (fun n => r161 n l x)
  rw [turn_at h0 h1 hx hx']
  refine Evt.at hv.idx ((Evt.some _).of_eq fun n => ?_)
  rw [hr.id hv.mem]
  rfl
theorem e161' {l : List Int} (hr : Rng l) (h0 : 0 < (l.length : Int)) (h1 : (l.length : Int) ≤ 1000000) {x : Int} (hx : -4000000 ≤ x) (hx' : x ≤ 4000000) : Evt (fun n => call T C n 161 (l, x, ())) ((cAt l x, ()), ()) := by
  obtain ⟨v, hv, hm, he⟩ := e161 hr h0 h1 hx hx'
  have : cAt l x = v := by unfold cAt g; rw [List.getD_eq_getElem?_getD, hv]; rfl
  rw [this]; exact he
/- spec.l00Max -/
theorem e117 (a b : Int) : Evt (fun n => call T C n 117 (a, b, ())) ((max a b, ()), ()) := by
  refine Evt.next (Evt.ite (fun h => ?_) (fun h => ?_)) (fun n => r117 n a b)
  · have h : a > b := of_decide_eq_true h
    rw [show max a b = a by omega]; exact Evt.some _
  · have h : ¬ a > b := by simpa using h
    rw [show max a b = b by omega]; exact Evt.some _
/- spec.l06Tip -/
theorem e131 {c k : List Int} (hc : Rng c) (hk : Rng k) (hl0 : 0 < c.length) (hl1 : c.length ≤ 1000) (hC : ∀ v ∈ c, 0 ≤ v ∧ v ≤ 10000) (G : GoodK k) {s : Int} (h0 : 0 ≤ s) (h1 : s ≤ 1000000) : Evt (fun n => call T C n 131 (c, k, s, ())) ((tip c k s, ()), ()) := by
  have hd : Int.tdiv (k.length : Int) 2 = ((k.length / 2 : Nat) : Int) := by rw [show (2 : Int) = ((2 : Nat) : Int) from rfl, ← Int.ofNat_tdiv]
  have hlo := G.lo
  have hhi := G.hi
  have hodd := G.odd
  refine Evt.next (Evt.chk rfl ?_) (fun n => r131 n c k s)
  rw [hd, wrap_id (x := ((k.length / 2 : Nat) : Int)) (by omega) (by omega), wrap_id (x := 0 - ((k.length / 2 : Nat) : Int)) (by omega) (by omega)]
  refine for_evt' 0 (k.length : Int) (fun i (_ : Unit) => (c, k, s, ((k.length / 2 : Nat) : Int), tipTo c k s i.toNat, i - ((k.length / 2 : Nat) : Int), ())) (fun _ _ => True) (b0 := ()) rfl (by omega) trivial ?_ ?_
  · intro i _ h2 h3 _
    obtain ⟨a, rfl⟩ : ∃ a : Nat, i = a := ⟨i.toNat, by omega⟩
    have hai := g_idx (l := k) (i := (a : Int)) (by omega) (by omega)
    rw [Int.toNat_natCast] at hai
    have hbd := tipTo_bd hl0 hC G.el s a (by omega)
    have hck := hC _ (cAt_mem hl0 (s + ((a : Int) - ((k.length / 2 : Nat) : Int))))
    have hka := G.el a (by omega)
    simp only [wrap_id (x := s + ((a : Int) - ((k.length / 2 : Nat) : Int))) (by omega) (by omega), show ((k.length / 2 : Nat) : Int) + ((a : Int) - ((k.length / 2 : Nat) : Int)) = a by omega, wrap_id (x := (a : Int)) (by omega) (by omega), wrap_id (x := (a : Int) - ((k.length / 2 : Nat) : Int) + 1) (by omega) (by omega)]
    refine Round.yes (decide_eq_true (by omega)) (Round.bind (e161' hc (by omega) (by omega) (by omega) (by omega)) (Round.at hai.idx (Round.bind (e117 _ _) (Round.again _ ⟨(), ?_, trivial⟩))))
    rw [hk.id (g_mem (by omega)), wrap_id (x := cAt c (s + ((a : Int) - ((k.length / 2 : Nat) : Int))) - g k a) (by omega) (by omega)]
    rw [show ((a : Int) + 1).toNat = a + 1 by omega, Int.toNat_natCast]
    rw [tipTo_succ]
    unfold half
    rw [show s + ((a : Int) - ((k.length / 2 : Nat) : Int)) = s + (a : Int) - ((k.length / 2 : Nat) : Int) by omega, show (a : Int) - ((k.length / 2 : Nat) : Int) + 1 = (a : Int) + 1 - ((k.length / 2 : Nat) : Int) by omega]
  · intro _ _
    simp only [Int.toNat_natCast]
    exact Round.no (by simp; omega) (Round.done (Evt.some _))
/- spec.l06Tips -/
theorem e87 {c k : List Int} (hc : Rng c) (hk : Rng k) (hl0 : 0 < c.length) (hl1 : c.length ≤ 1000) (hC : ∀ v ∈ c, 0 ≤ v ∧ v ≤ 10000) (G : GoodK k) : Evt (fun n => call T C n 87 (c, k, ())) ((tipsL c k c.length, ()), ()) := by
  refine Evt.next ?_ (fun n => r87 n c k)
  refine for_evt' 0 (c.length : Int) (fun i (_ : Unit) => (c, k, tipsL c k i.toNat, i, ())) (fun _ _ => True) (b0 := ()) rfl (by omega) trivial ?_ ?_
  · intro i _ h2 h3 _
    refine Round.yes (decide_eq_true h3) (Round.bind (e131 hc hk hl0 hl1 hC G h2 (show i ≤ 1000000 by omega)) (Round.chk (by simp [tipsL_len]; omega) (Round.again _ ⟨(), ?_, trivial⟩)))
    rw [tipsL_succ c k h2, wr_succ h2 h3 (by omega)]
  · intro _ _
    simp only [Int.toNat_natCast]
    exact Round.no (by simp) (Round.done (Evt.some _))
/- spec.l06Cut -/
theorem e125 {o k : List Int} (hk : Rng k) (hl0 : 0 < o.length) (hl1 : o.length ≤ 1000) (ho : ∀ v ∈ o, 0 ≤ v ∧ v ≤ 10000) (G : GoodK k) {s t : Int} (h0 : 0 ≤ s) (h1 : s ≤ 1000000) (t0 : 0 ≤ t) (t1 : t ≤ 1000000) : Evt (fun n => call T C n 125 (o, k, s, t, ())) (((cutTo k s t o k.length).1, (cutTo k s t o k.length).2, ()), ()) := by
  have hd : Int.tdiv (k.length : Int) 2 = ((k.length / 2 : Nat) : Int) := by rw [show (2 : Int) = ((2 : Nat) : Int) from rfl, ← Int.ofNat_tdiv]
  have hlo := G.lo
  have hhi := G.hi
  have hodd := G.odd
  refine Evt.next (Evt.chk (by simp; omega) (Evt.chk rfl ?_)) (fun n => r125 n o k s t)
  rw [hd, wrap_id (x := ((k.length / 2 : Nat) : Int)) (by omega) (by omega), wrap_id (x := 0 - ((k.length / 2 : Nat) : Int)) (by omega) (by omega)]
  refine for_evt' 0 (k.length : Int) (fun i (_ : Unit) => (k, s, t, (cutTo k s t o i.toNat).1, (o.length : Int), ((k.length / 2 : Nat) : Int), (cutTo k s t o i.toNat).2, i - ((k.length / 2 : Nat) : Int), ())) (fun _ _ => True) (b0 := ()) (by simp [cutTo]) (by omega) trivial ?_ ?_
  · intro i _ h2 h3 _
    obtain ⟨a, rfl⟩ : ∃ a : Nat, i = a := ⟨i.toNat, by omega⟩
    have hai := g_idx (l := k) (i := (a : Int)) (by omega) (by omega)
    rw [Int.toNat_natCast] at hai
    have hka := G.el a (by omega)
    obtain ⟨b1, b2, b3⟩ := cutTo_bd k s hl0 t0 (fun i hi => (G.el i hi).1) ho a (by omega)
    have hlen := cutTo_len k s t o a
    have hpl := place_lt k s hl0 a
    have hplace : ((place k s o.length a : Nat) : Int) = (s + (a : Int) - ((k.length / 2 : Nat) : Int)) % (o.length : Int) := by
      have := Int.emod_nonneg (s + (a : Int) - ((k.length / 2 : Nat) : Int)) (show (o.length : Int) ≠ 0 by omega)
      unfold place half
      omega
    have hat := g_idx (l := (cutTo k s t o a).1) (i := ((place k s o.length a : Nat) : Int)) (by omega) (by omega)
    rw [Int.toNat_natCast] at hat
    have hv := b1 _ (g_mem (l := (cutTo k s t o a).1) (i := place k s o.length a) (by omega))
    have hget : (cutTo k s t o a).1[place k s o.length a]? = some (g (cutTo k s t o a).1 (place k s o.length a)) := by have := hat.get; rwa [Int.toNat_natCast] at this
    have hat2 : Int.tmod (wr .i64 (Int.tmod (s + (a : Int) - ((k.length / 2 : Nat) : Int)) (o.length : Int) + (o.length : Int))) (o.length : Int) = ((place k s o.length a : Nat) : Int) := by
      rw [hplace]; exact turn_at (by omega) (by omega) (by omega) (by omega)
    simp only [Int.toNat_natCast, wrap_id (x := s + (a : Int) - ((k.length / 2 : Nat) : Int)) (by omega) (by omega), wrap_id (x := s + ((a : Int) - ((k.length / 2 : Nat) : Int))) (by omega) (by omega), show s + ((a : Int) - ((k.length / 2 : Nat) : Int)) = s + (a : Int) - ((k.length / 2 : Nat) : Int) by omega, hat2, show ((k.length / 2 : Nat) : Int) + ((a : Int) - ((k.length / 2 : Nat) : Int)) = a by omega, wrap_id (x := (a : Int)) (by omega) (by omega), wrap_id (x := (a : Int) - ((k.length / 2 : Nat) : Int) + 1) (by omega) (by omega)]
    refine Round.yes (decide_eq_true (by omega)) (Round.chk (bne_pos (by omega)) (Round.chk (bne_pos (by omega)) (Round.at hai.idx ?_)))
    simp only [hk.id (g_mem (l := k) (i := a) (by omega)), wrap_id (x := t + g k a) (by omega) (by omega)]
    refine Round.chk (decide_eq_true ⟨by omega, by omega⟩) (Round.at hget ?_)
    simp only [wrap_id (x := g (cutTo k s t o a).1 (place k s o.length a)) (by omega) (by omega)]
    refine Round.ite (fun hc => ?_) (fun hc => ?_)
    · have hc : g (cutTo k s t o a).1 (place k s o.length a) > t + g k a := of_decide_eq_true hc
      refine Round.chk (decide_eq_true ⟨by omega, by omega⟩) (Round.at hget (Round.chk (decide_eq_true ⟨by omega, by omega⟩) (Round.at hget (Round.again _ ⟨(), ?_, trivial⟩))))
      rw [show ((a : Int) + 1).toNat = a + 1 by omega, cutTo_succ, if_pos hc, wrap16 (x := t + g k a) (by omega) (by omega), wrap_id (x := g (cutTo k s t o a).1 (place k s o.length a)) (by omega) (by omega), wrap_id (x := g (cutTo k s t o a).1 (place k s o.length a) - (t + g k a)) (by omega) (by omega), wrap_id (x := (cutTo k s t o a).2 + (g (cutTo k s t o a).1 (place k s o.length a) - (t + g k a))) (by omega) (by omega)]
      rw [show (a : Int) - ((k.length / 2 : Nat) : Int) + 1 = (a : Int) + 1 - ((k.length / 2 : Nat) : Int) by omega]
    · have hc : ¬ g (cutTo k s t o a).1 (place k s o.length a) > t + g k a := by simpa using hc
      refine Round.again _ ⟨(), ?_, trivial⟩
      rw [show ((a : Int) + 1).toNat = a + 1 by omega, cutTo_succ, if_neg hc]
      rw [show (a : Int) - ((k.length / 2 : Nat) : Int) + 1 = (a : Int) + 1 - ((k.length / 2 : Nat) : Int) by omega]
  · intro _ _
    simp only [Int.toNat_natCast]
    exact Round.no (by simp; omega) (Round.done (Evt.some _))
/- spec.l06Left -/
theorem e69 {c k : List Int} (hc : Rng c) (hk : Rng k) (hl0 : 0 < c.length) (hl1 : c.length ≤ 1000) (hC : ∀ v ∈ c, 0 ≤ v ∧ v ≤ 10000) (G : GoodK k) : Evt (fun n => call T C n 69 (c, k, ())) ((leftL c k, ()), ()) := by
  refine Evt.next ?_ (fun n => r69 n c k)
  refine for_evt' 0 (c.length : Int) (fun i (_ : Unit) => (c, k, List.replicate i.toNat (10000 : Int), (c.length : Int), i, ())) (fun _ _ => True) (b0 := ()) rfl (by omega) trivial ?_ ?_
  · intro i _ h2 h3 _
    refine Round.yes (decide_eq_true h3) (Round.chk (by simp; omega) (Round.again _ ⟨(), ?_, trivial⟩))
    rw [wr_succ h2 h3 (by omega), show (i + 1).toNat = i.toNat + 1 by omega, List.replicate_succ']
  · intro _ _
    simp only [Int.toNat_natCast]
    refine Round.no (by simp) (Round.bind (e87 hc hk hl0 hl1 hC G) (Round.done ?_))
    refine for_evt' 0 (c.length : Int) (fun i (_ : Unit) => (k, leftTo c k i.toNat, tipsL c k c.length, i, ())) (fun _ _ => True) (b0 := ()) rfl (by omega) trivial ?_ ?_
    · intro i _ h2 h3 _
      obtain ⟨a, rfl⟩ : ∃ a : Nat, i = a := ⟨i.toNat, by omega⟩
      have hta := g_idx (l := tipsL c k c.length) (i := (a : Int)) (by omega) (by rw [tipsL_len]; omega)
      rw [Int.toNat_natCast, g_tips c k (show a < c.length by omega)] at hta
      have hlen := leftTo_len c k a
      have ht := tipTo_bd hl0 hC G.el (a : Nat) k.length (Nat.le_refl _)
      simp only [Int.toNat_natCast]
      refine Round.yes (decide_eq_true (by rw [tipsL_len]; omega)) (Round.at hta.idx (Round.bind (e125 hk (by omega) (by omega) (leftTo_bd hl0 hC G a) G (s := (a : Int)) (t := tip c k (a : Nat)) (by omega) (by omega) ht.1 (show tip c k (a : Nat) ≤ 1000000 by have : tip c k (a : Nat) ≤ 10000 := ht.2; omega)) (Round.again _ ⟨(), ?_, trivial⟩)))
      rw [wr_succ h2 h3 (by omega), show ((a : Int) + 1).toNat = a + 1 by omega, leftTo_succ]
    · intro _ _
      simp only [Int.toNat_natCast]
      exact Round.no (by simp [tipsL_len]) (Round.done (Evt.some _))
/- spec.LeftBy -/
theorem e27 (c k : List Int) (hc : Rng c) (hk : Rng k) (h1 : okC c = true) (h2 : okK k = true) : Evt (fun n => call T C n 27 (c, k, ())) ((leftL c k, 0, ()), ()) := by
  have hl := okC_len h1
  have e : cutCode c k = 0 := by unfold cutCode; rw [h1, h2]; rfl
  have hE := e85 c k hc hk
  rw [e] at hE
  refine Evt.next (Evt.bind hE ?_) (fun n => r27 n c k)
  exact Evt.no (by decide) (Evt.bind (e69 hc hk (by omega) (by omega) (okC_el h1 hc) (goodK hk h2)) (Evt.some _))
/- impl.TipsFor -/
theorem e28 (c k : List Int) (hc : Rng c) (hk : Rng k) (h1 : okC c = true) (h2 : okK k = true) : Evt (fun n => call T C n 28 (c, k, ())) ((tipsL c k c.length, 0, ()), ()) := by
  have hl := okC_len h1
  have e : cutCode c k = 0 := by unfold cutCode; rw [h1, h2]; rfl
  have hE := e84 c k hc hk
  rw [e] at hE
  refine Evt.next (Evt.bind hE ?_) (fun n => r28 n c k)
  exact Evt.no (by decide) (Evt.bind (e86 hc hk (by omega) (by omega) (okC_el h1 hc) (goodK hk h2)) (Evt.some _))
/- spec.TipsFor -/
theorem e29 (c k : List Int) (hc : Rng c) (hk : Rng k) (h1 : okC c = true) (h2 : okK k = true) : Evt (fun n => call T C n 29 (c, k, ())) ((tipsL c k c.length, 0, ()), ()) := by
  have hl := okC_len h1
  have e : cutCode c k = 0 := by unfold cutCode; rw [h1, h2]; rfl
  have hE := e85 c k hc hk
  rw [e] at hE
  refine Evt.next (Evt.bind hE ?_) (fun n => r29 n c k)
  exact Evt.no (by decide) (Evt.bind (e87 hc hk (by omega) (by omega) (okC_el h1 hc) (goodK hk h2)) (Evt.some _))
/- (impl.Cam).waste -/
theorem e88 {c k : List Int} (hc : Rng c) (hk : Rng k) (hl0 : 0 < c.length) (hl1 : c.length ≤ 1000) (hC : ∀ v ∈ c, 0 ≤ v ∧ v ≤ 10000) (G : GoodK k) : Evt (fun n => call T C n 88 (c, k, ())) ((waste c k, ()), ()) := by
  have hll := leftL_len c k
  refine Evt.next (Evt.bind (e79 hc hk hl0 hl1 hC G) ?_) (fun n => r88 n c k)
  refine for_evt' 0 (c.length : Int) (fun i (_ : Unit) => (c, wsTo c (leftL c k) i.toNat, leftL c k, ((leftL c k).length : Int), i, ())) (fun _ _ => True) (b0 := ()) rfl (by omega) trivial ?_ ?_
  · intro i _ h2 h3 _
    obtain ⟨a, rfl⟩ : ∃ a : Nat, i = a := ⟨i.toNat, by omega⟩
    have ha := g_idx (l := leftL c k) (i := (a : Int)) (by omega) (by omega)
    have hb := g_idx (l := c) (i := (a : Int)) (by omega) (by omega)
    rw [Int.toNat_natCast] at ha hb
    have h4 := wsTo_bd hl0 hC G a (by omega)
    have h5 := leftTo_bd hl0 hC G c.length _ (g_mem (l := leftL c k) (i := a) (by omega))
    have h6 := hC _ (g_mem (l := c) (i := a) (by omega))
    have e16 : wr .i16 (g (leftL c k) a - g c a) = g (leftL c k) a - g c a := wrap16 (by omega) (by omega)
    simp only [Int.toNat_natCast, wr_succ h2 h3 (by omega)]
    refine Round.yes (decide_eq_true (by omega)) (Round.at ha.idx (Round.at hb.idx (Round.again _ ⟨(), ?_, trivial⟩)))
    rw [show ((a : Int) + 1).toNat = a + 1 by omega, wsTo_succ, e16, wrap_id (x := g (leftL c k) a - g c a) (by omega) (by omega), wrap_id (x := wsTo c (leftL c k) a + (g (leftL c k) a - g c a)) (by omega) (by omega)]
  · intro _ _
    simp only [Int.toNat_natCast]
    exact Round.no (by simp [hll]) (Round.done (Evt.some _))
/- impl.WasteOf -/
theorem e30 (c k : List Int) (hc : Rng c) (hk : Rng k) (h1 : okC c = true) (h2 : okK k = true) : Evt (fun n => call T C n 30 (c, k, ())) ((waste c k, 0, ()), ()) := by
  have hl := okC_len h1
  have e : cutCode c k = 0 := by unfold cutCode; rw [h1, h2]; rfl
  have hE := e84 c k hc hk
  rw [e] at hE
  refine Evt.next (Evt.bind hE ?_) (fun n => r30 n c k)
  exact Evt.no (by decide) (Evt.bind (e88 hc hk (by omega) (by omega) (okC_el h1 hc) (goodK hk h2)) (Evt.some _))
/- impl.NotReached -/
theorem e31 (c k : List Int) (hc : Rng c) (hk : Rng k) : Evt (fun n => call T C n 31 (c, k, ())) (nrR c k, ()) := by
  refine Evt.next (Evt.bind (e84 c k hc hk) ?_) (fun n => r31 n c k)
  unfold nrR
  refine Evt.ite (fun h => ?_) (fun h => ?_)
  · rw [if_pos (by simpa using h)]; exact Evt.some _
  have h : cutCode c k = 0 := by simpa using h
  rw [if_neg (by simpa using h)]
  obtain ⟨h1, h2⟩ := cutCode_ok h
  have hl := okC_len h1
  have hC := okC_el h1 hc
  have G := goodK hk h2
  have hll := leftL_len c k
  refine Evt.bind (e79 hc hk (by omega) (by omega) hC G) ?_
  refine for_evt' 0 (c.length : Int) (fun i (_ : Unit) => (c, nrTo c (leftL c k) i.toNat, leftL c k, ((leftL c k).length : Int), i, ())) (fun _ _ => True) (b0 := ()) rfl (by omega) trivial ?_ ?_
  · intro i _ h2 h3 _
    obtain ⟨a, rfl⟩ : ∃ a : Nat, i = a := ⟨i.toNat, by omega⟩
    have ha := g_idx (l := leftL c k) (i := (a : Int)) (by omega) (by omega)
    have hb := g_idx (l := c) (i := (a : Int)) (by omega) (by omega)
    rw [Int.toNat_natCast] at ha hb
    have hn := nrTo_len c (leftL c k) a
    simp only [Int.toNat_natCast, wr_succ h2 h3 (by omega)]
    refine Round.yes (decide_eq_true (by omega)) (Round.at ha.idx (Round.at hb.idx (Round.ite (fun hx => ?_) (fun hx => ?_))))
    · have hx : g (leftL c k) a > g c a := of_decide_eq_true hx
      refine Round.chk (by simp; omega) (Round.again _ ⟨(), ?_, trivial⟩)
      rw [show ((a : Int) + 1).toNat = a + 1 by omega, nrTo_succ, if_pos hx]
    · have hx : ¬ g (leftL c k) a > g c a := by simpa using hx
      refine Round.again _ ⟨(), ?_, trivial⟩
      rw [show ((a : Int) + 1).toNat = a + 1 by omega, nrTo_succ, if_neg hx]
  · intro _ _
    simp only [Int.toNat_natCast]
    exact Round.no (by simp [hll]) (Round.done (Evt.some _))
/- spec.l01Same -/
theorem e89 (l : List Int) (hl : (l.length : Int) ≤ 1000000) : Evt (fun n => call T C n 89 (l, l, ())) ((true, ()), ()) := by
  refine Evt.next (Evt.no (by simp) ?_) (fun n => r89 n l l)
  refine for_evt' 0 (l.length : Int) (fun i (_ : Unit) => (l, l, i, ())) (fun _ _ => True) (b0 := ()) rfl (by omega) trivial ?_ ?_
  · intro i _ h2 h3 _
    obtain ⟨v, hv⟩ := at_of h2 h3
    exact Round.yes (decide_eq_true h3) (Round.at hv.idx (Round.at hv.idx (Round.no (by simp) (Round.again _ ⟨(), by rw [wr_succ h2 h3 (by omega)], trivial⟩))))
  · intro _ _
    exact Round.no (by simp) (Round.done (Evt.some _))
/- spec.SameCam -/
theorem e32 (l : List Int) (hl : (l.length : Int) ≤ 1000000) : Evt (fun n => call T C n 32 (l, l, ())) ((true, ()), ()) := Evt.next (Evt.bind (e89 l hl) (Evt.some _)) (fun n => r32 n l l)
/- spec.l00Same -/
theorem e90 (l : List Int) (hl : (l.length : Int) ≤ 1000000) : Evt (fun n => call T C n 90 (l, l, ())) ((true, ()), ()) := by
  refine Evt.next (Evt.no (by simp) ?_) (fun n => r90 n l l)
  refine for_evt' 0 (l.length : Int) (fun i (_ : Unit) => (l, l, i, ())) (fun _ _ => True) (b0 := ()) rfl (by omega) trivial ?_ ?_
  · intro i _ h2 h3 _
    obtain ⟨v, hv⟩ := at_of h2 h3
    exact Round.yes (decide_eq_true h3) (Round.at hv.idx (Round.at hv.idx (Round.no (by simp) (Round.again _ ⟨(), by rw [wr_succ h2 h3 (by omega)], trivial⟩))))
  · intro _ _
    exact Round.no (by simp) (Round.done (Evt.some _))
/- spec.A2Same -/
theorem e33 (l : List Int) (hl : (l.length : Int) ≤ 1000000) : Evt (fun n => call T C n 33 (l, l, ())) ((true, ()), ()) := Evt.next (Evt.bind (e90 l hl) (Evt.some _)) (fun n => r33 n l l)
/- spec.A2Has -/
theorem e36 (l : List Int) (x : Int) (hl : (l.length : Int) ≤ 1000000) : Evt (fun n => call T C n 36 (l, x, ())) ((l.any (fun v => v == x), ()), ()) := by
  refine Evt.next ?_ (fun n => r36 n l x)
  refine for_evt' 0 (l.length : Int) (fun i (_ : Unit) => (l, x, i, ())) (fun i _ => l.any (fun v => v == x) = (l.drop i.toNat).any (fun v => v == x)) (b0 := ()) rfl (by omega) (by simp) ?_ ?_
  · intro i _ h2 h3 hp
    obtain ⟨v, hv⟩ := at_of h2 h3
    rw [hv.drop] at hp
    simp only [List.any_cons] at hp
    refine Round.yes (decide_eq_true h3) (Round.at hv.idx ?_)
    cases hb : v == x with
    | true =>
      rw [hp, hb]
      exact Round.yes rfl (Round.done (Evt.some _))
    | false =>
      rw [hb, Bool.false_or] at hp
      exact Round.no (by simp) (Round.again _ ⟨(), by rw [wr_succ h2 h3 (by omega)], hp⟩)
  · intro _ hp
    rw [drop_all] at hp
    rw [hp]
    exact Round.no (by simp) (Round.done (Evt.some _))
/- (impl.Cutter).standsAt -/
theorem e94 {a b : List Int} (A : GoodK a) (B : GoodK b) {off : Nat} (ho : off + a.length ≤ b.length) : Evt (fun n => call T C n 94 (a, b, (off : Int), ())) ((st a b off, ()), ()) := by
  have hal := A.lo
  have hah := A.hi
  have hbh := B.hi
  have gb := g_idx (l := b) (i := (off : Int)) (by omega) (by omega)
  have ga := g_idx (l := a) (i := 0) (by omega) (by omega)
  rw [Int.toNat_natCast] at gb
  have ga : At a 0 (g a 0) := ga
  have b0 := B.el off (by omega)
  have a0 := A.el 0 (by omega)
  have bd : ∀ n, n ≤ a.length → -10000 ≤ siTo a b off n ∧ siTo a b off n ≤ 10000 := by
    intro n
    induction n with
    | zero => intro _; show -10000 ≤ g b off - g a 0 ∧ g b off - g a 0 ≤ 10000; omega
    | succ n ih =>
      intro hn
      have h1 := ih (by omega)
      have h2 := B.el (off + n) (by omega)
      have h3 := A.el n (by omega)
      unfold siTo; omega
  refine Evt.next (Evt.at gb.idx (Evt.at ga.idx ?_)) (fun n => r94 n a b off)
  rw [wrap16 (x := g b off - g a 0) (by omega) (by omega)]
  refine for_evt' 0 (a.length : Int) (fun i (_ : Unit) => (b, (off : Int), siTo a b off i.toNat, a, (a.length : Int), i, ())) (fun _ _ => True) (b0 := ()) rfl (by omega) trivial ?_ ?_
  · intro i' _ h2 h3 _
    obtain ⟨i, rfl⟩ : ∃ i : Nat, i' = i := ⟨i'.toNat, by omega⟩
    have g1 := g_idx (l := a) (i := (i : Int)) (by omega) (by omega)
    have g2 := g_idx (l := b) (i := ((off + i : Nat) : Int)) (by omega) (by omega)
    rw [Int.toNat_natCast] at g1 g2
    have e1 := A.el i (by omega)
    have e2 := B.el (off + i) (by omega)
    have hw : wr .i64 ((off : Int) + (i : Int)) = ((off + i : Nat) : Int) := by rw [wrap_id (by omega) (by omega)]; omega
    refine Round.yes (decide_eq_true h3) (Round.at g1.idx ?_)
    simp only [hw]
    refine Round.at g2.idx (Round.again _ ⟨(), ?_, trivial⟩)
    rw [wrap16 (x := g b (off + i) - g a i) (by omega) (by omega), wr_succ h2 h3 (by omega), show ((i : Int) + 1).toNat = i + 1 by omega, Int.toNat_natCast]
    have : (if g b (off + i) - g a i > siTo a b off i then g b (off + i) - g a i else siTo a b off i) = siTo a b off (i + 1) := by
      show _ = max (siTo a b off i) (g b (off + i) - g a i)
      split <;> omega
    rw [this]
  · intro _ _
    rw [Int.toNat_natCast, si_st A B ho]
    exact Round.no (by simp) (Round.done (Evt.some _))
/- slices.Index[[]bool,bool] -/
theorem e149 (l : List Bool) (x : Bool) (hl : (l.length : Int) ≤ 1000000) : Evt (fun n => call T C n 149 (l, x, ())) ((fi (fun v => x == v) l 0, ()), ()) := by
  refine Evt.next ?_ (fun n => r149 n l x)
  refine for_evt' 0 (l.length : Int) (fun i (_ : Unit) => (l, x, (l.length : Int), i, ())) (fun i _ => fi (fun v => x == v) l 0 = fi (fun v => x == v) (l.drop i.toNat) i) (b0 := ()) rfl (by omega) (by simp) ?_ ?_
  · intro i _ h2 h3 hp
    obtain ⟨v, hv⟩ := at_of h2 h3
    rw [hv.drop] at hp
    simp only [fi] at hp
    refine Round.yes (decide_eq_true h3) (Round.at hv.idx ?_)
    cases hb : x == v with
    | true =>
      simp only [hb, if_true] at hp
      rw [hp]
      exact Round.yes rfl (Round.done (Evt.some _))
    | false =>
      simp only [hb, Bool.false_eq_true, if_false] at hp
      exact Round.no (by simp) (Round.again _ ⟨(), by rw [wr_succ h2 h3 (by omega)], hp⟩)
  · intro _ hp
    rw [drop_all] at hp
    rw [hp]
    exact Round.no (by simp) (Round.done (Evt.some _))
/- slices.Contains[[]bool,bool] -/
theorem e95 (l : List Bool) (x : Bool) (hl : (l.length : Int) ≤ 1000000) : Evt (fun n => call T C n 95 (l, x, ())) ((l.any (fun v => x == v), ()), ()) := by
  refine Evt.next (Evt.bind (e149 l x hl) ((Evt.some _).of_eq fun n => ?_)) (fun n => r95 n l x)
  simp only [fi_any _ l 0 (Int.le_refl _)]
  rfl
/- impl.CanReplace -/
theorem e37 {a b : List Int} (hra : Rng a) (hrb : Rng b) (oa : okK a = true) (ob : okK b = true) : Evt (fun n => call T C n 37 (a, b, ())) ((crB a b, 0, ()), ()) := by
  have A := goodK hra oa
  have B := goodK hrb ob
  have hal := A.lo
  have hah := A.hi
  have hbh := B.hi
  have v1 := e34 a hra
  have v2 := e34 b hrb
  rw [oa] at v1
  rw [ob] at v2
  refine Evt.next (Evt.bind v1 ?_) (fun n => r37 n a b)
  refine Evt.no (by decide) (Evt.bind v2 ?_)
  refine Evt.no (by decide) (Evt.chk (decide_eq_true ⟨rfl, by omega, by omega⟩) ?_)
  refine for_evt' 0 (offs a b : Int) (fun off (_ : Unit) => (a, b, tb b.length (fun j => allTo (fun o => !cov a b j o) off.toNat == false), off, ())) (fun _ _ => True) (b0 := ()) (by rw [Int.toNat_natCast, tb_rep]; rfl) (by omega) trivial ?_ ?_
  · intro o' _ h2 h3 _
    obtain ⟨off, rfl⟩ : ∃ i : Nat, o' = i := ⟨o'.toNat, by omega⟩
    have ho : off + a.length ≤ b.length := by unfold offs at h3; omega
    have hst0 := stTo_nn a b off a.length
    have hst1 : st a b off ≤ 10000 := stTo_le off (fun i hi => (A.el i hi).1) (by omega) a.length (Nat.le_refl _) fun i hi => (B.el (off + i) (by omega)).2
    have hst0 : 0 ≤ st a b off := hst0
    refine Round.yes (decide_eq_true (show wr .i64 ((off : Int) + (a.length : Int)) ≤ (b.length : Int) by rw [wrap_id (by omega) (by omega)]; omega)) (Round.bind (e94 A B ho) ?_)
    simp only [Int.toNat_natCast]
    refine for_round' 0 (a.length : Int) (fun i (_ : Unit) => (a, b, tb b.length (fun j => (allTo (fun o => !cov a b j o) off == false) || (decide (off ≤ j ∧ j < off + i.toNat) && (st a b off + g a (j - off) == g b j))), (off : Int), st a b off, a, (a.length : Int), i, ())) (fun _ _ => True) (b0 := ()) ?_ (by omega) trivial ?_ ?_
    · have : tb b.length (fun j => allTo (fun o => !cov a b j o) off == false) = tb b.length (fun j => (allTo (fun o => !cov a b j o) off == false) || (decide (off ≤ j ∧ j < off + (0 : Int).toNat) && (st a b off + g a (j - off) == g b j))) := tb_ext fun j _ => by
        rw [show decide (off ≤ j ∧ j < off + (0 : Int).toNat) = false from decide_eq_false (by omega)]
        simp
      rw [this]
    · intro i' _ h4 h5 _
      obtain ⟨i, rfl⟩ : ∃ i : Nat, i' = i := ⟨i'.toNat, by omega⟩
      have g1 := g_idx (l := a) (i := (i : Int)) (by omega) (by omega)
      have g2 := g_idx (l := b) (i := ((off + i : Nat) : Int)) (by omega) (by omega)
      rw [Int.toNat_natCast] at g1 g2
      have e1 := A.el i (by omega)
      have hw : wr .i64 ((off : Int) + (i : Int)) = ((off + i : Nat) : Int) := by rw [wrap_id (by omega) (by omega)]; omega
      have eS : ((i : Int) + 1).toNat = i + 1 := by omega
      refine Round.yes (decide_eq_true h5) (Round.at g1.idx ?_)
      simp only [hw, Int.toNat_natCast]
      refine Round.at g2.idx ?_
      rw [wrap16 (x := st a b off + g a i) (by omega) (by omega)]
      by_cases hq : st a b off + g a i = g b (off + i)
      · refine Round.yes (by simp [hq]) (Round.chk (decide_eq_true ⟨by omega, by rw [tb_len]; omega⟩) (Round.at (tb_get (by omega)) (Round.inr _ ⟨(), ?_, trivial⟩)))
        rw [tb_set, wr_succ h4 h5 (by omega), eS]
        have : tb b.length (fun j => if j = off + i then true else (allTo (fun o => !cov a b j o) off == false) || (decide (off ≤ j ∧ j < off + i) && (st a b off + g a (j - off) == g b j))) = tb b.length (fun j => (allTo (fun o => !cov a b j o) off == false) || (decide (off ≤ j ∧ j < off + (i + 1)) && (st a b off + g a (j - off) == g b j))) := tb_ext fun j _ => by
          by_cases hj : j = off + i
          · rw [if_pos hj, hj, show decide (off ≤ off + i ∧ off + i < off + (i + 1)) = true from decide_eq_true (by omega), show off + i - off = i by omega, hq]
            simp
          · rw [if_neg hj]
            congr 2
            rw [decide_eq_decide]; omega
        rw [this]
      · refine Round.no (by simp [hq]) (Round.inr _ ⟨(), ?_, trivial⟩)
        rw [wr_succ h4 h5 (by omega), eS]
        have : tb b.length (fun j => (allTo (fun o => !cov a b j o) off == false) || (decide (off ≤ j ∧ j < off + i) && (st a b off + g a (j - off) == g b j))) = tb b.length (fun j => (allTo (fun o => !cov a b j o) off == false) || (decide (off ≤ j ∧ j < off + (i + 1)) && (st a b off + g a (j - off) == g b j))) := tb_ext fun j _ => by
          by_cases hj : j = off + i
          · rw [hj, show decide (off ≤ off + i ∧ off + i < off + i) = false from decide_eq_false (by omega), show off + i - off = i by omega, show (st a b off + g a i == g b (off + i)) = false from beq_eq_false_iff_ne.2 hq]
            simp
          · congr 2
            rw [decide_eq_decide]; omega
        rw [this]
    · intro _ _
      refine Round.no (by simp) (Round.inl _ ⟨(), ?_, trivial⟩)
      have eS : ((off : Int) + 1).toNat = off + 1 := by omega
      rw [wrap_id (x := (off : Int) + 1) (by omega) (by omega), eS, Int.toNat_natCast]
      have : tb b.length (fun j => (allTo (fun o => !cov a b j o) off == false) || (decide (off ≤ j ∧ j < off + a.length) && (st a b off + g a (j - off) == g b j))) = tb b.length (fun j => allTo (fun o => !cov a b j o) (off + 1) == false) := tb_ext fun j _ => by
        rw [allTo_succ]
        show (_ || cov a b j off) = _
        cases allTo (fun o => !cov a b j o) off <;> cases cov a b j off <;> rfl
      rw [this]
  · intro _ _
    have hl : (tb b.length (fun j => allTo (fun o => !cov a b j o) (offs a b) == false)).length = b.length := tb_len _ _
    refine Round.no (by simp only [decide_eq_true_eq]; rw [wrap_id (by unfold offs; omega) (by unfold offs; omega)]; unfold offs; omega) (Round.done ?_)
    simp only [Int.toNat_natCast]
    refine Evt.bind (e95 _ false (by omega)) ((Evt.some _).of_eq fun n => ?_)
    have : (!(tb b.length (fun j => allTo (fun o => !cov a b j o) (offs a b) == false)).any (fun v => false == v)) = crB a b := by
      unfold crB allTo tb tch
      rw [List.any_map, List.any_eq_not_all_not, Bool.not_not]
      congr 1
      funext j
      simp [Function.comp]
      rfl
    rw [this]
    rfl
/- spec.l06Stand -/
theorem e97 {a b : List Int} (A : GoodK a) (B : GoodK b) {off : Nat} (ho : off + a.length ≤ b.length) : Evt (fun n => call T C n 97 (a, b, (off : Int), ())) ((st a b off, ()), ()) := by
  have hah := A.hi
  have hbh := B.hi
  refine Evt.next ?_ (fun n => r97 n a b off)
  refine for_evt' 0 (a.length : Int) (fun i (_ : Unit) => (a, b, (off : Int), stTo a b off i.toNat, i, ())) (fun _ _ => True) (b0 := ()) rfl (by omega) trivial ?_ ?_
  · intro i' _ h2 h3 _
    obtain ⟨i, rfl⟩ : ∃ i : Nat, i' = i := ⟨i'.toNat, by omega⟩
    have g1 := g_idx (l := a) (i := (i : Int)) (by omega) (by omega)
    have g2 := g_idx (l := b) (i := ((off + i : Nat) : Int)) (by omega) (by omega)
    rw [Int.toNat_natCast] at g1 g2
    have e1 := A.el i (by omega)
    have e2 := B.el (off + i) (by omega)
    have hw : wr .i64 ((off : Int) + (i : Int)) = ((off + i : Nat) : Int) := by rw [wrap_id (by omega) (by omega)]; omega
    refine Round.yes (decide_eq_true h3) ?_
    simp only [hw]
    refine Round.at g2.idx (Round.at g1.idx ?_)
    rw [wrap_id (x := g b (off + i)) (by omega) (by omega), wrap_id (x := g a i) (by omega) (by omega), wrap_id (x := g b (off + i) - g a i) (by omega) (by omega)]
    refine Round.bind (e117 _ _) (Round.again _ ⟨(), ?_, trivial⟩)
    rw [wr_succ h2 h3 (by omega), show ((i : Int) + 1).toNat = i + 1 by omega, Int.toNat_natCast]
    rfl
  · intro _ _
    rw [Int.toNat_natCast]
    exact Round.no (by simp) (Round.done (Evt.some _))
/- spec.CanReplace -/
theorem e38 {a b : List Int} (hra : Rng a) (hrb : Rng b) (oa : okK a = true) (ob : okK b = true) : Evt (fun n => call T C n 38 (a, b, ())) ((crB a b, 0, ()), ()) := by
  have A := goodK hra oa
  have B := goodK hrb ob
  have hal := A.lo
  have hah := A.hi
  have hbh := B.hi
  have v1 := e96 a hra
  have v2 := e96 b hrb
  rw [oa] at v1
  rw [ob] at v2
  refine Evt.next (Evt.bind v1 ?_) (fun n => r38 n a b)
  refine Evt.no (by decide) (Evt.bind v2 ?_)
  refine Evt.no (by decide) ?_
  refine for_evt' 0 (b.length : Int) (fun j (_ : Unit) => (a, b, j, ())) (fun j _ => allTo (tch a b) j.toNat = true) (b0 := ()) rfl (by omega) (by simp [allTo]) ?_ ?_
  · intro j' _ h2 h3 hp
    obtain ⟨j, rfl⟩ : ∃ i : Nat, j' = i := ⟨j'.toNat, by omega⟩
    rw [Int.toNat_natCast] at hp
    refine Round.yes (decide_eq_true h3) ?_
    refine for_round' 0 (offs a b : Int) (fun off (_ : Unit) => (a, b, (j : Int), (allTo (fun o => !cov a b j o) off.toNat == false), off, ())) (fun _ _ => True) (b0 := ()) (by simp [allTo]) (by omega) trivial ?_ ?_
    · intro o' _ h4 h5 _
      obtain ⟨off, rfl⟩ : ∃ i : Nat, o' = i := ⟨o'.toNat, by omega⟩
      have ho : off + a.length ≤ b.length := by unfold offs at h5; omega
      have hw : wr .i64 ((off : Int) + (a.length : Int)) = (off : Int) + (a.length : Int) := wrap_id (by omega) (by omega)
      have hw2 : wr .i64 ((j : Int) - (off : Int)) = (j : Int) - (off : Int) := wrap_id (by omega) (by omega)
      have eS : ((off : Int) + 1).toNat = off + 1 := by omega
      have hst0 := stTo_nn a b off a.length
      have hst1 : st a b off ≤ 10000 := stTo_le off (fun i hi => (A.el i hi).1) (by omega) a.length (Nat.le_refl _) fun i hi => (B.el (off + i) (by omega)).2
      have hst0 : 0 ≤ st a b off := hst0
      have wS : wr .i64 ((off : Int) + 1) = (off : Int) + 1 := wrap_id (by omega) (by omega)
      refine Round.yes (decide_eq_true (show wr .i64 ((off : Int) + (a.length : Int)) ≤ (b.length : Int) by rw [hw]; omega)) ?_
      simp only [Int.toNat_natCast, hw2, wS]
      have fin : ∀ z : Bool, z = ((allTo (fun o => !cov a b j o) off == false) || cov a b j off) → ∃ b' : Unit, ((a, b, (j : Int), z, (off : Int) + 1, ()) : List Int × List Int × Int × Bool × Int × Unit) = (a, b, (j : Int), (allTo (fun o => !cov a b j o) ((off : Int) + 1).toNat == false), (off : Int) + 1, ()) ∧ True := fun z hz => by
        refine ⟨(), ?_, trivial⟩
        rw [hz, eS, allTo_succ]
        cases allTo (fun o => !cov a b j o) off <;> cases cov a b j off <;> rfl
      refine Round.ite (fun hq => ?_) (fun hq => ?_)
      · refine Round.inr _ (fin _ ?_)
        rw [hq]; rfl
      · have hq : (allTo (fun o => !cov a b j o) off == false) = false := by simpa using hq
        rw [hq, Bool.false_or] at fin
        by_cases c1 : off ≤ j
        · refine Round.yes (decide_eq_true (by omega)) ?_
          by_cases c2 : j < off + a.length
          · have g1 := g_idx (l := a) (i := ((j - off : Nat) : Int)) (by omega) (by omega)
            have g2 := g_idx (l := b) (i := (j : Int)) (by omega) (by omega)
            rw [Int.toNat_natCast] at g1 g2
            have e1 := A.el (j - off) (by omega)
            have e2 := B.el j (by omega)
            have hj : (j : Int) - (off : Int) = ((j - off : Nat) : Int) := by omega
            refine Round.yes (by simp; omega) (Round.bind (e97 A B ho) ?_)
            rw [hj]
            refine Round.at g1.idx (Round.at g2.idx (Round.inr _ (fin _ ?_)))
            rw [wrap_id (x := g a (j - off)) (by omega) (by omega), wrap_id (x := g b j) (by omega) (by omega), wrap_id (x := st a b off + g a (j - off)) (by omega) (by omega)]
            unfold cov
            rw [show decide (off ≤ j ∧ j < off + a.length) = true from decide_eq_true ⟨c1, c2⟩]
            rfl
          · refine Round.no (by simp; omega) (Round.inr _ (fin _ ?_))
            unfold cov
            rw [show decide (off ≤ j ∧ j < off + a.length) = false from decide_eq_false (by omega)]
            rfl
        · refine Round.no (by simp; omega) (Round.inr _ (fin _ ?_))
          unfold cov
          rw [show decide (off ≤ j ∧ j < off + a.length) = false from decide_eq_false (by omega)]
          rfl
    · intro _ _
      refine Round.no (by simp only [decide_eq_true_eq]; rw [wrap_id (by unfold offs; omega) (by unfold offs; omega)]; unfold offs; omega) ?_
      simp only [Int.toNat_natCast]
      show Round (fun n ag => if (!tch a b j) = true then _ else _) _ _
      cases ht : tch a b j with
      | false =>
        have : crB a b = false := allTo_false (i := j) (by omega) ht
        rw [this]
        exact Round.yes rfl (Round.done (Evt.some _))
      | true =>
        refine Round.no (by simp) (Round.inl _ ⟨(), by rw [wr_succ h2 h3 (by omega)], ?_⟩)
        rw [show ((j : Int) + 1).toNat = j + 1 by omega, allTo_succ, hp, ht]
        rfl
  · intro _ hp
    have : crB a b = true := by rw [Int.toNat_natCast] at hp; exact hp
    rw [this]
    exact Round.no (by simp) (Round.done (Evt.some _))
/- impl.areCutters$1 -/
theorem e151 (k : List Int) (hr : Rng k) : Evt (fun n => call T C n 151 (k, ())) ((!okK k, ()), ()) := Evt.next (Evt.bind (e34 k hr) (Evt.some _)) (fun n => r151 n k)
/- slices.IndexFunc[[]impl.Cutter,impl.Cutter]{impl.areCutters$1} -/
theorem e176 (K : List (List Int)) (hr : RngS K) : Evt (fun n => call T C n 176 (K, ((), ()), ())) ((fi (fun v => !okK v) K 0, ()), ()) := by
  have hl := hr.len'
  refine Evt.next ?_ (fun n => r176 n K ((), ()))
  refine for_evt' 0 (K.length : Int) (fun i (_ : Unit) => (K, ((), ()), (K.length : Int), i, ())) (fun i _ => fi (fun v => !okK v) K 0 = fi (fun v => !okK v) (K.drop i.toNat) i) (b0 := ()) rfl (by omega) (by simp) ?_ ?_
  · intro i _ h2 h3 hp
    obtain ⟨v, hv⟩ := at_of h2 h3
    rw [hv.drop] at hp
    simp only [fi] at hp
    refine Round.yes (decide_eq_true h3) (Round.at hv.idx (Round.bind (e151 v (hr.el v hv.mem)) ?_))
    cases hb : okK v with
    | false =>
      simp only [hb, Bool.not_false, if_true] at hp
      rw [hp]
      exact Round.yes rfl (Round.done (Evt.some _))
    | true =>
      simp only [hb, Bool.not_true, Bool.false_eq_true, if_false] at hp
      exact Round.no (by simp) (Round.again _ ⟨(), by rw [wr_succ h2 h3 (by omega)], hp⟩)
  · intro _ hp
    rw [drop_all] at hp
    rw [hp]
    exact Round.no (by simp) (Round.done (Evt.some _))
/- slices.ContainsFunc[[]impl.Cutter,impl.Cutter]{impl.areCutters$1} -/
theorem e150 (K : List (List Int)) (hr : RngS K) : Evt (fun n => call T C n 150 (K, ((), ()), ())) ((K.any (fun v => !okK v), ()), ()) := by
  refine Evt.next (Evt.bind (e176 K hr) ((Evt.some _).of_eq fun n => ?_)) (fun n => r150 n K ((), ()))
  simp only [fi_any _ K 0 (Int.le_refl _)]
  rfl
/- impl.areCutters -/
theorem e98 (K : List (List Int)) (hr : RngS K) : Evt (fun n => call T C n 98 (K, ())) ((okKs K, ()), ()) := by
  refine Evt.next (Evt.bind (e150 K hr) ((Evt.some _).of_eq fun n => ?_)) (fun n => r98 n K)
  have : okKs K = !K.any (fun v => !okK v) := by simp [okKs, List.any_eq_not_all_not]
  rw [this]
  rfl
/- impl.isCount -/
theorem e99 (K : List (List Int)) : Evt (fun n => call T C n 99 (K, ())) ((inR (K.length : Int) 1 8, ()), ()) := Evt.next (Evt.bind (e133 _ _ _) (Evt.some _)) (fun n => r99 n K)
/- impl.firstCode -/
theorem e71 (l : List Int) (hl : (l.length : Int) ≤ 140737488351232) : Evt (fun n => call T C n 71 (l, ())) ((fst0 l, ()), ()) := by
  refine Evt.next ?_ (fun n => r71 n l)
  refine loop_evt (fun (x : List Int × Int × Int × Unit) => x.1 = l ∧ x.2.1 = (l.length : Int) ∧ 0 ≤ x.2.2.1 ∧ x.2.2.1 ≤ (l.length : Int) ∧ fst0 l = fst0 (l.drop x.2.2.1.toNat)) (fun (x : List Int × Int × Int × Unit) => ((l.length : Int) - x.2.2.1).toNat) (x := (l, (l.length : Int), 0, ())) ⟨rfl, rfl, Int.le_refl _, by simp, by simp⟩ ?_
  rintro ⟨x1, m, i, _⟩ ⟨h', hm, h0, h1, h2⟩
  simp only at h' hm h0 h1 h2
  subst h'; subst hm
  refine Round.ite (fun hlt => ?_) (fun hge => ?_)
  · have hlt : i < (x1.length : Int) := of_decide_eq_true hlt
    obtain ⟨v, hv, hv'⟩ := idx_at h0 hlt
    have hd := drop_cons hv'
    refine Round.at hv (Round.ite (fun hb => ?_) (fun hb => ?_))
    · have hb : v ≠ 0 := by simpa using hb
      have h3 : fst0 x1 = v := by rw [h2, hd]; simp [fst0, hb]
      rw [h3]
      exact Round.done (Evt.some _)
    · have hb : v = 0 := by simpa using hb
      have hw : wr .i64 (i + 1) = i + 1 := wrap_id (by omega) (by omega)
      refine Round.again _ ⟨⟨rfl, rfl, ?_, ?_, ?_⟩, ?_⟩ <;> simp only [hw]
      · omega
      · omega
      · rw [h2, hd, show (i + 1).toNat = i.toNat + 1 by omega]
        simp [fst0, hb]
      · omega
  · have hge : ¬ i < (x1.length : Int) := by simpa using hge
    have : x1.drop i.toNat = [] := List.drop_of_length_le (by omega)
    rw [h2, this]
    exact Round.done (Evt.some _)
/- (impl.Cam).best -/
theorem e78 {c : List Int} {K : List (List Int)} (hc : Rng c) (hr : RngS K) (hl0 : 0 < c.length) (hl1 : c.length ≤ 1000) (hC : ∀ v ∈ c, 0 ≤ v ∧ v ≤ 10000) (G : GoodKs K) (hk1 : K.length ≤ 1000) : Evt (fun n => call T C n 78 (c, K, ())) (((bkTo c K K.length).1, (bkTo c K K.length).2, ()), ()) := by
  refine Evt.next ?_ (fun n => r78 n c K)
  refine for_evt' 0 (K.length : Int) (fun i (_ : Unit) => (c, (bkTo c K i.toNat).1, (bkTo c K i.toNat).2, K, (K.length : Int), i, ())) (fun _ _ => True) (b0 := ()) rfl (by omega) trivial ?_ ?_
  · intro i _ h2 h3 _
    obtain ⟨a, rfl⟩ : ∃ a : Nat, i = a := ⟨i.toNat, by omega⟩
    obtain ⟨v, hv⟩ := at_of (l := K) (i := (a : Int)) (by omega) h3
    have e : K.getD a [] = v := by have := getD_at (d := []) hv; rwa [Int.toNat_natCast] at this
    simp only [Int.toNat_natCast, wrap_id (x := (a : Int) + 1) (by omega) (by omega)]
    refine Round.yes (decide_eq_true h3) (Round.at hv.idx (Round.bind (e88 hc (hr.el _ hv.mem) hl0 hl1 hC (G.el _ hv.mem)) (Round.ite (fun hb => ?_) (fun hb => ?_))))
    · have hb : (bkTo c K a).2 < 0 := of_decide_eq_true hb
      refine Round.again _ ⟨(), ?_, trivial⟩
      rw [show ((a : Int) + 1).toNat = a + 1 by omega, bkTo_succ, e, if_pos (.inl hb)]
    · have hb : ¬ (bkTo c K a).2 < 0 := by simpa using hb
      refine Round.ite (fun hx => ?_) (fun hx => ?_)
      · have hx : waste c v < (bkTo c K a).2 := by simpa using hx
        refine Round.again _ ⟨(), ?_, trivial⟩
        rw [show ((a : Int) + 1).toNat = a + 1 by omega, bkTo_succ, e, if_pos (.inr hx)]
      · have hx : ¬ waste c v < (bkTo c K a).2 := by simpa using hx
        refine Round.again _ ⟨(), ?_, trivial⟩
        rw [show ((a : Int) + 1).toNat = a + 1 by omega, bkTo_succ, e, if_neg (by omega)]
  · intro _ _
    simp only [Int.toNat_natCast]
    exact Round.no (by simp) (Round.done (Evt.some _))
/- impl.BestCutter -/
theorem e39 (c : List Int) (K : List (List Int)) (hc : Rng c) (hr : RngS K) : Evt (fun n => call T C n 39 (c, K, ())) (bcR c K, ()) := by
  have hcl := hc.len'
  refine Evt.next (Evt.bind (e35 c (by omega)) ?_) (fun n => r39 n c K)
  unfold bcR
  cases h1 : okC c with
  | false =>
    refine Evt.yes rfl (Evt.bind (e72 _ _) (Evt.bind (e99 K) (Evt.bind (e72 _ _) (Evt.bind (e71 _ (by simp)) (Evt.yes (by simp [fst0]) ((Evt.some _).of_eq fun n => ?_))))))
    simp [fst0]
    rfl
  | true =>
    refine Evt.no (by simp) (Evt.bind (e98 K hr) (Evt.bind (e72 _ _) (Evt.bind (e99 K) (Evt.bind (e72 _ _) (Evt.bind (e71 _ (by simp)) ?_)))))
    cases h2 : okKs K with
    | false =>
      refine Evt.yes (by simp [fst0]) ((Evt.some _).of_eq fun n => ?_)
      simp [fst0]
      rfl
    | true =>
      cases h3 : inR (K.length : Int) 1 8 with
      | false =>
        refine Evt.yes (by simp [fst0]) ((Evt.some _).of_eq fun n => ?_)
        simp [fst0]
        rfl
      | true =>
        have hl := okC_len h1
        have hb := inR_iff.1 h3
        exact Evt.no (by simp [fst0]) (Evt.bind (e78 hc hr (by omega) (by omega) (okC_el h1 hc) (goodKs hr h2) (by omega)) (Evt.some _))
/- laws.FnCutters -/
theorem e5 (x y : List Int) (hd : DomA (C 5).params (x, y, ())) : Evt (fun n => call T C n 5 (x, y, ())) ((true, ()), ()) := by
  have hx : ∀ v ∈ x, 0 ≤ v ∧ v ≤ 255 := byte_of hd.1
  have hy : ∀ v ∈ y, 0 ≤ v ∧ v ≤ 255 := byte_of hd.2.1
  refine Evt.next (Evt.bind (e23 x y) ?_) (fun n => r5 n x y)
  cases hlong : (decide ((x.length : Int) > 3000) || decide ((y.length : Int) > 3000)) with
  | true => exact Evt.yes rfl (Evt.some _)
  | false =>
    simp only [Bool.or_eq_false_iff, decide_eq_false_iff_not] at hlong
    obtain ⟨c, hC, S⟩ := e24 hx (show (x.length : Int) ≤ 3000 by omega)
    obtain ⟨k, hK, Sk⟩ := e25 hy (show (y.length : Int) ≤ 4000 by omega)
    obtain ⟨o, hO, So⟩ := e25 (b := [3] ++ x) (fun v hv => by
      rcases List.mem_append.1 hv with hv | hv
      · simp at hv; omega
      · exact hx v hv) (by simp; omega)
    have hl := S.len
    have hrc := S.rng
    have hoc := S.ok
    have hCel := okC_el hoc hrc
    have hc0 : 0 < c.length := by omega
    have GK := goodK Sk.rng Sk.ok
    have GO := goodK So.rng So.ok
    have hnr := e31 c k hrc Sk.rng
    have enr : nrR c k = (nrTo c (leftL c k) c.length, 0, ()) := by unfold nrR cutCode; rw [hoc, Sk.ok]; rfl
    rw [enr] at hnr
    have hL0 := e26 c [0] hrc ⟨by decide, by decide⟩ hoc ok_zero
    rw [left_flat hc0 hCel] at hL0
    obtain ⟨okD, rngD⟩ := left_ok hoc hrc GK
    have hvk := e34 k Sk.rng
    rw [Sk.ok] at hvk
    have hvc := e35 (leftL c k) (by have := rngD.len'; omega)
    rw [okD] at hvc
    have hdl := leftL_len c k
    have htl := tipsL_len c k c.length
    have hnl := nrTo_len c (leftL c k) c.length
    refine Evt.no (by simp) (Evt.bind hC (Evt.bind hK (Evt.bind (e26 c k hrc Sk.rng hoc Sk.ok) (Evt.bind (e27 c k hrc Sk.rng hoc Sk.ok) (Evt.bind (e28 c k hrc Sk.rng hoc Sk.ok) (Evt.bind (e29 c k hrc Sk.rng hoc Sk.ok) (Evt.bind (e30 c k hrc Sk.rng hoc Sk.ok) (Evt.bind hnr (Evt.bind hL0 ?_)))))))))
    refine Evt.no (by simp) (Evt.no (by simp) (Evt.bind (e32 (leftL c k) (by omega)) (Evt.no (by simp) (Evt.no (by simp) (Evt.no (by simp) (Evt.bind (e33 (tipsL c k c.length) (by omega)) (Evt.no (by simp) (Evt.no (by simp) (Evt.no (by simp) (Evt.no (by simp) (Evt.bind (e32 c (by omega)) (Evt.no (by simp) (Evt.bind hvk (Evt.no (by simp) (Evt.bind hvc (Evt.no (by simp) ?_))))))))))))))))
    have wb : ∀ i, i ≤ c.length → 0 ≤ wsTo c (leftL c k) i ∧ wsTo c (leftL c k) i ≤ 10000 * i := wsTo_bd hc0 hCel GK
    have wk := wb c.length (Nat.le_refl _)
    refine for_evt' 0 (c.length : Int) (fun i (_ : Unit) => (x, c, k, leftL c k, tipsL c k c.length, waste c k, nrTo c (leftL c k) c.length, wsTo c (leftL c k) i.toNat, i, ())) (fun _ _ => True) (b0 := ()) rfl (by omega) trivial ?_ ?_
    · intro s' _ h2 h3 _
      obtain ⟨s, rfl⟩ : ∃ i : Nat, s' = i := ⟨s'.toNat, by omega⟩
      have hs : s < c.length := by omega
      have a1 := (g_idx (l := leftL c k) (i := (s : Int)) (by omega) (by omega)).idx
      have a2 := (g_idx (l := c) (i := (s : Int)) (by omega) (by omega)).idx
      have a3 := (g_idx (l := tipsL c k c.length) (i := (s : Int)) (by omega) (by omega)).idx
      have m2 := hCel _ (g_mem (l := c) (i := s) hs)
      rw [Int.toNat_natCast] at a1 a2 a3
      rw [g_tips c k hs] at a3
      rw [leftL_g hc0 hCel GK hs] at a1
      have b1 := lf_ge hc0 GK hs
      have b2 := (lfTo_el c k (s : Nat) k.length).1
      have b2 : lf c k s ≤ tip c k s := b2
      have b3 := lf_bd hc0 hCel GK hs
      have wl : wr .i64 (lf c k s) = lf c k s := wrap_id (by omega) (by omega)
      have wc : wr .i64 (g c s) = g c s := wrap_id (by omega) (by omega)
      have hhas := nrTo_has c (leftL c k) s c.length hs
      rw [leftL_g hc0 hCel GK hs] at hhas
      have hws := wb s (by omega)
      have hA := e36 (nrTo c (leftL c k) c.length) (s : Int) (by omega)
      rw [hhas] at hA
      refine Round.yes (decide_eq_true h3) (Round.at a1 (Round.at a2 (Round.no (by simp; omega) (Round.at a1 (Round.at a3 (Round.no (by rw [wl]; simp; omega) (Round.bind hA (Round.at a1 (Round.at a2 (Round.no (by simp) (Round.at a1 (Round.at a2 (Round.again _ ⟨(), ?_, trivial⟩)))))))))))))
      rw [wl, wc, wrap_id (x := lf c k s - g c s) (by omega) (by omega), Int.toNat_natCast, wrap_id (x := wsTo c (leftL c k) s + (lf c k s - g c s)) (by omega) (by omega), wr_succ h2 h3 (by omega), show ((s : Int) + 1).toNat = s + 1 by omega, wsTo_succ, leftL_g hc0 hCel GK hs]
    · intro _ _
      rw [Int.toNat_natCast]
      have hcr1 := e37 So.rng Sk.rng So.ok Sk.ok
      have hcr2 := e38 So.rng Sk.rng So.ok Sk.ok
      have hLo := e26 c o hrc So.rng hoc So.ok
      have hW2 := e30 c o hrc So.rng hoc So.ok
      have hRS : RngS [k, o] := ⟨by simp, fun v hv => by
        rcases List.mem_cons.1 hv with hv | hv
        · rw [hv]; exact Sk.rng
        · simp at hv; rw [hv]; exact So.rng⟩
      have hBest := e39 c [k, o] hrc hRS
      have ebc : bcR c [k, o] = ((bkTo c [k, o] 2).1, (bkTo c [k, o] 2).2, 0, ()) := by
        have h1 : okKs [k, o] = true := by unfold okKs; simp [Sk.ok, So.ok]
        unfold bcR
        rw [hoc, h1]
        rfl
      rw [ebc, bk_two wk.1] at hBest
      have hll := leftL_len c o
      refine Round.no (by simp) (Round.done (Evt.no (by simp [waste]) (Evt.chk (by simp; omega) (Evt.bind hO (Evt.bind hcr1 (Evt.bind hcr2 (Evt.bind hLo ?_)))))))
      refine Evt.no (by simp) (Evt.no (by simp) (Evt.no (by simp) (Evt.no (by simp [hll]) ?_)))
      cases hs : crB o k with
      | false =>
        refine for_evt' 0 (c.length : Int) (fun i (_ : Unit) => (c, k, leftL c k, waste c k, o, false, leftL c o, i, ())) (fun _ _ => True) (b0 := ()) rfl (by omega) trivial ?_ ?_
        · intro s' _ h2 h3 _
          refine Round.yes (decide_eq_true h3) (Round.no (by simp) ?_)
          refine Round.bind hBest (Round.bind hW2 (Round.yes rfl (Round.yes rfl (Round.yes ?_ (Round.done ((Evt.some _).of_eq fun n => ?_))))))
          · simp only [cond_true, beq_iff_eq]
            by_cases hlt : waste c o < waste c k
            · rw [if_pos hlt, if_pos hlt]
            · rw [if_neg hlt, if_neg hlt]
          · have hq : (((if waste c o < waste c k then ((1 : Int), waste c o) else (0, waste c k)).1 == 0) == decide (waste c k ≤ waste c o)) = true := by
              by_cases hlt : waste c o < waste c k
              · rw [if_pos hlt, decide_eq_false (by omega)]; rfl
              · rw [if_neg hlt, decide_eq_true (by omega)]; rfl
            show some ((_, ()), ()) = some ((true, ()), ())
            simp only [cond_true]
            rw [hq]
        · intro _ _
          refine Round.no (by simp) ?_
          refine Round.bind hBest (Round.bind hW2 (Round.yes rfl (Round.yes rfl (Round.yes ?_ (Round.done ((Evt.some _).of_eq fun n => ?_))))))
          · simp only [cond_true, beq_iff_eq]
            by_cases hlt : waste c o < waste c k
            · rw [if_pos hlt, if_pos hlt]
            · rw [if_neg hlt, if_neg hlt]
          · have hq : (((if waste c o < waste c k then ((1 : Int), waste c o) else (0, waste c k)).1 == 0) == decide (waste c k ≤ waste c o)) = true := by
              by_cases hlt : waste c o < waste c k
              · rw [if_pos hlt, decide_eq_false (by omega)]; rfl
              · rw [if_neg hlt, decide_eq_true (by omega)]; rfl
            show some ((_, ()), ()) = some ((true, ()), ())
            simp only [cond_true]
            rw [hq]
      | true =>
        refine for_evt' 0 (c.length : Int) (fun i (_ : Unit) => (c, k, leftL c k, waste c k, o, true, leftL c o, i, ())) (fun _ _ => True) (b0 := ()) rfl (by omega) trivial ?_ ?_
        · intro s' _ h2 h3 _
          obtain ⟨s, rfl⟩ : ∃ i : Nat, s' = i := ⟨s'.toNat, by omega⟩
          have hs2 : s < c.length := by omega
          have a1 := (g_idx (l := leftL c k) (i := (s : Int)) (by omega) (by omega)).idx
          have a2 := (g_idx (l := leftL c o) (i := (s : Int)) (by omega) (by omega)).idx
          rw [Int.toNat_natCast, leftL_g hc0 hCel GK hs2] at a1
          rw [Int.toNat_natCast, leftL_g hc0 hCel GO hs2] at a2
          have hle := lf_rep (c := c) GO GK hs s hs2
          exact Round.yes (decide_eq_true h3) (Round.yes rfl (Round.at a2 (Round.at a1 (Round.no (by simp; omega) (Round.again _ ⟨(), by rw [wr_succ h2 h3 (by omega)], trivial⟩)))))
        · intro _ _
          refine Round.no (by simp) ?_
          refine Round.bind hBest (Round.bind hW2 (Round.yes rfl (Round.yes rfl (Round.yes ?_ (Round.done ((Evt.some _).of_eq fun n => ?_))))))
          · simp only [cond_true, beq_iff_eq]
            by_cases hlt : waste c o < waste c k
            · rw [if_pos hlt, if_pos hlt]
            · rw [if_neg hlt, if_neg hlt]
          · have hq : (((if waste c o < waste c k then ((1 : Int), waste c o) else (0, waste c k)).1 == 0) == decide (waste c k ≤ waste c o)) = true := by
              by_cases hlt : waste c o < waste c k
              · rw [if_pos hlt, decide_eq_false (by omega)]; rfl
              · rw [if_neg hlt, decide_eq_true (by omega)]; rfl
            show some ((_, ()), ()) = some ((true, ()), ())
            simp only [cond_true]
            rw [hq]

end Go.Cams.YtoafnbpahdnchaaLCutters
