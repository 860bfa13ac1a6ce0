/- What the functions that the law reaches come to. -/
import Derived.Test.YtoafnbpahdnchaaGreatRMi
import Derived.Test.YtoafnbpahdnchaaGreatPuAll
namespace Go.Cams.YtoafnbpahdnchaaGreatLMi
open Go Go.Fw Go.Proofs Go.Proofs.YtoafnbpahdnchaaGreat.LMi
/- laws.a2Long -/
theorem e4 (a b : List Int) : Evt (fun n => call T C n 4 (a, b, ())) ((decide ((a.length : Int) > 3000) || decide ((b.length : Int) > 3000), ()), ()) := by
  refine Evt.next ?_ (fun n => r4 n a b)
  cases decide ((a.length : Int) > 3000) with
  | true => exact Evt.yes rfl (Evt.some _)
  | false => exact Evt.no (by simp) (Evt.some _)
/- spec.l00From -/
theorem e24 (a : List Int) : Evt (fun n => call T C n 24 (a, ())) (((a, 0, 0, ()), ()), ()) := Evt.next (Evt.some _) (fun n => r24 n a)
/- (*spec.l00Src).next -/
theorem e99 {k : Int} {s : Src} (h : SrcAt k s) (hk : k ≤ 1000000000000) : ∃ (v : Int) (s' : Src), Evt (fun n => call T C n 99 (s, ())) ((v, ()), (s', ())) ∧ 0 ≤ v ∧ v ≤ 255 ∧ SrcAt (k + 1) s' := by
  obtain ⟨h1, h2, h3, h4⟩ := h
  have hw : wr .i64 (s.2.1 + 1) = s.2.1 + 1 := wrap_id (by omega) (by omega)
  by_cases hp : s.2.1 < (s.1.length : Int)
  · obtain ⟨v, hv⟩ := at_of h3 hp
    have hb := h1 v hv.mem
    have ev : wr .i64 v = v := wrap_id (by omega) (by omega)
    obtain ⟨z, hz⟩ : ∃ z, z = wr .u64 ((wr .u64 ((wr .u64 (s.2.2.1 * (6364136223846793005 : Int))) + (wr .u64 (wr .i64 v)))) + (1442695040888963407 : Int)) := ⟨_, rfl⟩
    refine ⟨v, (s.1, s.2.1 + 1, z, ()), Evt.next (Evt.yes (decide_eq_true hp) (Evt.at hv.idx (Evt.yes (decide_eq_true (by rw [hw]; omega)) ((Evt.some _).of_eq fun n => ?_)))) (fun n => r99 n s), hb.1, hb.2, h1, h2, by show 0 ≤ s.2.1 + 1; omega, by show s.2.1 + 1 ≤ k + 1; omega⟩
    rw [← hz, hw, ev]
    rfl
  · obtain ⟨z, hz⟩ : ∃ z, z = wr .u64 ((wr .u64 ((wr .u64 (s.2.2.1 * (6364136223846793005 : Int))) + (wr .u64 (0 : Int)))) + (1442695040888963407 : Int)) := ⟨_, rfl⟩
    have hzb : 0 ≤ z ∧ z < 18446744073709551616 := by rw [hz]; exact wrap_u64 _
    obtain ⟨y, rfl⟩ : ∃ y : Nat, z = y := ⟨z.toNat, by omega⟩
    have hval : wr .i64 (bitsI .and .u64 (shr_ .u64 (y : Int) (40 : Int)) (255 : Int)) = ((y / 2 ^ 40 % 256 : Nat) : Int) := by
      rw [show (40 : Int) = ((40 : Nat) : Int) from rfl, shr_nat (by omega), and_255 (Nat.lt_of_le_of_lt (Nat.div_le_self _ _) (by omega))]
      have := Nat.mod_lt (y / 2 ^ 40) (show 0 < 256 by omega)
      exact wrap_id (by omega) (by omega)
    have hm := Nat.mod_lt (y / 2 ^ 40) (show 0 < 256 by omega)
    refine ⟨((y / 2 ^ 40 % 256 : Nat) : Int), (s.1, s.2.1 + 1, (y : Int), ()), Evt.next (Evt.no (by simpa using hp) (Evt.no (by rw [hw]; simp; omega) (Evt.chk rfl ((Evt.some _).of_eq fun n => ?_)))) (fun n => r99 n s), by omega, by omega, h1, h2, by show 0 ≤ s.2.1 + 1; omega, by show s.2.1 + 1 ≤ k + 1; omega⟩
    rw [← hz, hw, hval]
    rfl
/- (*spec.l00Src).pick -/
theorem e68 {k : Int} {s : Src} (h : SrcAt k s) (hk : k ≤ 999999999000) {m : Int} (m1 : 1 ≤ m) (m2 : m ≤ 1000000) : ∃ (v : Int) (s' : Src), Evt (fun n => call T C n 68 (s, m, ())) ((v, ()), (s', ())) ∧ 0 ≤ v ∧ v < m ∧ SrcAt (k + 2) s' := by
  by_cases hm : m ≤ 1
  · exact ⟨0, s, Evt.next (Evt.yes (decide_eq_true hm) (Evt.some _)) (fun n => r68 n s m), by omega, by omega, h.mono (by omega)⟩
  · obtain ⟨v, s1, hE, v0, v1, hs1⟩ := e99 h (by omega)
    by_cases hb : m > 200
    · obtain ⟨u, s2, hE2, u0, u1, hs2⟩ := e99 hs1 (by omega)
      have hx : wr .i64 (wr .i64 (v * 256) + u) = v * 256 + u := by rw [wrap_id (x := v * 256) (by omega) (by omega), wrap_id (by omega) (by omega)]
      have ht0 := Int.tmod_nonneg m (show 0 ≤ v * 256 + u by omega)
      have ht1 := Int.tmod_lt_of_pos (v * 256 + u) (show 0 < m by omega)
      refine ⟨Int.tmod (v * 256 + u) m, s2, Evt.next (Evt.no (by simpa using hm) (Evt.bind hE (Evt.yes (decide_eq_true hb) (Evt.bind hE2 (Evt.chk (bne_pos (by omega)) ((Evt.some _).of_eq fun n => ?_)))))) (fun n => r68 n s m), ht0, ht1, hs2.mono (by omega)⟩
      rw [hx]
      rfl
    · have ht0 := Int.tmod_nonneg m v0
      have ht1 := Int.tmod_lt_of_pos v (show 0 < m by omega)
      exact ⟨Int.tmod v m, s1, Evt.next (Evt.no (by simpa using hm) (Evt.bind hE (Evt.no (by simpa using hb) (Evt.chk (bne_pos (by omega)) (Evt.some _))))) (fun n => r68 n s m), ht0, ht1, hs1.mono (by omega)⟩
/- (*spec.l00Src).one -/
theorem e69 {k : Int} {s : Src} (h : SrcAt k s) (hk : k ≤ 999999999000) {m : Int} (m1 : 1 ≤ m) (m2 : m ≤ 1000000) : ∃ (b : Bool) (s' : Src), Evt (fun n => call T C n 69 (s, m, ())) ((b, ()), (s', ())) ∧ SrcAt (k + 2) s' := by
  obtain ⟨v, s1, hE, v0, v1, hs1⟩ := e68 h hk m1 m2
  exact ⟨v == 0, s1, Evt.next (Evt.bind hE (Evt.some _)) (fun n => r69 n s m), hs1⟩
/- spec.l02Drawn -/
theorem e23 {k : Int} {s : Src} (h : SrcAt k s) (hk : k ≤ 999999990000) : ∃ (p : Prg) (s' : Src), Evt (fun n => call T C n 23 (s, ())) ((p, ()), (s', ())) ∧ SmPg p ∧ SrcAt (k + 100) s' := by
  obtain ⟨t, s1, hE1, t0, t1, hs1⟩ := e68 h (by omega) (m := 30) (by omega) (by omega)
  obtain ⟨c, s2, hE2, c0, c1, hs2⟩ := e68 hs1 (by omega) (m := 4) (by omega) (by omega)
  have key : EvtX (fun n => call T C n 23 (s, ())) (fun y => SmPg y.1.1 ∧ SrcAt (k + 100) y.2.1) := by
    refine EvtX.next (EvtX.bind hE1 (EvtX.bind hE2 ?_)) (fun n => r23 n s)
    refine EvtX.loop (fun x => ∃ (src : Src) (L : List Ct) (m : Nat), x = (src, (0, [], ()), (t, L, ()), sumM L, (m : Int), ()) ∧ m ≤ 5 ∧ SrcAt (k + 4 + 8 * (5 - m)) src ∧ (∀ v ∈ L, MoSm v) ∧ (L.length : Int) + m ≤ 5 ∧ 2 ≤ (L.length : Int) + m) (fun x => x.2.2.2.2.1.toNat)
      ⟨s2, [], (2 + c).toNat, ?_, by omega, hs2.mono (by omega), by simp, by simp; omega, by simp; omega⟩ ?_
    · show (s2, _, (wr .i16 t, _, ()), _, wr .i64 (2 + c), ()) = _
      rw [wrap16 (x := t) (by omega) (by omega), wrap_id (x := 2 + c) (by omega) (by omega), show (((2 + c).toNat : Nat) : Int) = 2 + c by omega]
      rfl
    rintro x ⟨src, L, m, rfl, hm, hsrc, hL, hn1, hn2⟩
    have hsm := sumM_sm L hL
    by_cases h0 : 0 < m
    · right
      obtain ⟨a, a1, hA, a0, al, hs3⟩ := e68 hsrc (by omega) (m := 4) (by omega) (by omega)
      obtain ⟨b, b1, hB, b0, bl, hs4⟩ := e68 hs3 (by omega) (m := 9) (by omega) (by omega)
      obtain ⟨d, d1, hD, d0, dl, hs5⟩ := e68 hs4 (by omega) (m := 60) (by omega) (by omega)
      obtain ⟨o, o1, hO, hs6⟩ := e69 hs5 (by omega) (m := 3) (by omega) (by omega)
      have ea : wr .i8 a = a := wr_i8 (by omega) (by omega)
      have eb : wr .i16 (wr .i64 (1 + b)) = 1 + b := by rw [wrap_id (x := 1 + b) (by omega) (by omega), wrap16 (by omega) (by omega)]
      have ed : wr .i16 d = d := wrap16 (by omega) (by omega)
      have es : wr .i64 (sumM L + wr .i64 (1 + b)) = sumM L + (1 + b) := by rw [wrap_id (x := 1 + b) (by omega) (by omega), wrap_id (by omega) (by omega)]
      have em : wr .i64 ((m : Int) - 1) = ((m - 1 : Nat) : Int) := by rw [wrap_id (by omega) (by omega)]; omega
      have next : ∀ w, 0 ≤ w → w ≤ 59 → ∃ (src : Src) (L' : List Ct) (m' : Nat), ((o1, (0, [], ()), (t, L ++ [(a, 1 + b, w, ())], ()), sumM L + (1 + b), ((m - 1 : Nat) : Int), ()) : Src × Prg × Prg × Int × Int × Unit) = (src, (0, [], ()), (t, L', ()), sumM L', (m' : Int), ()) ∧ m' ≤ 5 ∧ SrcAt (k + 4 + 8 * (5 - m')) src ∧ (∀ v ∈ L', MoSm v) ∧ (L'.length : Int) + m' ≤ 5 ∧ 2 ≤ (L'.length : Int) + m' := fun w w0 w1 => by
        refine ⟨o1, L ++ [(a, 1 + b, w, ())], m - 1, by rw [sumM_snoc], by omega, hs6.mono (by omega), fun v hv => ?_, by simp; omega, by simp; omega⟩
        rcases List.mem_append.1 hv with hv | hv
        · exact hL v hv
        · simp at hv; rw [hv]; unfold MoSm; simp only; omega
      have hlen : ((L.length + 1) * 6 : Int) ≤ 140737488355328 := by omega
      by_cases ho : o = true ∧ 0 < L.length
      · obtain ⟨ho, hl⟩ := ho
        obtain ⟨M, v, rfl⟩ := last_split hl
        have hvm := hL v (by simp)
        have hi : wr .i64 (((M ++ [v]).length : Int) - 1) = (M.length : Int) := by rw [wrap_id (by omega) (by omega)]; simp
        have hg : (M ++ [v])[((M.length : Int)).toNat]? = some v := by simp
        refine ⟨(o1, (0, [], ()), (t, (M ++ [v]) ++ [(a, 1 + b, v.2.2.1, ())], ()), sumM (M ++ [v]) + (1 + b), ((m - 1 : Nat) : Int), ()), next _ hvm.2.2.1 hvm.2.2.2, ?_, fun y => ?_⟩
        · show ((m - 1 : Nat) : Int).toNat < (m : Int).toNat
          omega
        · refine Round.yes (decide_eq_true (show (m : Int) > 0 by omega)) (Round.bind hA (Round.bind hB (Round.bind hD (Round.bind hO (Round.yes ho (Round.yes (by simp) ?_))))))
          simp only [hi]
          refine Round.chk (decide_eq_true (by simp; omega)) (Round.at hg (Round.chk (decide_eq_true (by simp only [List.length_cons, List.length_nil]; omega)) (Round.again _ ?_)))
          rw [ea, eb, em, wrap_id (x := 1 + b) (by omega) (by omega), wrap_id (x := sumM (M ++ [v]) + (1 + b)) (by omega) (by omega)]
      · refine ⟨(o1, (0, [], ()), (t, L ++ [(a, 1 + b, d, ())], ()), sumM L + (1 + b), ((m - 1 : Nat) : Int), ()), next _ d0 (by omega), ?_, fun y => ?_⟩
        · show ((m - 1 : Nat) : Int).toNat < (m : Int).toNat
          omega
        · refine Round.yes (decide_eq_true (show (m : Int) > 0 by omega)) (Round.bind hA (Round.bind hB (Round.bind hD (Round.bind hO ?_))))
          have fin : ∀ {z}, z = ((o1, (0, [], ()), (t, L ++ [(a, 1 + b, d, ())], ()), sumM L + (1 + b), ((m - 1 : Nat) : Int), ()) : Src × Prg × Prg × Int × Int × Unit) → z = z := fun _ => rfl
          cases o with
          | true =>
            have hl : L.length = 0 := by
              apply Classical.byContradiction
              intro hx
              exact ho ⟨rfl, by omega⟩
            refine Round.yes rfl (Round.no (by simp [hl]) (Round.chk (decide_eq_true (by simp only [List.length_cons, List.length_nil]; omega)) (Round.again _ ?_)))
            rw [ea, eb, ed, em, wrap_id (x := 1 + b) (by omega) (by omega), wrap_id (x := sumM L + (1 + b)) (by omega) (by omega)]
          | false =>
            refine Round.no (by simp) (Round.chk (decide_eq_true (by simp only [List.length_cons, List.length_nil]; omega)) (Round.again _ ?_))
            rw [ea, eb, ed, em, wrap_id (x := 1 + b) (by omega) (by omega), wrap_id (x := sumM L + (1 + b)) (by omega) (by omega)]
    · left
      have hm0 : m = 0 := by omega
      subst hm0
      obtain ⟨M, v, rfl⟩ := last_split (L := L) (by omega)
      have hvm := hL v (by simp)
      obtain ⟨⟨v1, v2⟩, ⟨v3, v4⟩, v5, v6⟩ := hvm
      have hMs : ∀ u ∈ M, MoSm u := fun u hu => hL u (by simp [hu])
      have hsM := sumM_sm M hMs
      rw [sumM_snoc] at hsm
      have hlM : ((M ++ [v]).length : Int) = M.length + 1 := by simp
      have hi : wr .i64 (((M ++ [v]).length : Int) - 1) = (M.length : Int) := by rw [wrap_id (by omega) (by omega)]; simp
      have hg : (M ++ [v])[((M.length : Int)).toNat]? = some v := by simp
      have hset : ∀ u w : Ct, (M ++ [u]).set ((M.length : Int)).toNat w = M ++ [w] := fun u w => by simp
      have hg2 : ∀ u : Ct, (M ++ [u])[((M.length : Int)).toNat]? = some u := fun u => by simp
      by_cases h8 : sumM (M ++ [v]) < 8
      · refine ⟨(((t, M ++ [(v.1, v.2.1 + (8 - sumM (M ++ [v])), t, ())], ()), ()), (src, ())), ⟨?_, hsrc.mono (by omega)⟩, ?_⟩
        · rw [sumM_snoc] at h8 ⊢
          exact smPg t0 (by omega) hMs (by omega) v1 v2 (by omega) (by omega) (by omega) (by omega)
        · refine Round.no (by simp) ?_
          simp only [hi]
          refine Round.chk (decide_eq_true (show 0 ≤ (M.length : Int) ∧ (M.length : Int) < ((M ++ [v]).length : Int) by omega)) (Round.at hg (Round.yes (decide_eq_true h8) ?_))
          simp only [hset]
          refine Round.at (hg2 _) (Round.at (hg2 _) (Round.done ((Evt.some _).of_eq fun n => ?_)))
          rw [sumM_snoc] at h8 ⊢
          simp only [hset]
          rw [wrap_id (x := 8 - (sumM M + v.2.1)) (by omega) (by omega), wrap16 (x := 8 - (sumM M + v.2.1)) (by omega) (by omega), wrap16 (x := v.2.1 + (8 - (sumM M + v.2.1))) (by omega) (by omega)]
          rfl
      · refine ⟨(((t, M ++ [(v.1, v.2.1, t, ())], ()), ()), (src, ())), ⟨?_, hsrc.mono (by omega)⟩, ?_⟩
        · rw [sumM_snoc] at h8
          exact smPg t0 (by omega) hMs (by omega) v1 v2 (by omega) (by omega) (by omega) (by omega)
        · refine Round.no (by simp) ?_
          simp only [hi]
          refine Round.chk (decide_eq_true (show 0 ≤ (M.length : Int) ∧ (M.length : Int) < ((M ++ [v]).length : Int) by omega)) (Round.at hg (Round.no (by simpa using h8) (Round.done ((Evt.some _).of_eq fun n => ?_))))
          simp only [hset]
          rfl
  obtain ⟨⟨⟨p, _⟩, s', _⟩, ⟨h1, h2⟩, hE⟩ := key
  exact ⟨p, s', hE, h1, h2⟩
/- spec.l02Shape -/
theorem e100 {w k n : Int} (w0 : 0 ≤ w) (w1 : w ≤ 3) (k0 : 0 ≤ k) (k1 : k ≤ n) (n1 : n ≤ 360) : Evt (fun m => call T C m 100 (w, k, n, ())) ((shN w k n, shD w n, ()), ()) := by
  refine Evt.next ?_ (fun m => r100 m w k n)
  have W : ∀ x : Int, -9000000000000000000 ≤ x → x ≤ 9000000000000000000 → wr .i64 x = x := fun x a b => wrap_id (by omega) (by omega)
  have q2 := mulB (show 0 ≤ n by omega) n1 (show 0 ≤ n by omega) n1
  have q3 := mulB q2.1 q2.2 (show 0 ≤ n by omega) n1
  have q4 := mulB q3.1 q3.2 (show 0 ≤ n by omega) n1
  have q5 := mulB q4.1 q4.2 (show 0 ≤ n by omega) n1
  have kk := mulB (show 0 ≤ 2 * k by omega) (show 2 * k ≤ 720 by omega) k0 (show k ≤ 360 by omega)
  have dd := mulB (show 0 ≤ 2 * (n - k) by omega) (show 2 * (n - k) ≤ 720 by omega) (show 0 ≤ n - k by omega) (show n - k ≤ 360 by omega)
  have k3 := mulB (show 0 ≤ 3 * k by omega) (show 3 * k ≤ 1080 by omega) k0 (show k ≤ 360 by omega)
  have k3n := mulB k3.1 k3.2 (show 0 ≤ n by omega) n1
  have kkk := mulB kk.1 kk.2 k0 (show k ≤ 360 by omega)
  have c2 := mulB k0 (show k ≤ 360 by omega) k0 (show k ≤ 360 by omega)
  have c3 := mulB c2.1 c2.2 k0 (show k ≤ 360 by omega)
  have e1 := mulB (show 0 ≤ 10 * n by omega) (show 10 * n ≤ 3600 by omega) (show 0 ≤ n by omega) n1
  have e2 := mulB (show 0 ≤ 15 * k by omega) (show 15 * k ≤ 5400 by omega) (show 0 ≤ n by omega) n1
  have e3 := mulB (show 0 ≤ 6 * k by omega) (show 6 * k ≤ 2160 by omega) k0 (show k ≤ 360 by omega)
  have a1 : k * k * k * (-1944000) ≤ k * k * k * (10 * n * n - 15 * k * n + 6 * k * k) := Int.mul_le_mul_of_nonneg_left (by omega) c3.1
  have a2 : k * k * k * (10 * n * n - 15 * k * n + 6 * k * k) ≤ k * k * k * 2073600 := Int.mul_le_mul_of_nonneg_left (by omega) c3.1
  have one : Evt (fun _ => if decide (wr .i64 (2 * k) ≤ n) = true then some ((wr .i64 (wr .i64 (2 * k) * k), wr .i64 (n * n), ()), ()) else some ((wr .i64 (wr .i64 (n * n) - wr .i64 (wr .i64 (2 * wr .i64 (n - k)) * wr .i64 (n - k))), wr .i64 (n * n), ()), ())) ((shN 1 k n, shD 1 n, ()), ()) := by
    rw [W (2 * k) (by omega) (by omega), W (2 * k * k) (by omega) (by omega), W (n * n) (by omega) (by omega), W (n - k) (by omega) (by omega), W (2 * (n - k)) (by omega) (by omega), W (2 * (n - k) * (n - k)) (by omega) (by omega), W (n * n - 2 * (n - k) * (n - k)) (by omega) (by omega)]
    refine Evt.ite (fun h => ?_) (fun h => ?_)
    · have : shN 1 k n = 2 * k * k := by unfold shN; rw [if_pos rfl, if_pos (of_decide_eq_true h)]
      rw [this]; exact Evt.some _
    · have : shN 1 k n = n * n - 2 * (n - k) * (n - k) := by unfold shN; rw [if_pos rfl, if_neg (by simpa using h)]
      rw [this]; exact Evt.some _
  have two : Evt (fun _ => some ((wr .i64 (wr .i64 (wr .i64 (wr .i64 (3 * k) * k) * n) - wr .i64 (wr .i64 (wr .i64 (2 * k) * k) * k)), wr .i64 (wr .i64 (n * n) * n), ()), ())) ((shN 2 k n, shD 2 n, ()), ()) := by
    rw [W (3 * k) (by omega) (by omega), W (3 * k * k) (by omega) (by omega), W (3 * k * k * n) (by omega) (by omega), W (2 * k) (by omega) (by omega), W (2 * k * k) (by omega) (by omega), W (2 * k * k * k) (by omega) (by omega), W (3 * k * k * n - 2 * k * k * k) (by omega) (by omega), W (n * n) (by omega) (by omega), W (n * n * n) (by omega) (by omega)]
    exact Evt.some _
  have three : Evt (fun _ => some ((wr .i64 (wr .i64 (wr .i64 (k * k) * k) * wr .i64 (wr .i64 (wr .i64 (wr .i64 (10 * n) * n) - wr .i64 (wr .i64 (15 * k) * n)) + wr .i64 (wr .i64 (6 * k) * k))), wr .i64 (wr .i64 (wr .i64 (wr .i64 (n * n) * n) * n) * n), ()), ())) ((shN 3 k n, shD 3 n, ()), ()) := by
    rw [W (k * k) (by omega) (by omega), W (k * k * k) (by omega) (by omega), W (10 * n) (by omega) (by omega), W (10 * n * n) (by omega) (by omega), W (15 * k) (by omega) (by omega), W (15 * k * n) (by omega) (by omega), W (10 * n * n - 15 * k * n) (by omega) (by omega), W (6 * k) (by omega) (by omega), W (6 * k * k) (by omega) (by omega), W (10 * n * n - 15 * k * n + 6 * k * k) (by omega) (by omega), W (k * k * k * (10 * n * n - 15 * k * n + 6 * k * k)) (by omega) (by omega), W (n * n) (by omega) (by omega), W (n * n * n) (by omega) (by omega), W (n * n * n * n) (by omega) (by omega), W (n * n * n * n * n) (by omega) (by omega)]
    exact Evt.some _
  rcases (show w = 0 ∨ w = 1 ∨ w = 2 ∨ w = 3 by omega) with rfl | rfl | rfl | rfl
  · exact Evt.no (by decide) (Evt.no (by decide) (Evt.no (by decide) (Evt.some _)))
  · exact Evt.yes rfl one
  · exact Evt.no (by decide) (Evt.yes rfl two)
  · exact Evt.no (by decide) (Evt.no (by decide) (Evt.yes rfl three))
/- spec.l01Near -/
theorem e101 {x n : Int} (hn : 0 < n) (hn' : n ≤ 10000000000000) (h1 : -2000000000000000000 ≤ x) (h2 : x ≤ 2000000000000000000) : Evt (fun m => call T C m 101 (x, n, ())) ((nr x n, ()), ()) := by
  have hbd := ediv_bd (a := 2 * x + n) (b := 2 * n) (M := 4500000000000000000) (by omega) (by omega) (by omega) (by omega)
  have he := floorDiv_eq (a := 2 * x + n) (b := 2 * n) (by omega)
  refine Evt.next ?_ (fun m => r101 m x n)
  rw [wrap_id (x := 2 * n) (by omega) (by omega), wrap_id (x := 2 * x) (by omega) (by omega), wrap_id (x := 2 * x + n) (by omega) (by omega)]
  refine Evt.chk (bne_pos (by omega)) (Evt.chk (bne_pos (by omega)) (Evt.ite (fun h => ?_) (fun h => ?_)))
  · have h : Int.tmod (2 * x + n) (2 * n) < 0 := of_decide_eq_true h
    rw [if_pos h] at he
    refine (Evt.some _).of_eq fun m => ?_
    rw [wrap_id (x := Int.tdiv (2 * x + n) (2 * n)) (by omega) (by omega), wrap_id (by omega) (by omega), he]
    rfl
  · have h : ¬ Int.tmod (2 * x + n) (2 * n) < 0 := by simpa using h
    rw [if_neg h] at he
    refine (Evt.some _).of_eq fun m => ?_
    rw [wrap_id (x := Int.tdiv (2 * x + n) (2 * n)) (by omega) (by omega), he]
    rfl
/- spec.l02Lift -/
theorem e70 {f t w k n : Int} (f0 : 0 ≤ f) (f1 : f ≤ 10000) (t0 : 0 ≤ t) (t1 : t ≤ 10000) (w0 : 0 ≤ w) (w1 : w ≤ 3) (k0 : 0 ≤ k) (k1 : k ≤ n) (n0 : 1 ≤ n) (n1 : n ≤ 360) : Evt (fun m => call T C m 70 (f, t, w, k, n, ())) ((liftP f t w k n, ()), ()) := by
  have hd := shD_bd (w := w) n0 n1
  have hb := lift_bd (w := w) f0 f1 t0 t1 k0 k1 n0 n1
  refine Evt.next (Evt.bind (e100 w0 w1 k0 k1 n1) ?_) (fun m => r70 m f t w k n)
  show Evt (fun m => (call T C m 101 (wr .i64 (wr .i64 (f * shD w n) + wr .i64 (wr .i64 (t - f) * shN w k n)), shD w n, ())).bind _) _
  rw [wrap_id (x := f * shD w n) (by omega) (by omega), wrap_id (x := t - f) (by omega) (by omega), wrap_id (x := (t - f) * shN w k n) (by omega) (by omega), wrap_id (x := f * shD w n + (t - f) * shN w k n) (by omega) (by omega)]
  exact Evt.bind (e101 (by omega) (by omega) (by omega) (by omega)) (Evt.some _)
/- spec.l02Make -/
theorem e25 {p : Prg} (hr : RngPg p) (hn : (p.2.1.length : Int) ≤ 24) (ht : 0 ≤ p.1 ∧ p.1 ≤ 10000) (hi : ∀ v ∈ p.2.1, MoIn 0 10000 v) : Evt (fun n => call T C n 25 (p, ())) ((proF p.1 p.2.1, ()), ()) := by
  refine Evt.next ?_ (fun n => r25 n p)
  rw [wrap_id (x := p.1) (by omega) (by omega)]
  have hpl : ∀ i : Nat, ((proF p.1 (p.2.1.take i)).length : Int) ≤ 1000000 := fun i => by
    have h1 := proF_len (p.2.1.take i) p.1 fun v hv => (hi v (List.mem_of_mem_take hv)).n.1
    have h2 := sumM_take hr.m hn i
    omega
  refine for_evt' 0 (p.2.1.length : Int) (fun i (_ : Unit) => (p, proF p.1 (p.2.1.take i.toNat), toF p.1 (p.2.1.take i.toNat), i, ())) (fun _ _ => True) (b0 := ()) (by simp [proF, toF]) (by omega) trivial ?_ ?_
  · intro i _ h2 h3 _
    obtain ⟨v, hv⟩ := at_of h2 h3
    have hm := hi v hv.mem
    have hw := hm.w
    have hn1 := hm.n
    have htt := hm.t
    have hf := toF_in (p.2.1.take i.toNat) (f := p.1) (fun u hu => hi u (List.mem_of_mem_take hu)) ht.1 ht.2
    have hl := hpl i.toNat
    refine Round.yes (decide_eq_true h3) (Round.at hv.idx ?_)
    have e2 : wr .i64 v.2.1 = v.2.1 := hr.m.i2 hv.mem
    have e1 : wr .i64 v.1 = v.1 := hr.m.i1 hv.mem
    have e3 : wr .i64 v.2.2.1 = v.2.2.1 := hr.m.i3 hv.mem
    refine for_round' 0 v.2.1 (fun j (_ : Unit) => (p, proF p.1 (p.2.1.take i.toNat) ++ (seg (toF p.1 (p.2.1.take i.toNat)) v).take j.toNat, toF p.1 (p.2.1.take i.toNat), i, v, j, ())) (fun _ _ => True) (b0 := ()) (by simp) (by omega) trivial ?_ ?_
    · intro j _ h4 h5 _
      have hb := liftP_in (f := toF p.1 (p.2.1.take i.toNat)) (t := v.2.2.1) (w := v.1) (k := j) (n := v.2.1) (lo := 0) (hi := 10000) hw.1 hw.2 h4 (by omega) hn1.1 hn1.2 hf.1 hf.2 htt.1 htt.2
      have hsl := seg_len (toF p.1 (p.2.1.take i.toNat)) v
      have hlen : ((proF p.1 (p.2.1.take i.toNat) ++ (seg (toF p.1 (p.2.1.take i.toNat)) v).take j.toNat).length : Int) ≤ 1000360 := by
        rw [List.length_append, List.length_take]
        omega
      refine Round.yes (decide_eq_true (show j < wr .i64 v.2.1 by rw [e2]; exact h5)) ?_
      simp only [e1, e2, e3]
      refine Round.bind (e70 hf.1 hf.2 htt.1 htt.2 hw.1 hw.2 h4 (by omega) hn1.1 hn1.2) (Round.chk (decide_eq_true (by simp only [List.length_cons, List.length_nil]; omega)) (Round.inr _ ⟨(), ?_, trivial⟩))
      rw [wrap16 (x := liftP (toF p.1 (p.2.1.take i.toNat)) v.2.2.1 v.1 j v.2.1) (by omega) (by omega), seg_take _ _ h4 h5, List.append_assoc, wr_succ h4 h5 (by omega)]
    · intro _ _
      have ht2 : (seg (toF p.1 (p.2.1.take i.toNat)) v).take v.2.1.toNat = seg (toF p.1 (p.2.1.take i.toNat)) v := List.take_of_length_le (by rw [seg_len]; omega)
      refine Round.no (by simp [e2]) (Round.inl _ ⟨(), ?_, trivial⟩)
      rw [hv.take, proF_snoc, toF_snoc, e3, wr_succ h2 h3 (by omega), ht2]
  · intro _ _
    simp only [take_all]
    exact Round.no (by simp) (Round.done (Evt.some _))
/- spec.A2Cam -/
theorem e5 {b : List Int} (hb : ∀ v ∈ b, 0 ≤ v ∧ v ≤ 255) (hl : (b.length : Int) ≤ 3000) : ∃ c, Evt (fun n => call T C n 5 (b, ())) ((c, ()), ()) ∧ SmC c := by
  obtain ⟨p, s', hE, S, _⟩ := e23 (k := 0) (s := (b, 0, 0, ())) ⟨hb, by show (b.length : Int) ≤ _; omega, by show (0 : Int) ≤ 0; omega, by show (0 : Int) ≤ 0; omega⟩ (by omega)
  have ht := S.t
  have hn := S.n
  have hM := e25 S.rng (by omega) (by omega) (fun v hv => by
    have h := S.ins v hv
    exact ⟨h.w, h.n, by have := h.t; omega⟩)
  exact ⟨proF p.1 p.2.1, Evt.next (Evt.bind (e24 b) (Evt.bind hE (Evt.bind hM (Evt.some ((proF p.1 p.2.1, ()), ()))))) (fun n => r5 n b), S.cam⟩
/- spec.l00In -/
theorem e42 (a b c : Int) : Evt (fun n => call T C n 42 (a, b, c, ())) ((inR a b c, ()), ()) := by
  refine Evt.next ?_ (fun n => r42 n a b c)
  refine Evt.ite (fun h => ?_) (fun h => ?_)
  · refine (Evt.some _).of_eq fun n => ?_
    have h : b ≤ a := of_decide_eq_true h
    simp [inR, h]
    rfl
  · refine (Evt.some _).of_eq fun n => ?_
    have h : ¬ b ≤ a := by simpa using h
    simp [inR, h]
    rfl
/- spec.FlatCutter -/
theorem e71 {H : Nat} (hH : H ≤ 15) : Evt (fun n => call T C n 71 (((2 * H + 1 : Nat) : Int), ())) ((symK H (fun _ => 0), 0, ()), ()) := by
  have h1 : inR ((2 * H + 1 : Nat) : Int) 1 31 = true := inR_iff.2 ⟨by omega, by omega⟩
  have h2 : Int.tmod ((2 * H + 1 : Nat) : Int) 2 = 1 := by rw [show (2 : Int) = ((2 : Nat) : Int) from rfl, ← Int.ofNat_tmod]; omega
  have hE := e42 ((2 * H + 1 : Nat) : Int) 1 31
  rw [h1] at hE
  refine Evt.next (Evt.bind hE ?_) (fun n => r71 n ((2 * H + 1 : Nat) : Int))
  rw [h2]
  refine Evt.no (by decide) (Evt.chk rfl (Evt.no (by decide) (Evt.chk (decide_eq_true ⟨rfl, by omega, by omega⟩) ((Evt.some _).of_eq fun n => ?_))))
  rw [← flat_sym, Int.toNat_natCast]
  rfl
/- spec.l06Drawn -/
theorem e26 {k : Int} {s : Src} (h : SrcAt k s) (hk : k ≤ 999999990000) : ∃ (c : List Int) (s' : Src), Evt (fun n => call T C n 26 (s, ())) ((c, ()), (s', ())) ∧ SmK c ∧ SrcAt (k + 100) s' := by
  obtain ⟨o, s1, hO, hs1⟩ := e69 h (by omega) (m := 3) (by omega) (by omega)
  cases o with
  | true =>
    obtain ⟨v, s2, hV, v0, v1, hs2⟩ := e68 hs1 (by omega) (m := 3) (by omega) (by omega)
    obtain ⟨u, rfl⟩ : ∃ u : Nat, v = u := ⟨v.toNat, by omega⟩
    have hF := e71 (H := u) (by omega)
    have e1 : wr .i64 (1 + wr .i64 (2 * (u : Int))) = ((2 * u + 1 : Nat) : Int) := by rw [wrap_id (x := 2 * (u : Int)) (by omega) (by omega), wrap_id (by omega) (by omega)]; omega
    refine ⟨symK u fun _ => 0, s2, Evt.next (Evt.bind hO (Evt.yes rfl (Evt.bind hV ?_))) (fun n => r26 n s), SmK.of (flat_ris u) (by omega), hs2.mono (by omega)⟩
    rw [e1]
    exact Evt.bind hF (Evt.some _)
  | false =>
    obtain ⟨v, s2, hV, v0, v1, hs2⟩ := e68 hs1 (by omega) (m := 4) (by omega) (by omega)
    obtain ⟨H, rfl⟩ : ∃ u : Nat, v = u := ⟨v.toNat, by omega⟩
    have e1 : wr .i64 (wr .i64 (2 * (H : Int)) + 1) = ((2 * H + 1 : Nat) : Int) := by rw [wrap_id (x := 2 * (H : Int)) (by omega) (by omega), wrap_id (by omega) (by omega)]; omega
    have key : EvtX (fun n => call T C n 26 (s, ())) (fun y => SmK y.1.1 ∧ SrcAt (k + 100) y.2.1) := by
      refine EvtX.next (EvtX.bind hO (EvtX.no (by simp) (EvtX.bind hV ?_))) (fun n => r26 n s)
      simp only [e1]
      refine EvtX.chk (by simp; omega) ?_
      refine EvtX.loop (fun x => ∃ (src : Src) (h : Nat → Int) (i : Nat), x = (src, (H : Int), symK H (fun a => if a < i then h a else 0), h (i - 1), (i : Int), ()) ∧ 1 ≤ i ∧ i ≤ H + 1 ∧ SrcAt (k + 10 + 2 * i) src ∧ h 0 = 0 ∧ (∀ a b, a ≤ b → b < i → h a ≤ h b) ∧ (∀ a : Nat, a < i → h a ≤ 3 * a)) (fun x => (H + 2 - x.2.2.2.2.1.toNat : Nat))
        ⟨s2, fun _ => 0, 1, ?_, by omega, by omega, hs2.mono (by omega), rfl, fun _ _ _ _ => Int.le_refl _, fun a _ => by show (0 : Int) ≤ 3 * a; omega⟩ ?_
      · rw [Int.toNat_natCast, flat_sym]
        have : (fun a => if a < 1 then (fun _ => (0 : Int)) a else 0) = (fun _ : Nat => (0 : Int)) := by funext a; simp
        rw [this]
        rfl
      rintro x ⟨src, h, i, rfl, i1, i2, hsrc, h0, hup, hhi⟩
      by_cases hi : i ≤ H
      · right
        obtain ⟨d, s3, hD, d0, d1, hs3⟩ := e68 hsrc (by omega) (m := 4) (by omega) (by omega)
        have hp0 := hup 0 (i - 1) (by omega) (by omega)
        have hp1 := hhi (i - 1) (by omega)
        have ed : wr .i16 (h (i - 1) + wr .i16 d) = h (i - 1) + d := by rw [wrap16 (x := d) (by omega) (by omega), wrap16 (by omega) (by omega)]
        have em : wr .i64 ((H : Int) - (i : Int)) = ((H - i : Nat) : Int) := by rw [wrap_id (by omega) (by omega)]; omega
        have ep : wr .i64 ((H : Int) + (i : Int)) = ((H + i : Nat) : Int) := by rw [wrap_id (by omega) (by omega)]; omega
        have ei : wr .i64 ((i : Int) + 1) = ((i + 1 : Nat) : Int) := by rw [wrap_id (by omega) (by omega)]; omega
        have hl := symK_len H (fun a => if a < i then h a else 0)
        have g1 := g_idx (l := symK H (fun a => if a < i then h a else 0)) (i := ((H - i : Nat) : Int)) (by omega) (by omega)
        have g2 := g_idx (l := (symK H (fun a => if a < i then h a else 0)).set (H - i) (h (i - 1) + d)) (i := ((H + i : Nat) : Int)) (by omega) (by rw [List.length_set]; omega)
        have n1 := g1.get
        have n2 := g2.get
        refine ⟨(s3, (H : Int), symK H (fun a => if a < i + 1 then (if a = i then h (i - 1) + d else h a) else 0), h (i - 1) + d, ((i + 1 : Nat) : Int), ()), ⟨s3, fun a => if a = i then h (i - 1) + d else h a, i + 1, ?_, by omega, by omega, hs3.mono (by omega), ?_, fun a b hab hb => ?_, fun a ha => ?_⟩, ?_, fun y => ?_⟩
        · simp only [Nat.add_sub_cancel, if_true]
        · show (if 0 = i then _ else _) = (0 : Int)
          rw [if_neg (by omega)]; exact h0
        · show (if a = i then _ else _) ≤ (if b = i then _ else _ : Int)
          by_cases hb2 : b = i
          · rw [if_pos hb2]
            by_cases ha2 : a = i
            · rw [if_pos ha2]; exact Int.le_refl _
            · rw [if_neg ha2]
              have := hup a (i - 1) (by omega) (by omega)
              omega
          · rw [if_neg hb2, if_neg (by omega)]
            exact hup a b hab (by omega)
        · show (if a = i then _ else _) ≤ (3 * a : Int)
          by_cases ha2 : a = i
          · rw [if_pos ha2]; omega
          · rw [if_neg ha2]; exact hhi a (by omega)
        · show (H + 2 - ((i + 1 : Nat) : Int).toNat : Nat) < (H + 2 - (i : Int).toNat : Nat)
          omega
        · refine Round.yes (decide_eq_true (show (i : Int) ≤ (H : Int) by omega)) (Round.bind hD ?_)
          simp only [em, ep, ed, ei, Int.toNat_natCast]
          rw [Int.toNat_natCast] at n1 n2
          refine Round.chk (decide_eq_true ⟨by omega, by rw [hl]; omega⟩) (Round.at n1 (Round.chk (decide_eq_true ⟨by omega, by rw [List.length_set, hl]; omega⟩) (Round.at n2 (Round.again _ ?_))))
          rw [symK_step i1 hi]
      · left
        have hi2 : i = H + 1 := by omega
        have hsame : symK H (fun a => if a < i then h a else 0) = symK H h := tb_ext fun j hj => by
          have := dst_le hj
          show (if dst H j < i then _ else _) = _
          rw [if_pos (by omega)]
        refine ⟨((symK H h, ()), (src, ())), ⟨SmK.of ⟨h0, fun a b hab hb => hup a b hab (by omega), fun a ha => by have := hhi a (by omega); omega⟩ (by omega), hsrc.mono (by omega)⟩, ?_⟩
        rw [hsame]
        exact Round.no (by simp; omega) (Round.done (Evt.some _))
    obtain ⟨⟨⟨c, _⟩, s', _⟩, ⟨h1, h2⟩, hE⟩ := key
    exact ⟨c, s', hE, h1, h2⟩
/- spec.A2Cutter -/
theorem e6 {b : List Int} (hb : ∀ v ∈ b, 0 ≤ v ∧ v ≤ 255) (hl : (b.length : Int) ≤ 4000) : ∃ c, Evt (fun n => call T C n 6 (b, ())) ((c, ()), ()) ∧ SmK c := by
  obtain ⟨c, s', hE, S, _⟩ := e26 (k := 0) (s := (b, 0, 0, ())) ⟨hb, by show (b.length : Int) ≤ _; omega, by show (0 : Int) ≤ 0; omega, by show (0 : Int) ≤ 0; omega⟩ (by omega)
  exact ⟨c, Evt.next (Evt.bind (e24 b) (Evt.bind hE (Evt.some ((c, ()), ())))) (fun n => r6 n b), S⟩
/- spec.l01Steps -/
theorem e54 (a : Int) : Evt (fun n => call T C n 54 (a, ())) ((inR a 8 360, ()), ()) := Evt.next (Evt.bind (e42 a 8 360) (Evt.some _)) (fun n => r54 n a)
/- spec.l01Lift -/
theorem e41 (a : Int) : Evt (fun n => call T C n 41 (a, ())) ((inR a 0 10000, ()), ()) := Evt.next (Evt.bind (e42 a 0 10000) (Evt.some _)) (fun n => r41 n a)
/- spec.l01Ok -/
theorem e27 (l : List Int) (hl : (l.length : Int) ≤ 140737488351232) : Evt (fun n => call T C n 27 (l, ())) ((okC l, ()), ()) := by
  refine Evt.next ?_ (fun n => r27 n l)
  refine Evt.bind (e54 _) ?_
  refine Evt.ite (fun h => ?_) (fun h => ?_)
  · refine (Evt.some _).of_eq fun n => ?_
    have h : inR (l.length : Int) 8 360 = false := by simpa using h
    simp [okC, h]
    rfl
  · have h : inR (l.length : Int) 8 360 = true := by simpa using h
    have he : okC l = l.all okV := by simp [okC, h]
    rw [he]
    refine loop_evt (fun (x : List Int × Int × Unit) => x.1 = l ∧ 0 ≤ x.2.1 ∧ x.2.1 ≤ (l.length : Int) ∧ l.all okV = (l.drop x.2.1.toNat).all okV) (fun (x : List Int × Int × Unit) => ((l.length : Int) - x.2.1).toNat) (x := (l, 0, ())) ⟨rfl, Int.le_refl _, by simp, by simp⟩ ?_
    rintro ⟨x1, i, _⟩ ⟨h', h0, h1, h2⟩
    simp only at h' h0 h1 h2
    subst h'
    refine Round.ite (fun hlt => ?_) (fun hge => ?_)
    · have hlt : i < (x1.length : Int) := of_decide_eq_true hlt
      obtain ⟨v, hv, hv'⟩ := idx_at h0 hlt
      have hd := drop_cons hv'
      refine Round.at hv (Round.bind (e41 _) (Round.ite (fun hb => ?_) (fun hb => ?_)))
      · have hb : okV v = false := by simpa [okV] using hb
        have h3 : x1.all okV = false := by rw [h2, hd]; simp [hb]
        rw [h3]
        exact Round.done (Evt.some _)
      · have hb : okV v = true := by simpa [okV] using hb
        have hw : wr .i64 (i + 1) = i + 1 := wrap_id (by omega) (by omega)
        refine Round.again _ ⟨⟨rfl, ?_, ?_, ?_⟩, ?_⟩ <;> simp only [hw]
        · omega
        · omega
        · rw [h2, hd, show (i + 1).toNat = i.toNat + 1 by omega]
          simp [hb]
        · omega
    · have hge : ¬ i < (x1.length : Int) := by simpa using hge
      have : x1.drop i.toNat = [] := List.drop_of_length_le (by omega)
      rw [h2, this]
      exact Round.done (Evt.some _)
/- spec.l00Min -/
theorem e45 (a b : Int) : Evt (fun n => call T C n 45 (a, b, ())) ((min a b, ()), ()) := by
  refine Evt.next (Evt.ite (fun h => ?_) (fun h => ?_)) (fun n => r45 n a b)
  · have h : a < b := of_decide_eq_true h
    rw [show min a b = a by omega]; exact Evt.some _
  · have h : ¬ a < b := by simpa using h
    rw [show min a b = b by omega]; exact Evt.some _
/- spec.l00Max -/
theorem e46 (a b : Int) : Evt (fun n => call T C n 46 (a, b, ())) ((max a b, ()), ()) := by
  refine Evt.next (Evt.ite (fun h => ?_) (fun h => ?_)) (fun n => r46 n a b)
  · have h : a > b := of_decide_eq_true h
    rw [show max a b = a by omega]; exact Evt.some _
  · have h : ¬ a > b := by simpa using h
    rw [show max a b = b by omega]; exact Evt.some _
/- spec.l01Range -/
theorem e28 (l : List Int) (hr : Rng l) (h0 : 0 < (l.length : Int)) : Evt (fun n => call T C n 28 (l, ())) ((mnL l, mxL l, ()), ()) := by
  have hlen := hr.len'
  obtain ⟨v0, hv0⟩ := at_of (l := l) (Int.le_refl 0) h0
  refine Evt.next (Evt.at hv0.idx ?_) (fun n => r28 n l)
  rw [hr.id hv0.mem]
  have hh := (head_at hv0).1
  refine for_evt' 1 (l.length : Int) (fun i (_ : Unit) => (l, mnF (l.take i.toNat) v0, mxF (l.take i.toNat) v0, i, ())) (fun _ _ => True) (b0 := ()) (by
    have := (head_at hv0).2
    show _ = (l, mnF (l.take 1) v0, mxF (l.take 1) v0, 1, ())
    rw [this]; simp [mnF, mxF]) (by omega) trivial ?_ ?_
  · intro i _ h2 h3 _
    obtain ⟨v, hv⟩ := at_of (l := l) (show 0 ≤ i by omega) h3
    simp only [wrap_id (x := i + 1) (by omega) (by omega)]
    refine Round.yes (decide_eq_true h3) (Round.at hv.idx (Round.bind (e45 _ _) (Round.at hv.idx (Round.bind (e46 _ _) (Round.again _ ⟨(), ?_, trivial⟩)))))
    rw [hv.take, mnF_snoc, mxF_snoc, hr.id hv.mem]
  · intro _ _
    have e1 : mnF (l.take (l.length : Int).toNat) v0 = mnL l := by rw [take_all, mnL, hh]
    have e2 : mxF (l.take (l.length : Int).toNat) v0 = mxL l := by rw [take_all, mxL, hh]
    simp only [e1, e2]
    exact Round.no (by simp) (Round.done (Evt.some _))
/- spec.RangeOf -/
theorem e7 {c : List Int} (hr : Rng c) (ok : okC c = true) : Evt (fun n => call T C n 7 (c, ())) ((mnL c, mxL c, 0, ()), ()) := by
  have hl := okC_len ok
  have hv := e27 c (by omega)
  rw [ok] at hv
  refine Evt.next ?_ (fun n => r7 n c)
  exact Evt.bind hv (Evt.no (by simp) (Evt.bind (e28 c hr (by omega)) (Evt.some _)))
/- laws.a2At -/
theorem e8 {b : List Int} (hb : ∀ v ∈ b, 0 ≤ v ∧ v ≤ 255) {i m : Int} (i0 : 0 ≤ i) (m1 : 1 ≤ m) : ∃ v : Int, Evt (fun n => call T C n 8 (b, i, m, ())) ((v, ()), ()) ∧ 0 ≤ v ∧ v < m := by
  by_cases h : i < (b.length : Int)
  · obtain ⟨v, hv⟩ := at_of i0 h
    have hvb := hb v hv.mem
    have ev : wr .i64 v = v := wrap_id (by omega) (by omega)
    refine ⟨Int.tmod v m, Evt.next (Evt.no (by simp; omega) (Evt.no (by simp; omega) (Evt.at hv.idx (Evt.chk (bne_pos (by omega)) ((Evt.some _).of_eq fun n => ?_))))) (fun n => r8 n b i m), Int.tmod_nonneg m hvb.1, Int.tmod_lt_of_pos v (by omega)⟩
    rw [ev]
    rfl
  · exact ⟨0, Evt.next (Evt.yes (decide_eq_true (by omega)) (Evt.some _)) (fun n => r8 n b i m), by omega, by omega⟩
/- (impl.Cam).steps -/
theorem e50 (a : List Int) : Evt (fun n => call T C n 50 (a, ())) (((a.length : Int), ()), ()) := Evt.next (Evt.some _) (fun n => r50 n a)
/- impl.inRange -/
theorem e36 (a b c : Int) : Evt (fun n => call T C n 36 (a, b, c, ())) ((inR a b c, ()), ()) := by
  refine Evt.next ?_ (fun n => r36 n a b c)
  refine Evt.ite (fun h => ?_) (fun h => ?_)
  · refine (Evt.some _).of_eq fun n => ?_
    have h : b ≤ a := of_decide_eq_true h
    simp [inR, h]
    rfl
  · refine (Evt.some _).of_eq fun n => ?_
    have h : ¬ b ≤ a := by simpa using h
    simp [inR, h]
    rfl
/- impl.isSteps -/
theorem e60 (a : Int) : Evt (fun n => call T C n 60 (a, ())) ((inR a 8 360, ()), ()) := Evt.next (Evt.bind (e36 a 8 360) (Evt.some _)) (fun n => r60 n a)
/- impl.isLift -/
theorem e34 (a : Int) : Evt (fun n => call T C n 34 (a, ())) ((inR a 0 10000, ()), ()) := Evt.next (Evt.bind (e36 a 0 10000) (Evt.some _)) (fun n => r34 n a)
/- impl.ValidCam$1 -/
theorem e73 (v : Int) : Evt (fun n => call T C n 73 (v, ())) ((!okV v, ()), ()) := Evt.next (Evt.bind (e34 _) (Evt.some _)) (fun n => r73 n v)
/- slices.IndexFunc[impl.Cam,int16]{impl.ValidCam$1} -/
theorem e102 (l : List Int) (hl : (l.length : Int) ≤ 140737488351232) : Evt (fun n => call T C n 102 (l, ((), ()), ())) ((fi (fun v => !okV v) l 0, ()), ()) := by
  refine Evt.next ?_ (fun n => r102 n l ((), ()))
  refine loop_evt (fun (x : List Int × (Unit × Unit) × Int × Int × Unit) => x.1 = l ∧ x.2.2.1 = (l.length : Int) ∧ 0 ≤ x.2.2.2.1 ∧ x.2.2.2.1 ≤ (l.length : Int) ∧ fi (fun v => !okV v) l 0 = fi (fun v => !okV v) (l.drop x.2.2.2.1.toNat) x.2.2.2.1) (fun (x : List Int × (Unit × Unit) × Int × Int × Unit) => ((l.length : Int) - x.2.2.2.1).toNat) (x := (l, ((), ()), (l.length : Int), 0, ())) ⟨rfl, rfl, Int.le_refl _, by simp, by simp⟩ ?_
  rintro ⟨x1, u, m, i, _⟩ ⟨h', hm, h0, h1, h2⟩
  simp only at h' hm h0 h1 h2
  subst h'; subst hm
  refine Round.ite (fun hlt => ?_) (fun hge => ?_)
  · have hlt : i < (x1.length : Int) := of_decide_eq_true hlt
    obtain ⟨v, hv, hv'⟩ := idx_at h0 hlt
    have hd := drop_cons hv'
    refine Round.at hv (Round.bind (e73 _) (Round.ite (fun hb => ?_) (fun hb => ?_)))
    · have hb : okV v = false := by simpa using hb
      have h3 : fi (fun v => !okV v) x1 0 = i := by rw [h2, hd]; simp [fi, hb]
      rw [h3]
      exact Round.done (Evt.some _)
    · have hb : okV v = true := by simpa using hb
      have hw : wr .i64 (i + 1) = i + 1 := wrap_id (by omega) (by omega)
      refine Round.again _ ⟨⟨rfl, rfl, ?_, ?_, ?_⟩, ?_⟩ <;> simp only [hw]
      · omega
      · omega
      · rw [h2, hd, show (i + 1).toNat = i.toNat + 1 by omega]
        simp [fi, hb]
      · omega
  · have hge : ¬ i < (x1.length : Int) := by simpa using hge
    have : x1.drop i.toNat = [] := List.drop_of_length_le (by omega)
    rw [h2, this]
    exact Round.done (Evt.some _)
/- slices.ContainsFunc[impl.Cam,int16]{impl.ValidCam$1} -/
theorem e72 (l : List Int) (hl : (l.length : Int) ≤ 140737488351232) : Evt (fun n => call T C n 72 (l, ((), ()), ())) ((l.any (fun v => !okV v), ()), ()) := by
  refine Evt.next (Evt.bind (e102 l hl) ((Evt.some _).of_eq fun n => ?_)) (fun n => r72 n l ((), ()))
  simp only [fi_any _ l 0 (Int.le_refl _)]
  rfl
/- impl.ValidCam -/
theorem e31 (l : List Int) (hl : (l.length : Int) ≤ 140737488351232) : Evt (fun n => call T C n 31 (l, ())) ((okC l, ()), ()) := by
  refine Evt.next (Evt.bind (e50 l) (Evt.bind (e60 _) ?_)) (fun n => r31 n l)
  refine Evt.ite (fun h => ?_) (fun h => ?_)
  · refine Evt.bind (e72 l hl) ((Evt.some _).of_eq fun n => ?_)
    have h : inR (l.length : Int) 8 360 = true := h
    have : okC l = !l.any (fun v => !okV v) := by simp [okC, h, List.any_eq_not_all_not]
    rw [this]
    rfl
  · refine (Evt.some _).of_eq fun n => ?_
    have h : inR (l.length : Int) 8 360 = false := by simpa using h
    simp [okC, h]
    rfl
/- impl.isCount -/
theorem e32 (K : List (List Int)) : Evt (fun n => call T C n 32 (K, ())) ((inR (K.length : Int) 1 8, ()), ()) := Evt.next (Evt.bind (e36 _ _ _) (Evt.some _)) (fun n => r32 n K)
/- impl.ValidCutter -/
theorem e76 (k : List Int) (hr : Rng k) : Evt (fun n => call T C n 76 (k, ())) ((okK k, ()), ()) := by
  have hl := hr.len'
  have hm : Int.tmod (k.length : Int) 2 = ((k.length % 2 : Nat) : Int) := by rw [show (2 : Int) = ((2 : Nat) : Int) from rfl, ← Int.ofNat_tmod]
  have hd : Int.tdiv (k.length : Int) 2 = ((k.length / 2 : Nat) : Int) := by rw [show (2 : Int) = ((2 : Nat) : Int) from rfl, ← Int.ofNat_tdiv]
  refine Evt.next (Evt.chk rfl ?_) (fun n => r76 n k)
  rw [hm, hd, wrap_id (x := ((k.length / 2 : Nat) : Int)) (by omega) (by omega)]
  refine Evt.ite (fun h => ?_) (fun h => ?_)
  · have h : k.length % 2 = 0 := by
      have h' : (k.length : Int) % 2 = 0 := by simpa using h
      omega
    have e : okK k = false := by unfold okK; rw [show decide (k.length % 2 = 1) = false from decide_eq_false (by omega)]; simp
    rw [e]; exact Evt.some _
  have h : k.length % 2 = 1 := by
    have h' : ¬ (k.length : Int) % 2 = 0 := by simpa using h
    omega
  refine Evt.ite (fun h1 => ?_) (fun h1 => ?_)
  · have h1 : (k.length : Int) > 31 := by simpa using h1
    have e : okK k = false := by
      unfold okK
      have : inR (k.length : Int) 1 31 = false := by rw [Bool.eq_false_iff]; intro hh; have := inR_iff.1 hh; omega
      rw [this]; simp
    rw [e]; exact Evt.some _
  have h1 : ¬ (k.length : Int) > 31 := by simpa using h1
  have hin : inR (k.length : Int) 1 31 = true := inR_iff.2 ⟨by omega, by omega⟩
  have e : okK k = ((g k (k.length / 2) == 0) && allTo (kOne k) (k.length / 2 + 1)) := by unfold okK; rw [hin, show decide (k.length % 2 = 1) = true from decide_eq_true h]; simp
  rw [e]
  have hmid := g_idx (l := k) (i := ((k.length / 2 : Nat) : Int)) (by omega) (by omega)
  rw [Int.toNat_natCast] at hmid
  refine Evt.chk rfl (Evt.at hmid.idx (Evt.ite (fun h0 => ?_) (fun h0 => ?_)))
  · have h0 : (g k (k.length / 2) == 0) = false := by simpa using h0
    rw [h0]; exact Evt.some _
  have h0 : (g k (k.length / 2) == 0) = true := by simpa using h0
  rw [h0]
  simp only [Bool.true_and]
  have e2 : allTo (kOne k) (k.length / 2 + 1) = allTo (kTwo k) k.length := by
    rw [Bool.eq_iff_iff]
    exact ⟨kTwo_of h, kOne_of h⟩
  rw [e2]
  refine for_evt' 0 (k.length : Int) (fun i (_ : Unit) => (k, (k.length : Int), k, (k.length : Int), i, ())) (fun i _ => allTo (kTwo k) i.toNat = true) (b0 := ()) rfl (by omega) (by rfl) ?_ ?_
  · intro i _ h2 h3 hp
    obtain ⟨a, rfl⟩ : ∃ a : Nat, i = a := ⟨i.toNat, by omega⟩
    rw [Int.toNat_natCast] at hp
    have hai := g_idx (l := k) (i := (a : Int)) (by omega) (by omega)
    have haj := g_idx (l := k) (i := (k.length : Int) - 1 - a) (by omega) (by omega)
    rw [Int.toNat_natCast] at hai
    rw [show ((k.length : Int) - 1 - a).toNat = k.length - 1 - a by omega] at haj
    have bad : kTwo k a = false → allTo (kTwo k) k.length = false := allTo_false (by omega)
    simp only [hd, wrap_id (x := ((k.length / 2 : Nat) : Int)) (by omega) (by omega), wrap_id (x := (a : Int) + 1) (by omega) (by omega), wrap_id (x := (a : Int) - 1) (by omega) (by omega), wrap_id (x := (k.length : Int) - 1) (by omega) (by omega), wrap_id (x := (k.length : Int) - 1 - (a : Int)) (by omega) (by omega)]
    refine Round.yes (decide_eq_true h3) (Round.at hai.idx (Round.bind (e34 _) (Round.ite (fun c1 => ?_) (fun c1 => ?_))))
    · have c1 : inR (wr .i64 (g k a)) 0 10000 = false := by simpa using c1
      rw [bad (by simp [kTwo, c1])]
      exact Round.done (Evt.some _)
    have c1 : inR (wr .i64 (g k a)) 0 10000 = true := by simpa using c1
    refine Round.at haj.idx (Round.ite (fun c2 => ?_) (fun c2 => ?_))
    · have c2 : (g k a == g k (k.length - 1 - a)) = false := by simpa using c2
      rw [bad (by simp [kTwo, c2])]
      exact Round.done (Evt.some _)
    have c2 : (g k a == g k (k.length - 1 - a)) = true := by simpa using c2
    have again : kTwo k a = true → ∃ b' : Unit, ((k, (k.length : Int), k, (k.length : Int), (a : Int) + 1, ()) : List Int × Int × List Int × Int × Int × Unit) = (k, (k.length : Int), k, (k.length : Int), (a : Int) + 1, ()) ∧ allTo (kTwo k) ((a : Int) + 1).toNat = true := fun h => ⟨(), rfl, by rw [show ((a : Int) + 1).toNat = a + 1 by omega, allTo_succ, hp, h]; rfl⟩
    refine Round.chk rfl (Round.ite (fun c3 => ?_) (fun c3 => ?_))
    · have c3 : (a : Int) > ((k.length / 2 : Nat) : Int) := of_decide_eq_true c3
      have hab := g_idx (l := k) (i := (a : Int) - 1) (by omega) (by omega)
      rw [show ((a : Int) - 1).toNat = a - 1 by omega] at hab
      refine Round.at hab.idx (Round.ite (fun c4 => ?_) (fun c4 => ?_))
      · have c4 : g k a < g k (a - 1) := by simpa using c4
        rw [bad (by
          have c5 : a > k.length / 2 := by omega
          simp [kTwo, c4, c5])]
        exact Round.done (Evt.some _)
      · have c4 : ¬ g k a < g k (a - 1) := by simpa using c4
        exact Round.again _ (again (by simp only [kTwo, c1, c2, decide_eq_false c4]; simp))
    · have c3 : ¬ (a : Int) > ((k.length / 2 : Nat) : Int) := by simpa using c3
      exact Round.no (by simp) (Round.again _ (again (by simp only [kTwo, c1, c2, decide_eq_false (show ¬ a > k.length / 2 by omega)]; simp)))
  · intro _ hp
    have hp : allTo (kTwo k) k.length = true := by simpa using hp
    rw [hp]
    exact Round.no (by simp) (Round.done (Evt.some _))
/- impl.areCutters$1 -/
theorem e75 (k : List Int) (hr : Rng k) : Evt (fun n => call T C n 75 (k, ())) ((!okK k, ()), ()) := Evt.next (Evt.bind (e76 k hr) (Evt.some _)) (fun n => r75 n k)
/- slices.IndexFunc[[]impl.Cutter,impl.Cutter]{impl.areCutters$1} -/
theorem e103 (K : List (List Int)) (hr : RngS K) : Evt (fun n => call T C n 103 (K, ((), ()), ())) ((fi (fun v => !okK v) K 0, ()), ()) := by
  have hl := hr.len'
  refine Evt.next ?_ (fun n => r103 n K ((), ()))
  refine for_evt' 0 (K.length : Int) (fun i (_ : Unit) => (K, ((), ()), (K.length : Int), i, ())) (fun i _ => fi (fun v => !okK v) K 0 = fi (fun v => !okK v) (K.drop i.toNat) i) (b0 := ()) rfl (by omega) (by simp) ?_ ?_
  · intro i _ h2 h3 hp
    obtain ⟨v, hv⟩ := at_of h2 h3
    rw [hv.drop] at hp
    simp only [fi] at hp
    refine Round.yes (decide_eq_true h3) (Round.at hv.idx (Round.bind (e75 v (hr.el v hv.mem)) ?_))
    cases hb : okK v with
    | false =>
      simp only [hb, Bool.not_false, if_true] at hp
      rw [hp]
      exact Round.yes rfl (Round.done (Evt.some _))
    | true =>
      simp only [hb, Bool.not_true, Bool.false_eq_true, if_false] at hp
      exact Round.no (by simp) (Round.again _ ⟨(), by rw [wr_succ h2 h3 (by omega)], hp⟩)
  · intro _ hp
    rw [drop_all] at hp
    rw [hp]
    exact Round.no (by simp) (Round.done (Evt.some _))
/- slices.ContainsFunc[[]impl.Cutter,impl.Cutter]{impl.areCutters$1} -/
theorem e74 (K : List (List Int)) (hr : RngS K) : Evt (fun n => call T C n 74 (K, ((), ()), ())) ((K.any (fun v => !okK v), ()), ()) := by
  refine Evt.next (Evt.bind (e103 K hr) ((Evt.some _).of_eq fun n => ?_)) (fun n => r74 n K ((), ()))
  simp only [fi_any _ K 0 (Int.le_refl _)]
  rfl
/- impl.areCutters -/
theorem e33 (K : List (List Int)) (hr : RngS K) : Evt (fun n => call T C n 33 (K, ())) ((okKs K, ()), ()) := by
  refine Evt.next (Evt.bind (e74 K hr) ((Evt.some _).of_eq fun n => ?_)) (fun n => r33 n K)
  have : okKs K = !K.any (fun v => !okK v) := by simp [okKs, List.any_eq_not_all_not]
  rw [this]
  rfl
/- impl.codeIf -/
theorem e30 (c : Bool) (v : Int) : Evt (fun n => call T C n 30 (c, v, ())) (((if c = true then v else 0), ()), ()) := by
  refine Evt.next ?_ (fun n => r30 n c v)
  cases c with
  | true => exact Evt.yes rfl (Evt.some _)
  | false => exact Evt.no (by simp) (Evt.some _)
/- impl.isPlace -/
theorem e35 (a b : Int) : Evt (fun n => call T C n 35 (a, b, ())) ((inR a 0 (wr .i64 (b - 1)), ()), ()) := Evt.next (Evt.bind (e36 _ _ _) (Evt.some _)) (fun n => r35 n a b)
/- impl.firstCode -/
theorem e29 (l : List Int) (hl : (l.length : Int) ≤ 140737488351232) : Evt (fun n => call T C n 29 (l, ())) ((fst0 l, ()), ()) := by
  refine Evt.next ?_ (fun n => r29 n l)
  refine loop_evt (fun (x : List Int × Int × Int × Unit) => x.1 = l ∧ x.2.1 = (l.length : Int) ∧ 0 ≤ x.2.2.1 ∧ x.2.2.1 ≤ (l.length : Int) ∧ fst0 l = fst0 (l.drop x.2.2.1.toNat)) (fun (x : List Int × Int × Int × Unit) => ((l.length : Int) - x.2.2.1).toNat) (x := (l, (l.length : Int), 0, ())) ⟨rfl, rfl, Int.le_refl _, by simp, by simp⟩ ?_
  rintro ⟨x1, m, i, _⟩ ⟨h', hm, h0, h1, h2⟩
  simp only at h' hm h0 h1 h2
  subst h'; subst hm
  refine Round.ite (fun hlt => ?_) (fun hge => ?_)
  · have hlt : i < (x1.length : Int) := of_decide_eq_true hlt
    obtain ⟨v, hv, hv'⟩ := idx_at h0 hlt
    have hd := drop_cons hv'
    refine Round.at hv (Round.ite (fun hb => ?_) (fun hb => ?_))
    · have hb : v ≠ 0 := by simpa using hb
      have h3 : fst0 x1 = v := by rw [h2, hd]; simp [fst0, hb]
      rw [h3]
      exact Round.done (Evt.some _)
    · have hb : v = 0 := by simpa using hb
      have hw : wr .i64 (i + 1) = i + 1 := wrap_id (by omega) (by omega)
      refine Round.again _ ⟨⟨rfl, rfl, ?_, ?_, ?_⟩, ?_⟩ <;> simp only [hw]
      · omega
      · omega
      · rw [h2, hd, show (i + 1).toNat = i.toNat + 1 by omega]
        simp [fst0, hb]
      · omega
  · have hge : ¬ i < (x1.length : Int) := by simpa using hge
    have : x1.drop i.toNat = [] := List.drop_of_length_le (by omega)
    rw [h2, this]
    exact Round.done (Evt.some _)
/- slices.Max[impl.Cam,int16] -/
theorem e37 (l : List Int) (hr : Rng l) (h0 : 0 < (l.length : Int)) : Evt (fun n => call T C n 37 (l, ())) ((mxL l, ()), ()) := by
  have hlen := hr.len'
  obtain ⟨v0, hv0⟩ := at_of (l := l) (Int.le_refl 0) h0
  refine Evt.next (Evt.no (by simp; omega) (Evt.at hv0.idx ?_)) (fun n => r37 n l)
  have hh := (head_at hv0).1
  refine for_evt' 1 (l.length : Int) (fun i (_ : Unit) => (l, mxF (l.take i.toNat) v0, i, ())) (fun _ _ => True) (b0 := ()) (by
    have := (head_at hv0).2
    show _ = (l, mxF (l.take 1) v0, 1, ())
    rw [this]; simp [mxF]) (by omega) trivial ?_ ?_
  · intro i _ h2 h3 _
    obtain ⟨v, hv⟩ := at_of (l := l) (show 0 ≤ i by omega) h3
    simp only [wrap_id (x := i + 1) (by omega) (by omega)]
    refine Round.yes (decide_eq_true h3) (Round.at hv.idx (Round.again _ ⟨(), ?_, trivial⟩))
    rw [hv.take, mxF_snoc]
    congr 2
    split <;> omega
  · intro _ _
    have e2 : mxF (l.take (l.length : Int).toNat) v0 = mxL l := by rw [take_all, mxL, hh]
    simp only [e2]
    exact Round.no (by simp) (Round.done (Evt.some _))
/- impl.floorDiv -/
theorem e106 {a b : Int} (hb : 0 < b) (h1 : -4500000000000000000 ≤ a) (h2 : a ≤ 4500000000000000000) : Evt (fun n => call T C n 106 (a, b, ())) ((a / b, ()), ()) := by
  have hbd := ediv_bd hb h1 h2 (by omega)
  have he := floorDiv_eq (a := a) hb
  refine Evt.next (Evt.chk (bne_pos hb) (Evt.chk (bne_pos hb) (Evt.ite (fun h => ?_) (fun h => ?_)))) (fun n => r106 n a b)
  · have h : Int.tmod a b < 0 := of_decide_eq_true h
    rw [if_pos h] at he
    refine (Evt.some _).of_eq fun n => ?_
    rw [wrap_id (x := Int.tdiv a b) (by omega) (by omega), wrap_id (by omega) (by omega), he]
    rfl
  · have h : ¬ Int.tmod a b < 0 := by simpa using h
    rw [if_neg h] at he
    refine (Evt.some _).of_eq fun n => ?_
    rw [wrap_id (x := Int.tdiv a b) (by omega) (by omega), he]
    rfl
/- impl.mod -/
theorem e91 {a b : Int} (hb : 0 < b) (hb' : b ≤ 1000000000000) (h1 : -1000000000000 ≤ a) (h2 : a ≤ 1000000000000) : Evt (fun n => call T C n 91 (a, b, ())) ((a % b, ()), ()) := by
  have hd := Int.emod_def a b
  have h3 := Int.emod_nonneg a (show b ≠ 0 by omega)
  have h4 := Int.emod_lt_of_pos a hb
  refine Evt.next (Evt.bind (e106 hb (by omega) (by omega)) ((Evt.some _).of_eq fun n => ?_)) (fun n => r91 n a b)
  simp only
  rw [wrap_id (x := b * (a / b)) (by omega) (by omega), ← hd, wrap_id (by omega) (by omega)]
  rfl
/- (impl.Cam).at -/
theorem e81 {l : List Int} (hr : Rng l) (h0 : 0 < (l.length : Int)) (h1 : (l.length : Int) ≤ 1000000) {x : Int} (hx : -4000000 ≤ x) (hx' : x ≤ 4000000) : Evt (fun n => call T C n 81 (l, x, ())) ((cAt l x, ()), ()) := by
  have hp := Int.emod_nonneg x (show (l.length : Int) ≠ 0 by omega)
  have hq := Int.emod_lt_of_pos x h0
  have hv := g_idx (l := l) hp hq
  refine Evt.next (Evt.bind (e50 l) (Evt.bind (e91 (a := x) h0 (by omega) (by omega) (by omega)) (Evt.at hv.idx ((Evt.some _).of_eq fun n => ?_)))) (fun n => r81 n l x)
  rw [hr.id hv.mem]
  rfl
/- (impl.Cam).tips$1$1 -/
theorem e80 {c : List Int} (hr : Rng c) (h0 : 0 < (c.length : Int)) (h1 : (c.length : Int) ≤ 1000000) (hC : ∀ v ∈ c, 0 ≤ v ∧ v ≤ 10000) {x y z : Int} (hx : -4000000 ≤ x) (hx' : x ≤ 4000000) (hy : 0 ≤ y) (hy' : y ≤ 10000) : Evt (fun n => call T C n 80 (x, y, z, c, ())) ((), (max z (cAt c x - y), c, ())) := by
  have hv := hC _ (cAt_mem (by omega) x)
  refine Evt.next (Evt.bind (e81 hr h0 h1 hx hx') ((Evt.some _).of_eq fun n => ?_)) (fun n => r80 n x y z c)
  simp only [wrap_id (x := cAt c x - y) (by omega) (by omega)]
  have : (if cAt c x - y > z then cAt c x - y else z) = max z (cAt c x - y) := by split <;> omega
  rw [this]
  rfl
/- (impl.Cutter).each{(impl.Cam).tips$1$1} -/
theorem e79 {c k : List Int} (hc : Rng c) (hk : Rng k) (hl0 : 0 < c.length) (hl1 : c.length ≤ 1000) (hC : ∀ v ∈ c, 0 ≤ v ∧ v ≤ 10000) (G : GoodK k) {s : Int} (h0 : 0 ≤ s) (h1 : s ≤ 1000000) : Evt (fun n => call T C n 79 (k, s, ((), 0, c, ()), ())) ((), (((), tip c k s, c, ()), ())) := by
  have hd : Int.tdiv (k.length : Int) 2 = ((k.length / 2 : Nat) : Int) := by rw [show (2 : Int) = ((2 : Nat) : Int) from rfl, ← Int.ofNat_tdiv]
  have hhi := G.hi
  refine Evt.next (Evt.chk rfl ?_) (fun n => r79 n k s ((), 0, c, ()))
  rw [hd, wrap_id (x := ((k.length / 2 : Nat) : Int)) (by omega) (by omega)]
  refine for_evt' 0 (k.length : Int) (fun i (_ : Unit) => (s, ((), (tipTo c k s i.toNat, (c, ()))), ((k.length / 2 : Nat) : Int), k, (k.length : Int), i, ())) (fun _ _ => True) (b0 := ()) rfl (by omega) trivial ?_ ?_
  · intro i _ h2 h3 _
    obtain ⟨a, rfl⟩ : ∃ a : Nat, i = a := ⟨i.toNat, by omega⟩
    have hai := g_idx (l := k) (i := (a : Int)) (by omega) (by omega)
    rw [Int.toNat_natCast] at hai
    have hka := G.el a (by omega)
    simp only [Int.toNat_natCast, wr_succ h2 h3 (by omega), wrap_id (x := s + (a : Int)) (by omega) (by omega), wrap_id (x := s + (a : Int) - ((k.length / 2 : Nat) : Int)) (by omega) (by omega)]
    refine Round.yes (decide_eq_true h3) (Round.at hai.idx ?_)
    simp only [hk.id hai.mem]
    refine Round.bind (e80 hc (by omega) (by omega) hC (by omega) (by omega) hka.1 hka.2) (Round.again _ ⟨(), ?_, trivial⟩)
    rw [show ((a : Int) + 1).toNat = a + 1 by omega, tipTo_succ]
    rfl
  · intro _ _
    simp only [Int.toNat_natCast]
    exact Round.no (by simp) (Round.done (Evt.some _))
/- (impl.Cam).tips$1 -/
theorem e78 {c k : List Int} (hc : Rng c) (hk : Rng k) (hl0 : 0 < c.length) (hl1 : c.length ≤ 1000) (hC : ∀ v ∈ c, 0 ≤ v ∧ v ≤ 10000) (G : GoodK k) {s : Int} (h0 : 0 ≤ s) (h1 : s ≤ 1000000) : Evt (fun n => call T C n 78 (s, k, c, ())) ((tip c k s, ()), (k, c, ())) := Evt.next (Evt.bind (e79 hc hk hl0 hl1 hC G h0 h1) (Evt.some _)) (fun n => r78 n s k c)
/- (impl.Cam).numbers{(impl.Cam).tips$1} -/
theorem e77 {c k : List Int} (hc : Rng c) (hk : Rng k) (hl0 : 0 < c.length) (hl1 : c.length ≤ 1000) (hC : ∀ v ∈ c, 0 ≤ v ∧ v ≤ 10000) (G : GoodK k) : Evt (fun n => call T C n 77 (c, ((), k, c, ()), ())) ((tipsL c k c.length, ()), (((), k, c, ()), ())) := by
  refine Evt.next (Evt.bind (e50 c) ?_) (fun n => r77 n c ((), k, c, ()))
  refine for_evt' 0 (c.length : Int) (fun i (_ : Unit) => (((), (k, (c, ()))), tipsL c k i.toNat, (c.length : Int), i, ())) (fun _ _ => True) (b0 := ()) rfl (by omega) trivial ?_ ?_
  · intro i _ h2 h3 _
    refine Round.yes (decide_eq_true h3) (Round.bind (e78 hc hk hl0 hl1 hC G h2 (show i ≤ 1000000 by omega)) (Round.chk (by simp [tipsL_len]; omega) (Round.again _ ⟨(), ?_, trivial⟩)))
    rw [tipsL_succ c k h2, wr_succ h2 h3 (by omega)]
  · intro _ _
    simp only [Int.toNat_natCast]
    exact Round.no (by simp) (Round.done (Evt.some _))
/- (impl.Cam).tips -/
theorem e38 {c k : List Int} (hc : Rng c) (hk : Rng k) (hl0 : 0 < c.length) (hl1 : c.length ≤ 1000) (hC : ∀ v ∈ c, 0 ≤ v ∧ v ≤ 10000) (G : GoodK k) : Evt (fun n => call T C n 38 (c, k, ())) ((tipsL c k c.length, ()), ()) := Evt.next (Evt.bind (e77 hc hk hl0 hl1 hC G) (Evt.some _)) (fun n => r38 n c k)
/- slices.Min[[]int64,int64] -/
theorem e39 (l : List Int) (hlen : (l.length : Int) ≤ 1000000) (h0 : 0 < (l.length : Int)) : Evt (fun n => call T C n 39 (l, ())) ((mnL l, ()), ()) := by
  obtain ⟨v0, hv0⟩ := at_of (l := l) (Int.le_refl 0) h0
  refine Evt.next (Evt.no (by simp; omega) (Evt.at hv0.idx ?_)) (fun n => r39 n l)
  have hh := (head_at hv0).1
  refine for_evt' 1 (l.length : Int) (fun i (_ : Unit) => (l, mnF (l.take i.toNat) v0, i, ())) (fun _ _ => True) (b0 := ()) (by
    have := (head_at hv0).2
    show _ = (l, mnF (l.take 1) v0, 1, ())
    rw [this]; simp [mnF]) (by omega) trivial ?_ ?_
  · intro i _ h2 h3 _
    obtain ⟨v, hv⟩ := at_of (l := l) (show 0 ≤ i by omega) h3
    simp only [wrap_id (x := i + 1) (by omega) (by omega)]
    refine Round.yes (decide_eq_true h3) (Round.at hv.idx (Round.again _ ⟨(), ?_, trivial⟩))
    rw [hv.take, mnF_snoc]
    congr 2
    split <;> omega
  · intro _ _
    have e2 : mnF (l.take (l.length : Int).toNat) v0 = mnL l := by rw [take_all, mnL, hh]
    simp only [e2]
    exact Round.no (by simp) (Round.done (Evt.some _))
/- impl.PlanCuts -/
theorem eIR {c : List Int} {high : Int} {K : List (List Int)} {w deep : Int} (hc : Rng c) (hk : RngS K) (P : GoodP c high K w deep) : Evt (fun n => (idx K w).bind fun v7 => (call T C n 38 (c, v7, ())).bind fun r8 => loopK (fun (x10 : Int × Int × (List Int) × (List (Int × (Int × (Int × Unit)))) × Int × Unit) again11 => loopK (fun (x13 : Int × Int × (List Int) × (List (Int × (Int × (Int × Unit)))) × Int × Int × (List Int) × Int × Int × Unit) again14 => (if (decide (x13.2.2.2.2.2.2.2.2.1 < x13.2.2.2.2.2.2.2.1)) = true then (idx x13.2.2.2.2.2.2.1 x13.2.2.2.2.2.2.2.2.1).bind fun v16 => (if (decide (v16 ≥ x13.2.2.2.2.1)) = true then again14 (x13.1, x13.2.1, x13.2.2.1, x13.2.2.2.1, x13.2.2.2.2.1, x13.2.2.2.2.2.1, x13.2.2.2.2.2.2.1, x13.2.2.2.2.2.2.2.1, (wr .i64 (x13.2.2.2.2.2.2.2.2.1 + (1 : Int))), ()) else (if ((x13.2.2.2.1.length : Int) == (400 : Int)) = true then some ((([] : (List (Int × (Int × (Int × Unit))))), (3 : Int), ()), (())) else chk (decide ((x13.2.2.2.1.length + ([((wr .i16 x13.2.2.2.2.2.2.2.2.1), ((wr .i16 (if v16 > x13.2.2.2.2.2.1 then v16 else x13.2.2.2.2.2.1)), ((wr .i8 x13.1), ())))] : (List (Int × (Int × (Int × Unit))))).length) * 6 ≤ 140737488355328)) (again14 (x13.1, x13.2.1, x13.2.2.1, (x13.2.2.2.1 ++ ([((wr .i16 x13.2.2.2.2.2.2.2.2.1), ((wr .i16 (if v16 > x13.2.2.2.2.2.1 then v16 else x13.2.2.2.2.2.1)), ((wr .i8 x13.1), ())))] : (List (Int × (Int × (Int × Unit)))))), x13.2.2.2.2.1, x13.2.2.2.2.2.1, x13.2.2.2.2.2.2.1, x13.2.2.2.2.2.2.2.1, (wr .i64 (x13.2.2.2.2.2.2.2.2.1 + (1 : Int))), ())))) else (call T C n 39 (x13.2.2.1, ())).bind fun r17 => (if (decide (x13.2.2.2.2.2.1 ≤ r17.1.1)) = true then some ((x13.2.2.2.1, (0 : Int), ()), (())) else again11 (x13.1, x13.2.1, x13.2.2.1, x13.2.2.2.1, x13.2.2.2.2.2.1, ())))) n (x10.1, x10.2.1, x10.2.2.1, x10.2.2.2.1, x10.2.2.2.2.1, (if (0 : Int) > (wr .i64 (x10.2.2.2.2.1 - x10.2.1)) then (0 : Int) else (wr .i64 (x10.2.2.2.2.1 - x10.2.1))), x10.2.2.1, (x10.2.2.1.length : Int), (0 : Int), ())) n (w, deep, r8.1.1, ([] : (List (Int × (Int × (Int × Unit))))), high, ())) (pl (tipsL c (K.getD w.toNat []) c.length) deep w (high.toNat + 1) high [], ()) := by
  obtain ⟨k, hk'⟩ := at_of (l := K) P.w.1 P.w.2
  have hkd : K.getD w.toNat [] = k := getD_at hk'
  rw [hkd]
  have hcl := okC_len P.hc
  have hC := okC_el P.hc hc
  have Gk : GoodK k := (goodKs hk P.hk).el k hk'.mem
  have hl0 : 0 < c.length := by omega
  have hl1 : c.length ≤ 1000 := by omega
  have hn := P.n
  have hhi := P.hi
  have hw := P.w
  have hdp := P.d
  obtain ⟨t, ht⟩ : ∃ t, t = tipsL c k c.length := ⟨_, rfl⟩
  have htl : t.length = c.length := by rw [ht, tipsL_len]
  have hte : ∀ v ∈ t, 0 ≤ v ∧ v ≤ 10000 := by rw [ht]; exact tipsL_el hl0 hC Gk
  have hmn : 0 ≤ mnL t := by
    obtain ⟨v0, hv0⟩ := at_of (l := t) (Int.le_refl 0) (by omega)
    have := hte v0 hv0.mem
    unfold mnL
    rw [(head_at hv0).1]
    exact mnF_le t v0 0 this.1 (fun v hv => (hte v hv).1)
  refine Evt.at hk'.idx (Evt.bind (e38 hc (hk.el k hk'.mem) hl0 hl1 hC Gk) ?_)
  rw [← ht]
  refine loop_evt (fun x => ∃ (f : Nat) (above : Int) (o : List Ct), x = (w, deep, t, o, above, ()) ∧ 0 ≤ above ∧ above ≤ 10000 ∧ above.toNat < f ∧ o.length ≤ 400 ∧ pl t deep w f above o = pl t deep w (high.toNat + 1) high []) (fun x => (x.2.2.2.2.1).toNat) ⟨high.toNat + 1, high, [], rfl, hhi.1, hhi.2, by omega, by simp, rfl⟩ ?_
  rintro x ⟨f, above, o, rfl, ha0, ha1, hf, ho, he⟩
  obtain ⟨f, rfl⟩ : ∃ f', f = f' + 1 := ⟨f - 1, by omega⟩
  have wab : wr .i64 (above - deep) = above - deep := wrap_id (by omega) (by omega)
  have hmx : (if (0 : Int) > wr .i64 (above - deep) then (0 : Int) else wr .i64 (above - deep)) = max (above - deep) 0 := by rw [wab]; split <;> omega
  show Round (fun n ag => loopK _ n (w, deep, t, o, above, (if (0 : Int) > wr .i64 (above - deep) then (0 : Int) else wr .i64 (above - deep)), t, (t.length : Int), 0, ())) _ _
  rw [hmx]
  have hly : 0 ≤ max (above - deep) 0 ∧ max (above - deep) 0 ≤ 10000 := by omega
  rw [← he]
  refine for_round' 0 (t.length : Int) (fun s (p : List Ct) => (w, deep, t, p, above, max (above - deep) 0, t, (t.length : Int), s, ())) (fun s p => la t above (max (above - deep) 0) w s.toNat o = some p ∧ p.length ≤ 400) (b0 := o) rfl (by omega) ⟨rfl, ho⟩ ?_ ?_
  · intro s p s0 s1 ⟨hp, hpl⟩
    obtain ⟨v, hv⟩ := at_of (l := t) s0 s1
    have hvb := hte v hv.mem
    have hg := g_at hv
    have hla : la t above (max (above - deep) 0) w (s + 1).toNat o = if v ≥ above then some p else if p.length = 400 then none else some (p ++ [(s, max (max (above - deep) 0) v, w, ())]) := by
      rw [show (s + 1).toNat = s.toNat + 1 by omega, la, hp, Option.bind_some, hg, show ((s.toNat : Nat) : Int) = s by omega]
    refine Round.yes (decide_eq_true s1) (Round.at hv.idx (Round.ite (fun h => ?_) (fun h => ?_)))
    · have h : v ≥ above := of_decide_eq_true h
      refine Round.inr _ ⟨p, ?_, by rw [hla, if_pos h], hpl⟩
      show (w, deep, t, p, above, max (above - deep) 0, t, (t.length : Int), wr .i64 (s + 1), ()) = _
      rw [wr_succ s0 s1 (by omega)]
    have h : ¬ v ≥ above := by simpa using h
    rw [if_neg h] at hla
    refine Round.ite (fun h4 => ?_) (fun h4 => ?_)
    · have h4 : p.length = 400 := by
        have : (p.length : Int) = 400 := by simpa using h4
        omega
      rw [if_pos h4] at hla
      have hn := la_none t above _ w hla t.length (by omega)
      have : pl t deep w (f + 1) above o = ([], 3, ()) := by simp only [pl]; rw [hn]
      rw [this]
      exact Round.done (Evt.some _)
    have h4 : ¬ p.length = 400 := by
      have : ¬ (p.length : Int) = 400 := by simpa using h4
      omega
    rw [if_neg h4] at hla
    have hmv : (if v > max (above - deep) 0 then v else max (above - deep) 0) = max (max (above - deep) 0) v := by split <;> omega
    refine Round.chk (decide_eq_true (by simp; omega)) (Round.inr _ ⟨p ++ [(s, max (max (above - deep) 0) v, w, ())], ?_, hla, by simp; omega⟩)
    show (w, deep, t, p ++ [(wr .i16 s, wr .i16 (if v > max (above - deep) 0 then v else max (above - deep) 0), wr .i8 w, ())], above, max (above - deep) 0, t, (t.length : Int), wr .i64 (s + 1), ()) = _
    rw [wr_succ s0 s1 (by omega), hmv, wrap16 (x := s) (by omega) (by omega), wrap16 (by omega) (by omega), wrap8 (by omega) (by omega)]
  · intro p ⟨hp, hpl⟩
    rw [Int.toNat_natCast] at hp
    have hpe : pl t deep w (f + 1) above o = if max (above - deep) 0 ≤ mnL t then (p, 0, ()) else pl t deep w f (max (above - deep) 0) p := by simp only [pl]; rw [hp]
    rw [hpe]
    refine Round.no (by simp) (Round.bind (e39 t (by omega) (by omega)) (Round.ite (fun h => ?_) (fun h => ?_)))
    · rw [if_pos (of_decide_eq_true h)]
      exact Round.done (Evt.some _)
    · have h : ¬ max (above - deep) 0 ≤ mnL t := by simpa using h
      rw [if_neg h]
      refine Round.inl _ ⟨⟨f, max (above - deep) 0, p, rfl, hly.1, hly.2, by omega, hpl, rfl⟩, ?_⟩
      show (max (above - deep) 0).toNat < above.toNat
      omega
theorem eIT {c : List Int} {high : Int} {K : List (List Int)} {w deep : Int} (hc : Rng c) (hk : RngS K) (X : Int) (hX : X = if (okC c && inR (K.length : Int) 1 8 && okKs K) = true then 0 else 1) : Evt (fun n => (call T C n 34 (high, ())).bind fun r3 => (if (!r3.1.1) = true then (call T C n 30 (true, (2 : Int), ())).bind fun r4 => (call T C n 29 (([X, r4.1.1] : (List Int)), ())).bind fun r5 => (if (r5.1.1 != (0 : Int)) = true then some ((([] : (List (Int × (Int × (Int × Unit))))), r5.1.1, ()), (())) else (call T C n 37 (c, ())).bind fun r6 => (if (decide ((wr .i64 r6.1.1) > high)) = true then some ((([] : (List (Int × (Int × (Int × Unit))))), (4 : Int), ()), (())) else (idx K w).bind fun v7 => (call T C n 38 (c, v7, ())).bind fun r8 => loopK (fun (x10 : Int × Int × (List Int) × (List (Int × (Int × (Int × Unit)))) × Int × Unit) again11 => loopK (fun (x13 : Int × Int × (List Int) × (List (Int × (Int × (Int × Unit)))) × Int × Int × (List Int) × Int × Int × Unit) again14 => (if (decide (x13.2.2.2.2.2.2.2.2.1 < x13.2.2.2.2.2.2.2.1)) = true then (idx x13.2.2.2.2.2.2.1 x13.2.2.2.2.2.2.2.2.1).bind fun v16 => (if (decide (v16 ≥ x13.2.2.2.2.1)) = true then again14 (x13.1, x13.2.1, x13.2.2.1, x13.2.2.2.1, x13.2.2.2.2.1, x13.2.2.2.2.2.1, x13.2.2.2.2.2.2.1, x13.2.2.2.2.2.2.2.1, (wr .i64 (x13.2.2.2.2.2.2.2.2.1 + (1 : Int))), ()) else (if ((x13.2.2.2.1.length : Int) == (400 : Int)) = true then some ((([] : (List (Int × (Int × (Int × Unit))))), (3 : Int), ()), (())) else chk (decide ((x13.2.2.2.1.length + ([((wr .i16 x13.2.2.2.2.2.2.2.2.1), ((wr .i16 (if v16 > x13.2.2.2.2.2.1 then v16 else x13.2.2.2.2.2.1)), ((wr .i8 x13.1), ())))] : (List (Int × (Int × (Int × Unit))))).length) * 6 ≤ 140737488355328)) (again14 (x13.1, x13.2.1, x13.2.2.1, (x13.2.2.2.1 ++ ([((wr .i16 x13.2.2.2.2.2.2.2.2.1), ((wr .i16 (if v16 > x13.2.2.2.2.2.1 then v16 else x13.2.2.2.2.2.1)), ((wr .i8 x13.1), ())))] : (List (Int × (Int × (Int × Unit)))))), x13.2.2.2.2.1, x13.2.2.2.2.2.1, x13.2.2.2.2.2.2.1, x13.2.2.2.2.2.2.2.1, (wr .i64 (x13.2.2.2.2.2.2.2.2.1 + (1 : Int))), ())))) else (call T C n 39 (x13.2.2.1, ())).bind fun r17 => (if (decide (x13.2.2.2.2.2.1 ≤ r17.1.1)) = true then some ((x13.2.2.2.1, (0 : Int), ()), (())) else again11 (x13.1, x13.2.1, x13.2.2.1, x13.2.2.2.1, x13.2.2.2.2.2.1, ())))) n (x10.1, x10.2.1, x10.2.2.1, x10.2.2.2.1, x10.2.2.2.2.1, (if (0 : Int) > (wr .i64 (x10.2.2.2.2.1 - x10.2.1)) then (0 : Int) else (wr .i64 (x10.2.2.2.2.1 - x10.2.1))), x10.2.2.1, (x10.2.2.1.length : Int), (0 : Int), ())) n (w, deep, r8.1.1, ([] : (List (Int × (Int × (Int × Unit))))), high, ()))) else (call T C n 35 (w, (K.length : Int), ())).bind fun r18 => (if (bif false then true else (!r18.1.1)) = true then (call T C n 30 (true, (2 : Int), ())).bind fun r19 => (call T C n 29 (([X, r19.1.1] : (List Int)), ())).bind fun r20 => (if (r20.1.1 != (0 : Int)) = true then some ((([] : (List (Int × (Int × (Int × Unit))))), r20.1.1, ()), (())) else (call T C n 37 (c, ())).bind fun r21 => (if (decide ((wr .i64 r21.1.1) > high)) = true then some ((([] : (List (Int × (Int × (Int × Unit))))), (4 : Int), ()), (())) else (idx K w).bind fun v22 => (call T C n 38 (c, v22, ())).bind fun r23 => loopK (fun (x25 : Int × Int × (List Int) × (List (Int × (Int × (Int × Unit)))) × Int × Unit) again26 => loopK (fun (x28 : Int × Int × (List Int) × (List (Int × (Int × (Int × Unit)))) × Int × Int × (List Int) × Int × Int × Unit) again29 => (if (decide (x28.2.2.2.2.2.2.2.2.1 < x28.2.2.2.2.2.2.2.1)) = true then (idx x28.2.2.2.2.2.2.1 x28.2.2.2.2.2.2.2.2.1).bind fun v31 => (if (decide (v31 ≥ x28.2.2.2.2.1)) = true then again29 (x28.1, x28.2.1, x28.2.2.1, x28.2.2.2.1, x28.2.2.2.2.1, x28.2.2.2.2.2.1, x28.2.2.2.2.2.2.1, x28.2.2.2.2.2.2.2.1, (wr .i64 (x28.2.2.2.2.2.2.2.2.1 + (1 : Int))), ()) else (if ((x28.2.2.2.1.length : Int) == (400 : Int)) = true then some ((([] : (List (Int × (Int × (Int × Unit))))), (3 : Int), ()), (())) else chk (decide ((x28.2.2.2.1.length + ([((wr .i16 x28.2.2.2.2.2.2.2.2.1), ((wr .i16 (if v31 > x28.2.2.2.2.2.1 then v31 else x28.2.2.2.2.2.1)), ((wr .i8 x28.1), ())))] : (List (Int × (Int × (Int × Unit))))).length) * 6 ≤ 140737488355328)) (again29 (x28.1, x28.2.1, x28.2.2.1, (x28.2.2.2.1 ++ ([((wr .i16 x28.2.2.2.2.2.2.2.2.1), ((wr .i16 (if v31 > x28.2.2.2.2.2.1 then v31 else x28.2.2.2.2.2.1)), ((wr .i8 x28.1), ())))] : (List (Int × (Int × (Int × Unit)))))), x28.2.2.2.2.1, x28.2.2.2.2.2.1, x28.2.2.2.2.2.2.1, x28.2.2.2.2.2.2.2.1, (wr .i64 (x28.2.2.2.2.2.2.2.2.1 + (1 : Int))), ())))) else (call T C n 39 (x28.2.2.1, ())).bind fun r32 => (if (decide (x28.2.2.2.2.2.1 ≤ r32.1.1)) = true then some ((x28.2.2.2.1, (0 : Int), ()), (())) else again26 (x28.1, x28.2.1, x28.2.2.1, x28.2.2.2.1, x28.2.2.2.2.2.1, ())))) n (x25.1, x25.2.1, x25.2.2.1, x25.2.2.2.1, x25.2.2.2.2.1, (if (0 : Int) > (wr .i64 (x25.2.2.2.2.1 - x25.2.1)) then (0 : Int) else (wr .i64 (x25.2.2.2.2.1 - x25.2.1))), x25.2.2.1, (x25.2.2.1.length : Int), (0 : Int), ())) n (w, deep, r23.1.1, ([] : (List (Int × (Int × (Int × Unit))))), high, ()))) else (call T C n 36 (deep, (1 : Int), (10000 : Int), ())).bind fun r33 => (call T C n 30 ((bif false then true else (!r33.1.1)), (2 : Int), ())).bind fun r34 => (call T C n 29 (([X, r34.1.1] : (List Int)), ())).bind fun r35 => (if (r35.1.1 != (0 : Int)) = true then some ((([] : (List (Int × (Int × (Int × Unit))))), r35.1.1, ()), (())) else (call T C n 37 (c, ())).bind fun r36 => (if (decide ((wr .i64 r36.1.1) > high)) = true then some ((([] : (List (Int × (Int × (Int × Unit))))), (4 : Int), ()), (())) else (idx K w).bind fun v37 => (call T C n 38 (c, v37, ())).bind fun r38 => loopK (fun (x40 : Int × Int × (List Int) × (List (Int × (Int × (Int × Unit)))) × Int × Unit) again41 => loopK (fun (x43 : Int × Int × (List Int) × (List (Int × (Int × (Int × Unit)))) × Int × Int × (List Int) × Int × Int × Unit) again44 => (if (decide (x43.2.2.2.2.2.2.2.2.1 < x43.2.2.2.2.2.2.2.1)) = true then (idx x43.2.2.2.2.2.2.1 x43.2.2.2.2.2.2.2.2.1).bind fun v46 => (if (decide (v46 ≥ x43.2.2.2.2.1)) = true then again44 (x43.1, x43.2.1, x43.2.2.1, x43.2.2.2.1, x43.2.2.2.2.1, x43.2.2.2.2.2.1, x43.2.2.2.2.2.2.1, x43.2.2.2.2.2.2.2.1, (wr .i64 (x43.2.2.2.2.2.2.2.2.1 + (1 : Int))), ()) else (if ((x43.2.2.2.1.length : Int) == (400 : Int)) = true then some ((([] : (List (Int × (Int × (Int × Unit))))), (3 : Int), ()), (())) else chk (decide ((x43.2.2.2.1.length + ([((wr .i16 x43.2.2.2.2.2.2.2.2.1), ((wr .i16 (if v46 > x43.2.2.2.2.2.1 then v46 else x43.2.2.2.2.2.1)), ((wr .i8 x43.1), ())))] : (List (Int × (Int × (Int × Unit))))).length) * 6 ≤ 140737488355328)) (again44 (x43.1, x43.2.1, x43.2.2.1, (x43.2.2.2.1 ++ ([((wr .i16 x43.2.2.2.2.2.2.2.2.1), ((wr .i16 (if v46 > x43.2.2.2.2.2.1 then v46 else x43.2.2.2.2.2.1)), ((wr .i8 x43.1), ())))] : (List (Int × (Int × (Int × Unit)))))), x43.2.2.2.2.1, x43.2.2.2.2.2.1, x43.2.2.2.2.2.2.1, x43.2.2.2.2.2.2.2.1, (wr .i64 (x43.2.2.2.2.2.2.2.2.1 + (1 : Int))), ())))) else (call T C n 39 (x43.2.2.1, ())).bind fun r47 => (if (decide (x43.2.2.2.2.2.1 ≤ r47.1.1)) = true then some ((x43.2.2.2.1, (0 : Int), ()), (())) else again41 (x43.1, x43.2.1, x43.2.2.1, x43.2.2.2.1, x43.2.2.2.2.2.1, ())))) n (x40.1, x40.2.1, x40.2.2.1, x40.2.2.2.1, x40.2.2.2.2.1, (if (0 : Int) > (wr .i64 (x40.2.2.2.2.1 - x40.2.1)) then (0 : Int) else (wr .i64 (x40.2.2.2.2.1 - x40.2.1))), x40.2.2.1, (x40.2.2.1.length : Int), (0 : Int), ())) n (w, deep, r38.1.1, ([] : (List (Int × (Int × (Int × Unit))))), high, ())))))) (pcR c high K w deep, ()) := by
  have hcl := hc.len'
  have hkl := hk.len'
  have hwk : wr .i64 ((K.length : Int) - 1) = (K.length : Int) - 1 := wrap_id (by omega) (by omega)
  cases h1 : (okC c && inR (K.length : Int) 1 8 && okKs K) with
  | false =>
    have hX : X = 1 := by rw [hX, h1]; rfl
    subst hX
    have hr : pcR c high K w deep = ([], 1, ()) := by unfold pcR pcCode; rw [h1]; rfl
    rw [hr]
    have fin : ∀ y : Int, fst0 [1, y] = 1 := fun y => by simp [fst0]
    refine Evt.bind (e34 high) (Evt.ite (fun _ => ?_) (fun _ => ?_))
    · refine Evt.bind (e30 _ _) (Evt.bind (e29 _ (by simp)) ?_)
      rw [fin]; exact Evt.yes rfl (Evt.some _)
    refine Evt.bind (e35 _ _) (Evt.ite (fun _ => ?_) (fun _ => ?_))
    · refine Evt.bind (e30 _ _) (Evt.bind (e29 _ (by simp)) ?_)
      rw [fin]; exact Evt.yes rfl (Evt.some _)
    refine Evt.bind (e36 _ _ _) (Evt.bind (e30 _ _) (Evt.bind (e29 _ (by simp)) ?_))
    rw [fin]; exact Evt.yes rfl (Evt.some _)
  | true =>
    have hX : X = 0 := by rw [hX, h1]; rfl
    subst hX
    have hh := h1
    simp only [Bool.and_eq_true, inR_iff] at hh
    have hC := okC_len hh.1.1
    have bad : (inR high 0 10000 && inR w 0 ((K.length : Int) - 1) && inR deep 1 10000) = false → pcR c high K w deep = ([], 2, ()) := fun h => by unfold pcR pcCode; rw [h1, h]; rfl
    refine Evt.bind (e34 high) ?_
    cases h2 : inR high 0 10000 with
    | false =>
      rw [bad (by rw [h2]; rfl)]
      exact Evt.yes rfl (Evt.bind (e30 _ _) (Evt.bind (e29 _ (by simp)) (Evt.yes rfl (Evt.some _))))
    | true =>
      refine Evt.no (by simp) (Evt.bind (e35 _ _) ?_)
      rw [hwk]
      cases h3 : inR w 0 ((K.length : Int) - 1) with
      | false =>
        rw [bad (by rw [h2, h3]; rfl)]
        exact Evt.yes rfl (Evt.bind (e30 _ _) (Evt.bind (e29 _ (by simp)) (Evt.yes rfl (Evt.some _))))
      | true =>
        refine Evt.no (by simp) (Evt.bind (e36 _ _ _) (Evt.bind (e30 _ _) (Evt.bind (e29 _ (by simp)) ?_)))
        cases h4 : inR deep 1 10000 with
        | false =>
          rw [bad (by rw [h2, h3, h4]; rfl)]
          exact Evt.yes rfl (Evt.some _)
        | true =>
          refine Evt.no (by decide) (Evt.bind (e37 c hc (by omega)) ?_)
          have hmx : wr .i64 (mxL c) = mxL c := by
            have hm := okC_el hh.1.1 hc
            obtain ⟨v0, hv0⟩ := at_of (l := c) (Int.le_refl 0) (by omega)
            have hv := hm v0 hv0.mem
            have l1 := (mxF_ge c v0).1
            have l2 := mxF_le c v0 10000 hv.2 (fun v hv => (hm v hv).2)
            have e : mxL c = mxF c v0 := by unfold mxL; rw [(head_at hv0).1]
            rw [e]
            exact wrap_id (by omega) (by omega)
          show Evt (fun n => if decide (wr .i64 (mxL c) > high) = true then _ else _) _
          rw [hmx]
          refine Evt.ite (fun h => ?_) (fun h => ?_)
          · have h : mxL c > high := by simpa using h
            have hr : pcR c high K w deep = ([], 4, ()) := by unfold pcR pcCode; rw [h1, h2, h3, h4, if_pos h]; rfl
            rw [hr]
            exact Evt.some _
          · have h : ¬ mxL c > high := by simpa using h
            have hz : pcCode c high K w deep = 0 := by unfold pcCode; rw [h1, h2, h3, h4, if_neg h]; rfl
            have hr : pcR c high K w deep = pl (tipsL c (K.getD w.toNat []) c.length) deep w (high.toNat + 1) high [] := by unfold pcR; rw [hz]; rfl
            rw [hr]
            exact eIR hc hk (goodP h1 (by rw [h2, h3, h4]; rfl))
theorem e9 {c : List Int} {high : Int} {K : List (List Int)} {w deep : Int} (hc : Rng c) (hk : RngS K) : Evt (fun n => call T C n 9 (c, high, K, w, deep, ())) (pcR c high K w deep, ()) := by
  have hcl := hc.len'
  refine Evt.next (Evt.bind (e31 c (by omega)) ?_) (fun n => r9 n c high K w deep)
  cases h1 : okC c with
  | false => exact Evt.yes rfl (Evt.bind (e30 _ _) (eIT hc hk _ (by rw [h1]; rfl)))
  | true =>
    refine Evt.no (by simp) (Evt.bind (e32 K) ?_)
    cases h2 : inR (K.length : Int) 1 8 with
    | false => exact Evt.yes rfl (Evt.bind (e30 _ _) (eIT hc hk _ (by rw [h1, h2]; rfl)))
    | true => exact Evt.no (by simp) (Evt.bind (e33 K hk) (Evt.bind (e30 _ _) (eIT hc hk _ (by rw [h1, h2]; cases okKs K <;> rfl))))
/- spec.l06Some -/
theorem e96 (K : List (List Int)) : Evt (fun n => call T C n 96 (K, ())) ((inR (K.length : Int) 1 8, ()), ()) := Evt.next (Evt.bind (e42 _ _ _) (Evt.some _)) (fun n => r96 n K)
/- spec.l06Ok -/
theorem e92 (k : List Int) (hr : Rng k) : Evt (fun n => call T C n 92 (k, ())) ((okK k, ()), ()) := by
  have hl := hr.len'
  refine Evt.next (Evt.bind (e42 _ _ _) ?_) (fun n => r92 n k)
  unfold okK
  cases h1 : inR (k.length : Int) 1 31 with
  | false => exact Evt.yes rfl (Evt.some _)
  | true =>
    have hb := inR_iff.1 h1
    have hm : Int.tmod (k.length : Int) 2 = ((k.length % 2 : Nat) : Int) := by rw [show (2 : Int) = ((2 : Nat) : Int) from rfl, ← Int.ofNat_tmod]
    have hd : Int.tdiv (k.length : Int) 2 = ((k.length / 2 : Nat) : Int) := by rw [show (2 : Int) = ((2 : Nat) : Int) from rfl, ← Int.ofNat_tdiv]
    rw [hm, hd, wrap_id (x := ((k.length / 2 : Nat) : Int)) (by omega) (by omega)]
    refine Evt.no (by simp) (Evt.chk rfl (Evt.ite (fun h => ?_) (fun h => ?_)))
    · have h : k.length % 2 = 0 := by
        have h' : (k.length : Int) % 2 = 0 := by simpa using h
        omega
      have e : decide (k.length % 2 = 1) = false := decide_eq_false (by omega)
      rw [e]; exact Evt.some _
    · have h : k.length % 2 = 1 := by
        have h' : ¬ (k.length : Int) % 2 = 0 := by simpa using h
        omega
      have e : decide (k.length % 2 = 1) = true := decide_eq_true h
      rw [e]
      have hmid := g_idx (l := k) (i := ((k.length / 2 : Nat) : Int)) (by omega) (by omega)
      rw [Int.toNat_natCast] at hmid
      refine Evt.chk rfl (Evt.at hmid.idx (Evt.ite (fun h0 => ?_) (fun h0 => ?_)))
      · have h0 : (g k (k.length / 2) == 0) = false := by simpa using h0
        rw [h0]; exact Evt.some _
      · have h0 : (g k (k.length / 2) == 0) = true := by simpa using h0
        rw [h0]
        simp only [Bool.true_and]
        refine for_evt' 0 (((k.length / 2 : Nat) : Int) + 1) (fun i (_ : Unit) => (k, (k.length : Int), i, ())) (fun i _ => allTo (kOne k) i.toNat = true) (b0 := ()) rfl (by omega) (by rfl) ?_ ?_
        · intro i _ h2 h3 hp
          obtain ⟨a, rfl⟩ : ∃ a : Nat, i = a := ⟨i.toNat, by omega⟩
          rw [Int.toNat_natCast] at hp
          have h3' : a < k.length / 2 + 1 := by omega
          have hai := g_idx (l := k) (i := (a : Int)) (by omega) (by omega)
          have haj := g_idx (l := k) (i := (k.length : Int) - 1 - a) (by omega) (by omega)
          rw [Int.toNat_natCast] at hai
          rw [show ((k.length : Int) - 1 - a).toNat = k.length - 1 - a by omega] at haj
          have bad : kOne k a = false → allTo (kOne k) (k.length / 2 + 1) = false := allTo_false h3'
          simp only [hd, wrap_id (x := ((k.length / 2 : Nat) : Int)) (by omega) (by omega), wrap_id (x := (a : Int) + 1) (by omega) (by omega), wrap_id (x := (a : Int) - 1) (by omega) (by omega), wrap_id (x := (k.length : Int) - 1) (by omega) (by omega), wrap_id (x := (k.length : Int) - 1 - (a : Int)) (by omega) (by omega)]
          refine Round.chk rfl (Round.yes (decide_eq_true (by omega)) (Round.at hai.idx (Round.bind (e41 _) (Round.ite (fun c1 => ?_) (fun c1 => ?_)))))
          · have c1 : inR (wr .i64 (g k a)) 0 10000 = false := by simpa using c1
            rw [bad (by simp [kOne, c1])]
            exact Round.done (Evt.some _)
          have c1 : inR (wr .i64 (g k a)) 0 10000 = true := by simpa using c1
          refine Round.at haj.idx (Round.at hai.idx (Round.ite (fun c2 => ?_) (fun c2 => ?_)))
          · have c2 : (g k (k.length - 1 - a) == g k a) = false := by simpa using c2
            rw [bad (by simp [kOne, c2])]
            exact Round.done (Evt.some _)
          have c2 : (g k (k.length - 1 - a) == g k a) = true := by simpa using c2
          have again : kOne k a = true → ∃ b' : Unit, ((k, (k.length : Int), (a : Int) + 1, ()) : List Int × Int × Int × Unit) = (k, (k.length : Int), (a : Int) + 1, ()) ∧ allTo (kOne k) ((a : Int) + 1).toNat = true := fun h => ⟨(), rfl, by rw [show ((a : Int) + 1).toNat = a + 1 by omega, allTo_succ, hp, h]; rfl⟩
          refine Round.ite (fun c3 => ?_) (fun c3 => ?_)
          · have c3 : (a : Int) > 0 := of_decide_eq_true c3
            have hab := g_idx (l := k) (i := (a : Int) - 1) (by omega) (by omega)
            rw [show ((a : Int) - 1).toNat = a - 1 by omega] at hab
            refine Round.at hab.idx (Round.at hai.idx (Round.ite (fun c4 => ?_) (fun c4 => ?_)))
            · have c4 : g k (a - 1) < g k a := by simpa using c4
              rw [bad (by simp [kOne, c4]; omega)]
              exact Round.done (Evt.some _)
            · have c4 : ¬ g k (a - 1) < g k a := by simpa using c4
              exact Round.again _ (again (by simp only [kOne, c1, c2]; simp; omega))
          · have c3 : ¬ (a : Int) > 0 := by simpa using c3
            exact Round.no (by simp) (Round.again _ (again (by simp only [kOne, c1, c2]; simp; omega)))
        · intro _ hp
          have hp : allTo (kOne k) (k.length / 2 + 1) = true := by
            rw [show (((k.length / 2 : Nat) : Int) + 1).toNat = k.length / 2 + 1 by omega] at hp; exact hp
          rw [hp]
          simp only [hd, wrap_id (x := ((k.length / 2 : Nat) : Int)) (by omega) (by omega)]
          exact Round.chk rfl (Round.no (by simp; omega) (Round.done (Evt.some _)))
/- spec.l06Cutters -/
theorem e97 (K : List (List Int)) (hr : RngS K) : Evt (fun n => call T C n 97 (K, ())) ((okKs K, ()), ()) := by
  have hl := hr.len'
  refine Evt.next ?_ (fun n => r97 n K)
  refine for_evt' 0 (K.length : Int) (fun i (_ : Unit) => (K, i, ())) (fun i _ => okKs K = (K.drop i.toNat).all okK) (b0 := ()) rfl (by omega) (by simp [okKs]) ?_ ?_
  · intro i _ h2 h3 hp
    obtain ⟨v, hv⟩ := at_of h2 h3
    rw [hv.drop, List.all_cons] at hp
    refine Round.yes (decide_eq_true h3) (Round.at hv.idx (Round.bind (e92 v (hr.el v hv.mem)) ?_))
    cases hb : okK v with
    | false => rw [hp, hb]; exact Round.yes rfl (Round.done (Evt.some _))
    | true =>
      rw [hb, Bool.true_and] at hp
      exact Round.no (by simp) (Round.again _ ⟨(), by rw [wr_succ h2 h3 (by omega)], hp⟩)
  · intro _ hp
    rw [drop_all] at hp
    rw [hp]
    exact Round.no (by simp) (Round.done (Evt.some _))
/- spec.l06Plain -/
theorem e98 (l : List Ct) (m : Int) : Evt (fun n => call T C n 98 (l, m, ())) ((okCt l m, ()), ()) := by
  refine Evt.next ?_ (fun n => r98 n l m)
  unfold okCt
  refine Evt.ite (fun h => ?_) (fun h => ?_)
  · have h : (l.length : Int) > 400 := of_decide_eq_true h
    rw [decide_eq_false (show ¬ (l.length : Int) ≤ 400 by omega)]
    exact Evt.some _
  have h : ¬ (l.length : Int) > 400 := by simpa using h
  rw [decide_eq_true (show (l.length : Int) ≤ 400 by omega)]
  simp only [Bool.true_and]
  refine for_evt' 0 (l.length : Int) (fun i (_ : Unit) => (l, m, i, ())) (fun i _ => l.all (ctOk m) = (l.drop i.toNat).all (ctOk m)) (b0 := ()) rfl (by omega) (by simp) ?_ ?_
  · intro i _ h2 h3 hp
    obtain ⟨v, hv⟩ := at_of h2 h3
    have bad : ctOk m v = false → l.all (ctOk m) = false := all_false hv.mem
    rw [hv.drop, List.all_cons] at hp
    refine Round.yes (decide_eq_true h3) (Round.at hv.idx (Round.bind (e42 _ _ _) ?_))
    cases c1 : inR (wr .i64 v.1) 0 359 with
    | false => rw [bad (by simp [ctOk, c1])]; exact Round.yes rfl (Round.done (Evt.some _))
    | true =>
      refine Round.no (by simp) (Round.bind (e41 _) ?_)
      cases c2 : inR (wr .i64 v.2.1) 0 10000 with
      | false => rw [bad (by simp [ctOk, c2])]; exact Round.yes rfl (Round.done (Evt.some _))
      | true =>
        refine Round.no (by simp) (Round.bind (e42 _ _ _) ?_)
        cases c3 : inR (wr .i64 v.2.2.1) 0 (wr .i64 (m - 1)) with
        | false => rw [bad (by simp [ctOk, c3])]; exact Round.yes rfl (Round.done (Evt.some _))
        | true =>
          have : ctOk m v = true := by simp [ctOk, c1, c2, c3]
          rw [this, Bool.true_and] at hp
          exact Round.no (by simp) (Round.again _ ⟨(), by rw [wr_succ h2 h3 (by omega)], hp⟩)
  · intro _ hp
    rw [drop_all] at hp
    rw [hp]
    exact Round.no (by simp) (Round.done (Evt.some _))
/- spec.l06Cuts -/
theorem e62 (l : List Ct) (K : List (List Int)) (hk : RngS K) : Evt (fun n => call T C n 62 (l, K, ())) ((okCuts l K, ()), ()) := by
  refine Evt.next (Evt.bind (e96 K) ?_) (fun n => r62 n l K)
  unfold okCuts
  cases inR (K.length : Int) 1 8 with
  | false => exact Evt.no (by simp) (Evt.some _)
  | true =>
    refine Evt.yes rfl (Evt.bind (e97 K hk) ?_)
    cases okKs K with
    | false => exact Evt.no (by simp) (Evt.some _)
    | true => exact Evt.yes rfl (Evt.bind (e98 l _) (Evt.some _))
/- spec.l06On -/
theorem e63 (l : List Ct) (hr : RngC l) (m : Int) : Evt (fun n => call T C n 63 (l, m, ())) ((onCt l m, ()), ()) := by
  have hl := hr.len'
  refine Evt.next ?_ (fun n => r63 n l m)
  refine for_evt' 0 (l.length : Int) (fun i (_ : Unit) => (l, m, i, ())) (fun i _ => onCt l m = onCt (l.drop i.toNat) m) (b0 := ()) rfl (by omega) (by simp) ?_ ?_
  · intro i _ h2 h3 hp
    obtain ⟨v, hv⟩ := at_of h2 h3
    rw [hv.drop] at hp
    simp only [onCt, List.all_cons] at hp
    refine Round.yes (decide_eq_true h3) (Round.at hv.idx (Round.ite (fun hb => ?_) (fun hb => ?_)))
    · have e : onCt l m = false := by unfold onCt; rw [hp, hb]; rfl
      rw [e]; exact Round.done (Evt.some _)
    · have hb : decide (wr .i64 v.1 ≥ m) = false := by simpa using hb
      refine Round.again _ ⟨(), by rw [wr_succ h2 h3 (by omega)], ?_⟩
      unfold onCt
      rw [hp, hb]; rfl
  · intro _ hp
    rw [drop_all] at hp
    rw [hp]
    exact Round.no (by simp) (Round.done (Evt.some _))
/- spec.l06Given -/
theorem e40 (c : List Int) (K : List (List Int)) (l : List Ct) (hc : Rng c) (hk : RngS K) (hr : RngC l) : Evt (fun n => call T C n 40 (c, K, l, ())) ((gvCode c K l, ()), ()) := by
  have hcl := hc.len'
  refine Evt.next (Evt.bind (e27 c (by omega)) ?_) (fun n => r40 n c K l)
  unfold gvCode
  cases okC c with
  | false => exact Evt.yes rfl (Evt.some _)
  | true =>
    refine Evt.no (by simp) (Evt.bind (e62 l K hk) ?_)
    cases okCuts l K with
    | false => exact Evt.yes rfl (Evt.some _)
    | true =>
      refine Evt.no (by simp) (Evt.bind (e63 l hr _) ?_)
      cases onCt l c.length with
      | false => exact Evt.yes rfl (Evt.some _)
      | true => exact Evt.no (by simp) (Evt.some _)
/- spec.l06Over -/
theorem e43 (c : List Int) (hr : Rng c) (h0 : 0 < (c.length : Int)) (x : Int) : Evt (fun n => call T C n 43 (c, x, ())) ((decide (mxL c > x), ()), ()) := Evt.next (Evt.bind (e28 c hr h0) (Evt.some _)) (fun n => r43 n c x)
/- spec.l01At -/
theorem e104 {l : List Int} (hr : Rng l) (h0 : 0 < (l.length : Int)) (h1 : (l.length : Int) ≤ 1000000) {x : Int} (hx : -4000000 ≤ x) (hx' : x ≤ 4000000) : ∃ v, l[(x % l.length).toNat]? = some v ∧ v ∈ l ∧ Evt (fun n => call T C n 104 (l, x, ())) ((v, ()), ()) := by
  have hp := Int.emod_nonneg x (show (l.length : Int) ≠ 0 by omega)
  obtain ⟨v, hv⟩ := at_of (l := l) hp (Int.emod_lt_of_pos x h0)
  refine ⟨v, hv.get, hv.mem, ?_⟩
  refine Evt.next (Evt.chk (bne_pos h0) (Evt.chk (bne_pos h0) ?_)) (fun n => r104 n l x)
  rw [turn_at h0 h1 hx hx']
  refine Evt.at hv.idx ((Evt.some _).of_eq fun n => ?_)
  rw [hr.id hv.mem]
  rfl
theorem e104' {l : List Int} (hr : Rng l) (h0 : 0 < (l.length : Int)) (h1 : (l.length : Int) ≤ 1000000) {x : Int} (hx : -4000000 ≤ x) (hx' : x ≤ 4000000) : Evt (fun n => call T C n 104 (l, x, ())) ((cAt l x, ()), ()) := by
  obtain ⟨v, hv, hm, he⟩ := e104 hr h0 h1 hx hx'
  have : cAt l x = v := by unfold cAt g; rw [List.getD_eq_getElem?_getD, hv]; rfl
  rw [this]; exact he
/- spec.l06Tip -/
theorem e82 {c k : List Int} (hc : Rng c) (hk : Rng k) (hl0 : 0 < c.length) (hl1 : c.length ≤ 1000) (hC : ∀ v ∈ c, 0 ≤ v ∧ v ≤ 10000) (G : GoodK k) {s : Int} (h0 : 0 ≤ s) (h1 : s ≤ 1000000) : Evt (fun n => call T C n 82 (c, k, s, ())) ((tip c k s, ()), ()) := by
  have hd : Int.tdiv (k.length : Int) 2 = ((k.length / 2 : Nat) : Int) := by rw [show (2 : Int) = ((2 : Nat) : Int) from rfl, ← Int.ofNat_tdiv]
  have hlo := G.lo
  have hhi := G.hi
  have hodd := G.odd
  refine Evt.next (Evt.chk rfl ?_) (fun n => r82 n c k s)
  rw [hd, wrap_id (x := ((k.length / 2 : Nat) : Int)) (by omega) (by omega), wrap_id (x := 0 - ((k.length / 2 : Nat) : Int)) (by omega) (by omega)]
  refine for_evt' 0 (k.length : Int) (fun i (_ : Unit) => (c, k, s, ((k.length / 2 : Nat) : Int), tipTo c k s i.toNat, i - ((k.length / 2 : Nat) : Int), ())) (fun _ _ => True) (b0 := ()) rfl (by omega) trivial ?_ ?_
  · intro i _ h2 h3 _
    obtain ⟨a, rfl⟩ : ∃ a : Nat, i = a := ⟨i.toNat, by omega⟩
    have hai := g_idx (l := k) (i := (a : Int)) (by omega) (by omega)
    rw [Int.toNat_natCast] at hai
    have hbd := tipTo_bd hl0 hC G.el s a (by omega)
    have hck := hC _ (cAt_mem hl0 (s + ((a : Int) - ((k.length / 2 : Nat) : Int))))
    have hka := G.el a (by omega)
    simp only [wrap_id (x := s + ((a : Int) - ((k.length / 2 : Nat) : Int))) (by omega) (by omega), show ((k.length / 2 : Nat) : Int) + ((a : Int) - ((k.length / 2 : Nat) : Int)) = a by omega, wrap_id (x := (a : Int)) (by omega) (by omega), wrap_id (x := (a : Int) - ((k.length / 2 : Nat) : Int) + 1) (by omega) (by omega)]
    refine Round.yes (decide_eq_true (by omega)) (Round.bind (e104' hc (by omega) (by omega) (by omega) (by omega)) (Round.at hai.idx (Round.bind (e46 _ _) (Round.again _ ⟨(), ?_, trivial⟩))))
    rw [hk.id (g_mem (by omega)), wrap_id (x := cAt c (s + ((a : Int) - ((k.length / 2 : Nat) : Int))) - g k a) (by omega) (by omega)]
    rw [show ((a : Int) + 1).toNat = a + 1 by omega, Int.toNat_natCast]
    rw [tipTo_succ]
    unfold half
    rw [show s + ((a : Int) - ((k.length / 2 : Nat) : Int)) = s + (a : Int) - ((k.length / 2 : Nat) : Int) by omega, show (a : Int) - ((k.length / 2 : Nat) : Int) + 1 = (a : Int) + 1 - ((k.length / 2 : Nat) : Int) by omega]
  · intro _ _
    simp only [Int.toNat_natCast]
    exact Round.no (by simp; omega) (Round.done (Evt.some _))
/- spec.l06Tips -/
theorem e44 {c k : List Int} (hc : Rng c) (hk : Rng k) (hl0 : 0 < c.length) (hl1 : c.length ≤ 1000) (hC : ∀ v ∈ c, 0 ≤ v ∧ v ≤ 10000) (G : GoodK k) : Evt (fun n => call T C n 44 (c, k, ())) ((tipsL c k c.length, ()), ()) := by
  refine Evt.next ?_ (fun n => r44 n c k)
  refine for_evt' 0 (c.length : Int) (fun i (_ : Unit) => (c, k, tipsL c k i.toNat, i, ())) (fun _ _ => True) (b0 := ()) rfl (by omega) trivial ?_ ?_
  · intro i _ h2 h3 _
    refine Round.yes (decide_eq_true h3) (Round.bind (e82 hc hk hl0 hl1 hC G h2 (show i ≤ 1000000 by omega)) (Round.chk (by simp [tipsL_len]; omega) (Round.again _ ⟨(), ?_, trivial⟩)))
    rw [tipsL_succ c k h2, wr_succ h2 h3 (by omega)]
  · intro _ _
    simp only [Int.toNat_natCast]
    exact Round.no (by simp) (Round.done (Evt.some _))
/- spec.PlanCuts -/
theorem eSR {c : List Int} {high : Int} {K : List (List Int)} {w deep : Int} (hc : Rng c) (hk : RngS K) (P : GoodP c high K w deep) : Evt (fun n => (idx K w).bind fun v4 => (call T C n 44 (c, v4, ())).bind fun r5 => chk (decide (0 ≤ (0 : Int) ∧ (0 : Int) < (r5.1.1.length : Int))) ((r5.1.1[(Int.toNat (0 : Int))]?).bind fun v7 => loopK (fun (x8 : Int × Int × Int × (List Int) × Int × Int × Unit) again9 => (if (decide (x8.2.2.2.2.2.1 < (x8.2.2.2.1.length : Int))) = true then (idx x8.2.2.2.1 x8.2.2.2.2.2.1).bind fun v10 => (call T C n 45 (x8.2.2.2.2.1, v10, ())).bind fun r11 => again9 (x8.1, x8.2.1, x8.2.2.1, x8.2.2.2.1, r11.1.1, (wr .i64 (x8.2.2.2.2.2.1 + (1 : Int))), ()) else loopK (fun (x12 : Int × Int × (List Int) × Int × (List (Int × (Int × (Int × Unit)))) × Int × Unit) again13 => (call T C n 46 ((wr .i64 (x12.2.2.2.2.2.1 - x12.2.1)), (0 : Int), ())).bind fun r15 => loopK (fun (x16 : Int × Int × (List Int) × Int × (List (Int × (Int × (Int × Unit)))) × Int × Int × Int × Unit) again17 => (if (decide (x16.2.2.2.2.2.2.2.1 < (x16.2.2.1.length : Int))) = true then (idx x16.2.2.1 x16.2.2.2.2.2.2.2.1).bind fun v19 => (if (decide (v19 ≥ x16.2.2.2.2.2.1)) = true then again17 (x16.1, x16.2.1, x16.2.2.1, x16.2.2.2.1, x16.2.2.2.2.1, x16.2.2.2.2.2.1, x16.2.2.2.2.2.2.1, (wr .i64 (x16.2.2.2.2.2.2.2.1 + (1 : Int))), ()) else (if ((x16.2.2.2.2.1.length : Int) == (400 : Int)) = true then some ((([] : (List (Int × (Int × (Int × Unit))))), (3 : Int), ()), (())) else (idx x16.2.2.1 x16.2.2.2.2.2.2.2.1).bind fun v20 => (call T C n 46 (x16.2.2.2.2.2.2.1, v20, ())).bind fun r21 => chk (decide ((x16.2.2.2.2.1.length + ([((wr .i16 x16.2.2.2.2.2.2.2.1), ((wr .i16 r21.1.1), ((wr .i8 x16.1), ())))] : (List (Int × (Int × (Int × Unit))))).length) * 6 ≤ 140737488355328)) (again17 (x16.1, x16.2.1, x16.2.2.1, x16.2.2.2.1, (x16.2.2.2.2.1 ++ ([((wr .i16 x16.2.2.2.2.2.2.2.1), ((wr .i16 r21.1.1), ((wr .i8 x16.1), ())))] : (List (Int × (Int × (Int × Unit)))))), x16.2.2.2.2.2.1, x16.2.2.2.2.2.2.1, (wr .i64 (x16.2.2.2.2.2.2.2.1 + (1 : Int))), ())))) else (if (decide (x16.2.2.2.2.2.2.1 ≤ x16.2.2.2.1)) = true then some ((x16.2.2.2.2.1, (0 : Int), ()), (())) else again13 (x16.1, x16.2.1, x16.2.2.1, x16.2.2.2.1, x16.2.2.2.2.1, x16.2.2.2.2.2.2.1, ())))) n (x12.1, x12.2.1, x12.2.2.1, x12.2.2.2.1, x12.2.2.2.2.1, x12.2.2.2.2.2.1, r15.1.1, (0 : Int), ())) n (x8.2.1, x8.2.2.1, x8.2.2.2.1, x8.2.2.2.2.1, ([] : (List (Int × (Int × (Int × Unit))))), x8.1, ()))) n (high, w, deep, r5.1.1, v7, (1 : Int), ()))) (pl (tipsL c (K.getD w.toNat []) c.length) deep w (high.toNat + 1) high [], ()) := by
  obtain ⟨k, hk'⟩ := at_of (l := K) P.w.1 P.w.2
  have hkd : K.getD w.toNat [] = k := getD_at hk'
  rw [hkd]
  have hcl := okC_len P.hc
  have hC := okC_el P.hc hc
  have Gk : GoodK k := (goodKs hk P.hk).el k hk'.mem
  have hl0 : 0 < c.length := by omega
  have hl1 : c.length ≤ 1000 := by omega
  have hn := P.n
  have hhi := P.hi
  have hw := P.w
  have hdp := P.d
  obtain ⟨t, ht⟩ : ∃ t, t = tipsL c k c.length := ⟨_, rfl⟩
  have htl : t.length = c.length := by rw [ht, tipsL_len]
  have hte : ∀ v ∈ t, 0 ≤ v ∧ v ≤ 10000 := by rw [ht]; exact tipsL_el hl0 hC Gk
  have hmn : 0 ≤ mnL t := by
    obtain ⟨v0, hv0⟩ := at_of (l := t) (Int.le_refl 0) (by omega)
    have := hte v0 hv0.mem
    unfold mnL
    rw [(head_at hv0).1]
    exact mnF_le t v0 0 this.1 (fun v hv => (hte v hv).1)
  refine Evt.at hk'.idx (Evt.bind (e44 hc (hk.el k hk'.mem) hl0 hl1 hC Gk) ?_)
  rw [← ht]
  obtain ⟨v0, hv0⟩ := at_of (l := t) (Int.le_refl 0) (by omega)
  refine Evt.chk (decide_eq_true (show 0 ≤ (0 : Int) ∧ (0 : Int) < (t.length : Int) by omega)) (Evt.at hv0.get ?_)
  have hh := (head_at hv0).1
  refine for_evt' 1 (t.length : Int) (fun i (_ : Unit) => (high, w, deep, t, mnF (t.take i.toNat) v0, i, ())) (fun _ _ => True) (b0 := ()) (by
    have := (head_at hv0).2
    show _ = (high, w, deep, t, mnF (t.take 1) v0, 1, ())
    rw [this]; simp [mnF]) (by omega) trivial ?_ ?_
  · intro i _ h2 h3 _
    obtain ⟨v, hv⟩ := at_of (l := t) (show 0 ≤ i by omega) h3
    simp only [wrap_id (x := i + 1) (by omega) (by omega)]
    refine Round.yes (decide_eq_true h3) (Round.at hv.idx (Round.bind (e45 _ _) (Round.again _ ⟨(), ?_, trivial⟩)))
    rw [hv.take, mnF_snoc]
  intro _ _
  have e2 : mnF (t.take (t.length : Int).toNat) v0 = mnL t := by rw [take_all, mnL, hh]
  simp only [e2]
  refine Round.no (by simp) (Round.done ?_)
  refine loop_evt (fun x => ∃ (f : Nat) (above : Int) (o : List Ct), x = (w, deep, t, mnL t, o, above, ()) ∧ 0 ≤ above ∧ above ≤ 10000 ∧ above.toNat < f ∧ o.length ≤ 400 ∧ pl t deep w f above o = pl t deep w (high.toNat + 1) high []) (fun x => (x.2.2.2.2.2.1).toNat) ⟨high.toNat + 1, high, [], rfl, hhi.1, hhi.2, by omega, by simp, rfl⟩ ?_
  rintro x ⟨f, above, o, rfl, ha0, ha1, hf, ho, he⟩
  obtain ⟨f, rfl⟩ : ∃ f', f = f' + 1 := ⟨f - 1, by omega⟩
  have wab : wr .i64 (above - deep) = above - deep := wrap_id (by omega) (by omega)
  refine Round.bind (v := ((max (above - deep) 0, ()), ())) (by
    show Evt (fun n => call T C n 46 (wr .i64 (above - deep), 0, ())) _
    rw [wab]; exact e46 _ _) ?_
  have hly : 0 ≤ max (above - deep) 0 ∧ max (above - deep) 0 ≤ 10000 := by omega
  rw [← he]
  refine for_round' 0 (t.length : Int) (fun s (p : List Ct) => (w, deep, t, mnL t, p, above, max (above - deep) 0, s, ())) (fun s p => la t above (max (above - deep) 0) w s.toNat o = some p ∧ p.length ≤ 400) (b0 := o) rfl (by omega) ⟨rfl, ho⟩ ?_ ?_
  · intro s p s0 s1 ⟨hp, hpl⟩
    obtain ⟨v, hv⟩ := at_of (l := t) s0 s1
    have hvb := hte v hv.mem
    have hg := g_at hv
    have hla : la t above (max (above - deep) 0) w (s + 1).toNat o = if v ≥ above then some p else if p.length = 400 then none else some (p ++ [(s, max (max (above - deep) 0) v, w, ())]) := by
      rw [show (s + 1).toNat = s.toNat + 1 by omega, la, hp, Option.bind_some, hg, show ((s.toNat : Nat) : Int) = s by omega]
    refine Round.yes (decide_eq_true s1) (Round.at hv.idx (Round.ite (fun h => ?_) (fun h => ?_)))
    · have h : v ≥ above := of_decide_eq_true h
      refine Round.inr _ ⟨p, ?_, by rw [hla, if_pos h], hpl⟩
      show (w, deep, t, mnL t, p, above, max (above - deep) 0, wr .i64 (s + 1), ()) = _
      rw [wr_succ s0 s1 (by omega)]
    have h : ¬ v ≥ above := by simpa using h
    rw [if_neg h] at hla
    refine Round.ite (fun h4 => ?_) (fun h4 => ?_)
    · have h4 : p.length = 400 := by
        have : (p.length : Int) = 400 := by simpa using h4
        omega
      rw [if_pos h4] at hla
      have hn := la_none t above _ w hla t.length (by omega)
      have : pl t deep w (f + 1) above o = ([], 3, ()) := by simp only [pl]; rw [hn]
      rw [this]
      exact Round.done (Evt.some _)
    have h4 : ¬ p.length = 400 := by
      have : ¬ (p.length : Int) = 400 := by simpa using h4
      omega
    rw [if_neg h4] at hla
    refine Round.at hv.idx (Round.bind (e46 (max (above - deep) 0) v) (Round.chk (decide_eq_true (by simp; omega)) (Round.inr _ ⟨p ++ [(s, max (max (above - deep) 0) v, w, ())], ?_, hla, by simp; omega⟩)))
    show (w, deep, t, mnL t, p ++ [(wr .i16 s, wr .i16 (max (max (above - deep) 0) v), wr .i8 w, ())], above, max (above - deep) 0, wr .i64 (s + 1), ()) = _
    rw [wr_succ s0 s1 (by omega), wrap16 (x := s) (by omega) (by omega), wrap16 (by omega) (by omega), wrap8 (by omega) (by omega)]
  · intro p ⟨hp, hpl⟩
    rw [Int.toNat_natCast] at hp
    have hpe : pl t deep w (f + 1) above o = if max (above - deep) 0 ≤ mnL t then (p, 0, ()) else pl t deep w f (max (above - deep) 0) p := by simp only [pl]; rw [hp]
    rw [hpe]
    refine Round.no (by simp) (Round.ite (fun h => ?_) (fun h => ?_))
    · rw [if_pos (of_decide_eq_true h)]
      exact Round.done (Evt.some _)
    · have h : ¬ max (above - deep) 0 ≤ mnL t := by simpa using h
      rw [if_neg h]
      refine Round.inl _ ⟨⟨f, max (above - deep) 0, p, rfl, hly.1, hly.2, by omega, hpl, rfl⟩, ?_⟩
      show (max (above - deep) 0).toNat < above.toNat
      omega
theorem e10 {c : List Int} {high : Int} {K : List (List Int)} {w deep : Int} (hc : Rng c) (hk : RngS K) : Evt (fun n => call T C n 10 (c, high, K, w, deep, ())) (pcR c high K w deep, ()) := by
  have hcl := hc.len'
  have hkl := hk.len'
  have hR0 : RngC [] := ⟨by simp, fun v hv => by cases hv⟩
  refine Evt.next (Evt.bind (e40 c K [] hc hk hR0) ?_) (fun n => r10 n c high K w deep)
  have hgv : gvCode c K [] = if (okC c && inR (K.length : Int) 1 8 && okKs K) = true then 0 else 1 := by
    unfold gvCode okCuts okCt onCt
    cases okC c <;> cases inR (K.length : Int) 1 8 <;> cases okKs K <;> rfl
  cases h1 : (okC c && inR (K.length : Int) 1 8 && okKs K) with
  | false =>
    have hg : gvCode c K [] = 1 := by rw [hgv, h1]; rfl
    have hr : pcR c high K w deep = ([], 1, ()) := by unfold pcR pcCode; rw [h1]; rfl
    rw [hg, hr]
    exact Evt.no (by decide) (Evt.no (by decide) (Evt.yes rfl (Evt.some _)))
  | true =>
    have hg : gvCode c K [] = 0 := by rw [hgv, h1]; rfl
    rw [hg]
    have hh := h1
    simp only [Bool.and_eq_true, inR_iff] at hh
    have hC := okC_len hh.1.1
    have hwk : wr .i64 ((K.length : Int) - 1) = (K.length : Int) - 1 := wrap_id (by omega) (by omega)
    have bad : (inR high 0 10000 && inR w 0 ((K.length : Int) - 1) && inR deep 1 10000) = false → pcR c high K w deep = ([], 2, ()) := fun h => by unfold pcR pcCode; rw [h1, h]; rfl
    refine Evt.yes rfl (Evt.bind (e41 high) ?_)
    cases h2 : inR high 0 10000 with
    | false =>
      rw [bad (by rw [h2]; rfl)]
      exact Evt.yes rfl (Evt.yes rfl (Evt.no (by decide) (Evt.yes rfl (Evt.some _))))
    | true =>
      refine Evt.no (by simp) (Evt.bind (e42 _ _ _) ?_)
      rw [hwk]
      cases h3 : inR w 0 ((K.length : Int) - 1) with
      | false =>
        rw [bad (by rw [h2, h3]; rfl)]
        exact Evt.yes rfl (Evt.yes rfl (Evt.no (by decide) (Evt.yes rfl (Evt.some _))))
      | true =>
        refine Evt.no (by simp) (Evt.bind (e42 _ _ _) ?_)
        cases h4 : inR deep 1 10000 with
        | false =>
          rw [bad (by rw [h2, h3, h4]; rfl)]
          exact Evt.yes rfl (Evt.no (by decide) (Evt.yes rfl (Evt.some _)))
        | true =>
          refine Evt.no (by simp) (Evt.yes rfl (Evt.bind (e43 c hc (by omega) high) (Evt.ite (fun h => ?_) (fun h => ?_))))
          · have h : mxL c > high := by simpa using h
            have hr : pcR c high K w deep = ([], 4, ()) := by unfold pcR pcCode; rw [h1, h2, h3, h4, if_pos h]; rfl
            rw [hr]
            exact Evt.yes rfl (Evt.some _)
          · have h : ¬ mxL c > high := by simpa using h
            have hz : pcCode c high K w deep = 0 := by unfold pcCode; rw [h1, h2, h3, h4, if_neg h]; rfl
            have hr : pcR c high K w deep = pl (tipsL c (K.getD w.toNat []) c.length) deep w (high.toNat + 1) high [] := by unfold pcR; rw [hz]; rfl
            rw [hr]
            exact Evt.no (by simp) (eSR hc hk (goodP h1 (by rw [h2, h3, h4]; rfl)))
/- spec.A2SameCuts -/
theorem e11 (l : List Ct) (hl : (l.length : Int) ≤ 1000000) : Evt (fun n => call T C n 11 (l, l, ())) ((true, ()), ()) := by
  refine Evt.next (Evt.no (by simp) ?_) (fun n => r11 n l l)
  refine for_evt' 0 (l.length : Int) (fun i (_ : Unit) => (l, l, i, ())) (fun _ _ => True) (b0 := ()) rfl (by omega) trivial ?_ ?_
  · intro i _ h2 h3 _
    obtain ⟨v, hv⟩ := at_of h2 h3
    exact Round.yes (decide_eq_true h3) (Round.at hv.idx (Round.at hv.idx (Round.no (by simp) (Round.again _ ⟨(), by rw [wr_succ h2 h3 (by omega)], trivial⟩))))
  · intro _ _
    exact Round.no (by simp) (Round.done (Evt.some _))
/- impl.areCuts$1 -/
theorem e107 (v : Ct) (m : Int) : Evt (fun n => call T C n 107 (v, m, ())) ((!ctOk m v, ()), (m, ())) := by
  refine Evt.next (Evt.bind (e36 _ _ _) ?_) (fun n => r107 n v m)
  unfold ctOk
  cases inR (wr .i64 v.1) 0 359 with
  | false => exact Evt.yes rfl (Evt.some _)
  | true =>
    refine Evt.no (by simp) (Evt.bind (e34 _) ?_)
    cases inR (wr .i64 v.2.1) 0 10000 with
    | false => exact Evt.yes rfl (Evt.some _)
    | true => exact Evt.no (by simp) (Evt.bind (e35 _ _) (Evt.some _))
/- slices.IndexFunc[[]impl.Cut,impl.Cut]{impl.areCuts$1} -/
theorem e83 (l : List Ct) (m : Int) (hr : RngC l) : Evt (fun n => call T C n 83 (l, ((), m, ()), ())) ((fi (fun v => !ctOk m v) l 0, ()), (((), m, ()), ())) := by
  have hl : (l.length : Int) ≤ 140737488351232 := by have := hr.len'; omega
  refine Evt.next ?_ (fun n => r83 n l ((), m, ()))
  refine for_evt' 0 (l.length : Int) (fun i (_ : Unit) => (l, ((), m, ()), (l.length : Int), i, ())) (fun i _ => fi (fun v => !ctOk m v) l 0 = fi (fun v => !ctOk m v) (l.drop i.toNat) i) (b0 := ()) rfl (by omega) (by simp) ?_ ?_
  · intro i _ h2 h3 hp
    obtain ⟨v, hv⟩ := at_of h2 h3
    rw [hv.drop] at hp
    simp only [fi] at hp
    refine Round.yes (decide_eq_true h3) (Round.at hv.idx (Round.bind (e107 v m) ?_))
    cases hb : !ctOk m v with
    | true =>
      simp only [hb, if_true] at hp
      rw [hp]
      exact Round.yes rfl (Round.done (Evt.some _))
    | false =>
      simp only [hb, Bool.false_eq_true, if_false] at hp
      exact Round.no (by simp) (Round.again _ ⟨(), by rw [wr_succ h2 h3 (by omega)], hp⟩)
  · intro _ hp
    rw [drop_all] at hp
    rw [hp]
    exact Round.no (by simp) (Round.done (Evt.some _))
/- slices.ContainsFunc[[]impl.Cut,impl.Cut]{impl.areCuts$1} -/
theorem e94 (l : List Ct) (m : Int) (hr : RngC l) : Evt (fun n => call T C n 94 (l, ((), m, ()), ())) ((l.any (fun v => !ctOk m v), ()), (((), m, ()), ())) := by
  refine Evt.next (Evt.bind (e83 l m hr) ((Evt.some _).of_eq fun n => ?_)) (fun n => r94 n l ((), m, ()))
  simp only [fi_any _ l 0 (Int.le_refl _)]
  rfl
/- impl.areCuts -/
theorem e93 (l : List Ct) (hr : RngC l) (m : Int) : Evt (fun n => call T C n 93 (l, m, ())) ((okCt l m, ()), ()) := by
  refine Evt.next ?_ (fun n => r93 n l m)
  unfold okCt
  cases decide ((l.length : Int) ≤ 400) with
  | false => exact Evt.no (by simp) (Evt.some _)
  | true =>
    refine Evt.yes rfl (Evt.bind (e94 l m hr) ((Evt.some _).of_eq fun n => ?_))
    have : l.all (ctOk m) = !l.any (fun v => !ctOk m v) := by simp [List.any_eq_not_all_not]
    rw [this]
    rfl
/- impl.ValidCuts -/
theorem e59 (l : List Ct) (K : List (List Int)) (hk : RngS K) (hr : RngC l) : Evt (fun n => call T C n 59 (l, K, ())) ((okCuts l K, ()), ()) := by
  refine Evt.next (Evt.bind (e32 K) ?_) (fun n => r59 n l K)
  unfold okCuts
  cases inR (K.length : Int) 1 8 with
  | false => exact Evt.no (by simp) (Evt.some _)
  | true =>
    refine Evt.yes rfl (Evt.bind (e33 K hk) ?_)
    cases okKs K with
    | false => exact Evt.no (by simp) (Evt.some _)
    | true => exact Evt.yes rfl (Evt.bind (e93 l hr _) (Evt.some _))
/- impl.areOn$1 -/
theorem e95 (v : Ct) (m : Int) : Evt (fun n => call T C n 95 (v, m, ())) ((decide (wr .i64 v.1 ≥ m), ()), (m, ())) := Evt.next (Evt.some _) (fun n => r95 n v m)
/- slices.IndexFunc[[]impl.Cut,impl.Cut]{impl.areOn$1} -/
theorem e1083 (l : List Ct) (m : Int) (hr : RngC l) : Evt (fun n => call T C n 1083 (l, ((), m, ()), ())) ((fi (fun v => decide (wr .i64 v.1 ≥ m)) l 0, ()), (((), m, ()), ())) := by
  have hl : (l.length : Int) ≤ 140737488351232 := by have := hr.len'; omega
  refine Evt.next ?_ (fun n => r1083 n l ((), m, ()))
  refine for_evt' 0 (l.length : Int) (fun i (_ : Unit) => (l, ((), m, ()), (l.length : Int), i, ())) (fun i _ => fi (fun v => decide (wr .i64 v.1 ≥ m)) l 0 = fi (fun v => decide (wr .i64 v.1 ≥ m)) (l.drop i.toNat) i) (b0 := ()) rfl (by omega) (by simp) ?_ ?_
  · intro i _ h2 h3 hp
    obtain ⟨v, hv⟩ := at_of h2 h3
    rw [hv.drop] at hp
    simp only [fi] at hp
    refine Round.yes (decide_eq_true h3) (Round.at hv.idx (Round.bind (e95 v m) ?_))
    cases hb : decide (wr .i64 v.1 ≥ m) with
    | true =>
      simp only [hb, if_true] at hp
      rw [hp]
      exact Round.yes rfl (Round.done (Evt.some _))
    | false =>
      simp only [hb, Bool.false_eq_true, if_false] at hp
      exact Round.no (by simp) (Round.again _ ⟨(), by rw [wr_succ h2 h3 (by omega)], hp⟩)
  · intro _ hp
    rw [drop_all] at hp
    rw [hp]
    exact Round.no (by simp) (Round.done (Evt.some _))
/- slices.ContainsFunc[[]impl.Cut,impl.Cut]{impl.areOn$1} -/
theorem e1094 (l : List Ct) (m : Int) (hr : RngC l) : Evt (fun n => call T C n 1094 (l, ((), m, ()), ())) ((l.any (fun v => decide (wr .i64 v.1 ≥ m)), ()), (((), m, ()), ())) := by
  refine Evt.next (Evt.bind (e1083 l m hr) ((Evt.some _).of_eq fun n => ?_)) (fun n => r1094 n l ((), m, ()))
  simp only [fi_any _ l 0 (Int.le_refl _)]
  rfl
/- impl.areOn -/
theorem e61 (l : List Ct) (hr : RngC l) (m : Int) : Evt (fun n => call T C n 61 (l, m, ())) ((onCt l m, ()), ()) := by
  refine Evt.next (Evt.bind (e1094 l m hr) ((Evt.some _).of_eq fun n => ?_)) (fun n => r61 n l m)
  have : onCt l m = !l.any (fun v => decide (wr .i64 v.1 ≥ m)) := by unfold onCt; rw [List.any_eq_not_all_not]; simp
  rw [this]
  rfl
/- impl.cutsCode -/
theorem e47 (c : List Int) (K : List (List Int)) (l : List Ct) (hc : Rng c) (hk : RngS K) (hr : RngC l) : Evt (fun n => call T C n 47 (c, K, l, ())) ((gvCode c K l, ()), ()) := by
  have hcl := hc.len'
  refine Evt.next (Evt.bind (e31 c (by omega)) ?_) (fun n => r47 n c K l)
  unfold gvCode
  cases okC c with
  | false =>
    refine Evt.yes rfl (Evt.bind (e30 _ _) (Evt.bind (e50 c) (Evt.bind (e61 l hr _) (Evt.bind (e30 _ _) (Evt.bind (e29 _ (by simp)) ((Evt.some _).of_eq fun n => ?_))))))
    simp [fst0]
    rfl
  | true =>
    refine Evt.no (by simp) (Evt.bind (e59 l K hk hr) (Evt.bind (e30 _ _) (Evt.bind (e50 c) (Evt.bind (e61 l hr _) (Evt.bind (e30 _ _) (Evt.bind (e29 _ (by simp)) ((Evt.some _).of_eq fun n => ?_)))))))
    cases okCuts l K <;> cases onCt l c.length <;> simp [fst0] <;> rfl
/- (impl.Cam).tooDeep$1 -/
theorem e84 (v : Ct) (t : List (List Int)) (c : List Int) (K : List (List Int)) (hv2 : wr .i64 v.2.1 = v.2.1) (hg : (0 ≤ v.1 ∧ v.1 < (c.length : Int)) ∧ (0 ≤ v.2.1 ∧ v.2.1 ≤ 10000) ∧ (0 ≤ v.2.2.1 ∧ v.2.2.1 < (K.length : Int))) (ht : t = K.map fun k => tipsL c k c.length) : Evt (fun n => call T C n 84 (v, t, ())) ((deepF c K v, ()), (t, ())) := by
  obtain ⟨g1, g2, g3⟩ := hg
  obtain ⟨k, hk'⟩ := at_of (l := K) g3.1 g3.2
  have hkd : K.getD v.2.2.1.toNat [] = k := getD_at hk'
  have htk := hk'.map fun k => tipsL c k c.length
  rw [← ht] at htk
  have htl : t.length = K.length := by rw [ht, List.length_map]
  have hs := g_idx (l := tipsL c k c.length) (i := v.1) g1.1 (by rw [tipsL_len]; exact g1.2)
  rw [g_tips c k (by omega), show ((v.1.toNat : Nat) : Int) = v.1 by omega] at hs
  refine Evt.next (Evt.chk (chk_at g3.1 (by omega)) (Evt.at htk.get (Evt.at hs.idx ((Evt.some _).of_eq fun n => ?_)))) (fun n => r84 n v t)
  rw [hv2]
  unfold deepF
  rw [hkd]
  rfl
/- slices.IndexFunc[[]impl.Cut,impl.Cut]{(impl.Cam).tooDeep$1} -/
theorem e2083 (l : List Ct) (t : List (List Int)) (c : List Int) (K : List (List Int)) (hr : RngC l) (G : GoodG c K l) (ht : t = K.map fun k => tipsL c k c.length) : Evt (fun n => call T C n 2083 (l, ((), t, ()), ())) ((fi (fun v => deepF c K v) l 0, ()), (((), t, ()), ())) := by
  have hl : (l.length : Int) ≤ 140737488351232 := by have := hr.len'; omega
  refine Evt.next ?_ (fun n => r2083 n l ((), t, ()))
  refine for_evt' 0 (l.length : Int) (fun i (_ : Unit) => (l, ((), t, ()), (l.length : Int), i, ())) (fun i _ => fi (fun v => deepF c K v) l 0 = fi (fun v => deepF c K v) (l.drop i.toNat) i) (b0 := ()) rfl (by omega) (by simp) ?_ ?_
  · intro i _ h2 h3 hp
    obtain ⟨v, hv⟩ := at_of h2 h3
    rw [hv.drop] at hp
    simp only [fi] at hp
    refine Round.yes (decide_eq_true h3) (Round.at hv.idx (Round.bind (e84 v t c K (hr.i2 hv.mem) (G.el v hv.mem) ht) ?_))
    cases hb : deepF c K v with
    | true =>
      simp only [hb, if_true] at hp
      rw [hp]
      exact Round.yes rfl (Round.done (Evt.some _))
    | false =>
      simp only [hb, Bool.false_eq_true, if_false] at hp
      exact Round.no (by simp) (Round.again _ ⟨(), by rw [wr_succ h2 h3 (by omega)], hp⟩)
  · intro _ hp
    rw [drop_all] at hp
    rw [hp]
    exact Round.no (by simp) (Round.done (Evt.some _))
/- (impl.Cam).tooDeep -/
theorem e48 (c : List Int) (K : List (List Int)) (l : List Ct) (hc : Rng c) (hk : RngS K) (hr : RngC l) (G : GoodG c K l) : Evt (fun n => call T C n 48 (c, K, l, ())) ((fi (deepF c K) l 0, ()), ()) := by
  have hcl := okC_len G.hc
  have hC := okC_el G.hc hc
  have GK := goodKs hk G.hk
  have hn := G.n
  have hc0 : 0 < c.length := by omega
  have hc1 : c.length ≤ 1000 := by omega
  refine Evt.next ?_ (fun n => r48 n c K l)
  refine for_evt' 0 (K.length : Int) (fun i (_ : Unit) => (c, l, (K.take i.toNat).map (fun k => tipsL c k c.length), K, (K.length : Int), i, ())) (fun _ _ => True) (b0 := ()) rfl (by omega) trivial ?_ ?_
  · intro i _ h2 h3 _
    obtain ⟨k, hk'⟩ := at_of h2 h3
    have hlen : ((K.take i.toNat).map (fun k => tipsL c k c.length)).length ≤ 8 := by rw [List.length_map, List.length_take]; omega
    refine Round.yes (decide_eq_true h3) (Round.at hk'.idx (Round.bind (e38 hc (hk.el k hk'.mem) hc0 hc1 hC (GK.el k hk'.mem)) (Round.chk (decide_eq_true (by simp only [List.length_cons, List.length_nil]; omega)) (Round.again _ ⟨(), ?_, trivial⟩))))
    rw [hk'.take, wr_succ h2 h3 (by omega)]
    simp
  · intro _ _
    simp only [take_all]
    exact Round.no (by simp) (Round.done (Evt.bind (e2083 l (K.map fun k => tipsL c k c.length) c K hr G rfl) (Evt.some _)))
/- impl.FlatCam$1 -/
theorem e86 (s x : Int) : Evt (fun n => call T C n 86 (s, x, ())) ((x, ()), (x, ())) := Evt.next (Evt.some _) (fun n => r86 n s x)
/- impl.camOf{impl.FlatCam$1} -/
theorem e85 {n0 x : Int} (hn : inR n0 8 360 = true) (hx : inR x 0 10000 = true) : Evt (fun n => call T C n 85 (n0, ((), x, ()), ())) ((List.replicate n0.toNat x, 0, ()), (((), x, ()), ())) := by
  have hb := inR_iff.1 hn
  have hx' := inR_iff.1 hx
  refine Evt.next ?_ (fun n => r85 n n0 ((), x, ()))
  refine for_evt' 0 n0 (fun i (_ : Unit) => (((), (x, ())), List.replicate i.toNat x, n0, i, ())) (fun _ _ => True) (b0 := ()) rfl (by omega) trivial ?_ ?_
  · intro i _ h2 h3 _
    refine Round.yes (decide_eq_true h3) (Round.bind (e86 i x) (Round.bind (e34 _) (Round.no (by simp [hx]) (Round.chk (by simp; omega) (Round.again _ ⟨(), ?_, trivial⟩)))))
    rw [wr_succ h2 h3 (by omega), wrap16 (x := x) (by omega) (by omega), show (i + 1).toNat = i.toNat + 1 by omega, List.replicate_succ']
  · intro _ _
    exact Round.no (by simp) (Round.done (Evt.some _))
/- impl.FlatCam -/
theorem e49 {n0 x : Int} (hn : inR n0 8 360 = true) (hx : inR x 0 10000 = true) : Evt (fun n => call T C n 49 (n0, x, ())) ((List.replicate n0.toNat x, 0, ()), ()) := by
  refine Evt.next (Evt.bind (e60 n0) ?_) (fun n => r49 n n0 x)
  rw [hn]
  refine Evt.no (by simp) (Evt.bind (e34 x) ?_)
  rw [hx]
  exact Evt.no (by simp) (Evt.bind (e85 hn hx) (Evt.some _))
/- (impl.Cam).cut$1 -/
theorem e105 {o : List Int} (h0 : 0 < o.length) (h1 : o.length ≤ 1000) (ho : ∀ v ∈ o, 0 ≤ v ∧ v ≤ 10000) {x y t z : Int} (hx : -4000000 ≤ x) (hx' : x ≤ 4000000) (hy : 0 ≤ y) (hy' : y ≤ 10000) (ht : 0 ≤ t) (ht' : t ≤ 1000000) (hz : 0 ≤ z) (hz' : z ≤ 1000000) :
    Evt (fun n => call T C n 105 (x, y, o, t, z, ())) ((), (if g o (x % (o.length : Int)).toNat > t + y then o.set (x % (o.length : Int)).toNat (t + y) else o), t, (if g o (x % (o.length : Int)).toNat > t + y then z + (g o (x % (o.length : Int)).toNat - (t + y)) else z), ()) := by
  have hp := Int.emod_nonneg x (show (o.length : Int) ≠ 0 by omega)
  have hq := Int.emod_lt_of_pos x (show 0 < (o.length : Int) by omega)
  have hv := g_idx (l := o) (i := x % o.length) hp hq
  have hb := ho _ hv.mem
  refine Evt.next (Evt.bind (e50 o) (Evt.bind (e91 (a := x) (show 0 < (o.length : Int) by omega) (by omega) (by omega) (by omega)) (Evt.chk (decide_eq_true ⟨hp, hq⟩) (Evt.at hv.get ?_)))) (fun n => r105 n x y o t z)
  simp only [wrap_id (x := g o (x % (o.length : Int)).toNat) (by omega) (by omega), wrap_id (x := t + y) (by omega) (by omega)]
  refine Evt.ite (fun hc => ?_) (fun hc => ?_)
  · have hc : g o (x % (o.length : Int)).toNat > t + y := of_decide_eq_true hc
    refine Evt.chk (decide_eq_true ⟨hp, hq⟩) (Evt.at hv.get (Evt.chk (decide_eq_true ⟨hp, hq⟩) (Evt.at hv.get ?_)))
    rw [if_pos hc, if_pos hc]
    simp only [wrap_id (x := g o (x % (o.length : Int)).toNat) (by omega) (by omega), wrap_id (x := g o (x % (o.length : Int)).toNat - (t + y)) (by omega) (by omega), wrap_id (x := z + (g o (x % (o.length : Int)).toNat - (t + y))) (by omega) (by omega), wrap16 (x := t + y) (by omega) (by omega)]
    exact Evt.some _
  · have hc : ¬ g o (x % (o.length : Int)).toNat > t + y := by simpa using hc
    rw [if_neg hc, if_neg hc]
    exact Evt.some _
/- (impl.Cutter).each{(impl.Cam).cut$1} -/
theorem e1079 {o k : List Int} (hk : Rng k) (hl0 : 0 < o.length) (hl1 : o.length ≤ 1000) (ho : ∀ v ∈ o, 0 ≤ v ∧ v ≤ 10000) (G : GoodK k) {s t : Int} (h0 : 0 ≤ s) (h1 : s ≤ 1000000) (t0 : 0 ≤ t) (t1 : t ≤ 1000000) : Evt (fun n => call T C n 1079 (k, s, ((), o, t, 0, ()), ())) ((), (((), (cutTo k s t o k.length).1, t, (cutTo k s t o k.length).2, ()), ())) := by
  have hd : Int.tdiv (k.length : Int) 2 = ((k.length / 2 : Nat) : Int) := by rw [show (2 : Int) = ((2 : Nat) : Int) from rfl, ← Int.ofNat_tdiv]
  have hhi := G.hi
  refine Evt.next (Evt.chk rfl ?_) (fun n => r1079 n k s ((), o, t, 0, ()))
  rw [hd, wrap_id (x := ((k.length / 2 : Nat) : Int)) (by omega) (by omega)]
  refine for_evt' 0 (k.length : Int) (fun i (_ : Unit) => (s, ((), ((cutTo k s t o i.toNat).1, (t, ((cutTo k s t o i.toNat).2, ())))), ((k.length / 2 : Nat) : Int), k, (k.length : Int), i, ())) (fun _ _ => True) (b0 := ()) rfl (by omega) trivial ?_ ?_
  · intro i _ h2 h3 _
    obtain ⟨a, rfl⟩ : ∃ a : Nat, i = a := ⟨i.toNat, by omega⟩
    have hai := g_idx (l := k) (i := (a : Int)) (by omega) (by omega)
    rw [Int.toNat_natCast] at hai
    have hka := G.el a (by omega)
    obtain ⟨b1, b2, b3⟩ := cutTo_bd k s hl0 t0 (fun i hi => (G.el i hi).1) ho a (by omega)
    have hlen := cutTo_len k s t o a
    simp only [Int.toNat_natCast, wr_succ h2 h3 (by omega), wrap_id (x := s + (a : Int)) (by omega) (by omega), wrap_id (x := s + (a : Int) - ((k.length / 2 : Nat) : Int)) (by omega) (by omega)]
    refine Round.yes (decide_eq_true h3) (Round.at hai.idx ?_)
    simp only [hk.id hai.mem]
    refine Round.bind (e105 (by omega) (by omega) b1 (by omega) (by omega) hka.1 hka.2 t0 t1 b2 (by omega)) (Round.again _ ⟨(), ?_, trivial⟩)
    rw [show ((a : Int) + 1).toNat = a + 1 by omega, cutTo_succ, hlen]
    show _ = (s, ((), ((if g (cutTo k s t o a).1 ((s + (a : Int) - ((k.length / 2 : Nat) : Int)) % (o.length : Int)).toNat > t + g k a then _ else _ : List Int × Int).1, (t, ((if g (cutTo k s t o a).1 ((s + (a : Int) - ((k.length / 2 : Nat) : Int)) % (o.length : Int)).toNat > t + g k a then _ else _ : List Int × Int).2, ())))), _)
    by_cases hc : g (cutTo k s t o a).1 ((s + (a : Int) - ((k.length / 2 : Nat) : Int)) % (o.length : Int)).toNat > t + g k a
    · simp only [if_pos hc]
      rfl
    · simp only [if_neg hc]
  · intro _ _
    simp only [Int.toNat_natCast]
    exact Round.no (by simp) (Round.done (Evt.some _))
/- (impl.Cam).cut -/
theorem e87 {o k : List Int} (hk : Rng k) (hl0 : 0 < o.length) (hl1 : o.length ≤ 1000) (ho : ∀ v ∈ o, 0 ≤ v ∧ v ≤ 10000) (G : GoodK k) {s t : Int} (h0 : 0 ≤ s) (h1 : s ≤ 1000000) (t0 : 0 ≤ t) (t1 : t ≤ 1000000) : Evt (fun n => call T C n 87 (o, k, s, t, ())) (((cutTo k s t o k.length).2, ()), ((cutTo k s t o k.length).1, ())) :=
  Evt.next (Evt.bind (e1079 hk hl0 hl1 ho G h0 h1 t0 t1) (Evt.some (((cutTo k s t o k.length).2, ()), ((cutTo k s t o k.length).1, ())))) (fun n => r87 n o k s t)
/- (impl.Cam).do -/
theorem e51 {m : Nat} {o : List Int} {K : List (List Int)} {l : List Ct} (hk : RngS K) (hr : RngC l) (G : GoodL m K l) (S : Surf m o) {v : Ct} (hv : v ∈ l) : Evt (fun n => call T C n 51 (o, K, v, ())) (((cut1 K v o).2, ()), ((cut1 K v o).1, ())) := by
  obtain ⟨g1, g2, g3⟩ := G.el v hv
  obtain ⟨k, hk'⟩ := at_of (l := K) g3.1 g3.2
  have e : kOf K v = k := getD_at hk'
  have m0 := G.m0
  have m1 := G.m1
  have hol := S.len
  refine Evt.next (Evt.at hk'.idx ?_) (fun n => r51 n o K v)
  simp only [hr.i1 hv, hr.i2 hv]
  have e2 : cut1 K v o = cutTo k v.1 v.2.1 o k.length := by unfold cut1; rw [e]
  rw [e2]
  exact Evt.bind (e87 (hk.el k hk'.mem) (by omega) (by omega) S.el ((goodKs hk G.hk).el k hk'.mem) g1.1 (by omega) g2.1 (by omega)) (Evt.some _)
/- (impl.Cam).left$1$1 -/
theorem e90 {c k : List Int} (h0 : 0 < c.length) (h1 : c.length ≤ 1000) (hC : ∀ v ∈ c, 0 ≤ v ∧ v ≤ 10000) (G : GoodK k) {x y z : Int} (hx : -4000000 ≤ x) (hx' : x ≤ 4000000) (hy : 0 ≤ y) (hy' : y ≤ 10000) : Evt (fun n => call T C n 90 (x, y, z, tipsL c k c.length, c, ())) ((), (min z (tip c k (x % c.length) + y), tipsL c k c.length, c, ())) := by
  have hp := Int.emod_nonneg x (show (c.length : Int) ≠ 0 by omega)
  have hq := Int.emod_lt_of_pos x (show 0 < (c.length : Int) by omega)
  have hv := g_idx (l := tipsL c k c.length) (i := x % c.length) hp (by rw [tipsL_len]; exact hq)
  rw [g_tips c k (by omega), show (((x % (c.length : Int)).toNat : Nat) : Int) = x % (c.length : Int) by omega] at hv
  have hb := tipTo_bd h0 hC G.el (x % c.length) k.length (Nat.le_refl _)
  have hb1 : 0 ≤ tip c k (x % c.length) := hb.1
  have hb2 : tip c k (x % c.length) ≤ 10000 := hb.2
  refine Evt.next (Evt.bind (e50 c) (Evt.bind (e91 (a := x) (show 0 < (c.length : Int) by omega) (by omega) (by omega) (by omega)) (Evt.at hv.idx ((Evt.some _).of_eq fun n => ?_)))) (fun n => r90 n x y z (tipsL c k c.length) c)
  simp only [wrap_id (x := tip c k (x % c.length) + y) (by omega) (by omega)]
  have : (if tip c k (x % c.length) + y < z then tip c k (x % c.length) + y else z) = min z (tip c k (x % c.length) + y) := by split <;> omega
  rw [this]
  rfl
/- (impl.Cutter).each{(impl.Cam).left$1$1} -/
theorem e2079 {c k : List Int} (hk : Rng k) (hl0 : 0 < c.length) (hl1 : c.length ≤ 1000) (hC : ∀ v ∈ c, 0 ≤ v ∧ v ≤ 10000) (G : GoodK k) {s : Int} (h0 : 0 ≤ s) (h1 : s ≤ 1000000) : Evt (fun n => call T C n 2079 (k, s, ((), tip c k s, tipsL c k c.length, c, ()), ())) ((), (((), lf c k s, tipsL c k c.length, c, ()), ())) := by
  have hd : Int.tdiv (k.length : Int) 2 = ((k.length / 2 : Nat) : Int) := by rw [show (2 : Int) = ((2 : Nat) : Int) from rfl, ← Int.ofNat_tdiv]
  have hhi := G.hi
  refine Evt.next (Evt.chk rfl ?_) (fun n => r2079 n k s ((), tip c k s, tipsL c k c.length, c, ()))
  rw [hd, wrap_id (x := ((k.length / 2 : Nat) : Int)) (by omega) (by omega)]
  refine for_evt' 0 (k.length : Int) (fun i (_ : Unit) => (s, ((), (lfTo c k s i.toNat, (tipsL c k c.length, (c, ())))), ((k.length / 2 : Nat) : Int), k, (k.length : Int), i, ())) (fun _ _ => True) (b0 := ()) rfl (by omega) trivial ?_ ?_
  · intro i _ h2 h3 _
    obtain ⟨a, rfl⟩ : ∃ a : Nat, i = a := ⟨i.toNat, by omega⟩
    have hai := g_idx (l := k) (i := (a : Int)) (by omega) (by omega)
    rw [Int.toNat_natCast] at hai
    have hka := G.el a (by omega)
    simp only [Int.toNat_natCast, wr_succ h2 h3 (by omega), wrap_id (x := s + (a : Int)) (by omega) (by omega), wrap_id (x := s + (a : Int) - ((k.length / 2 : Nat) : Int)) (by omega) (by omega)]
    refine Round.yes (decide_eq_true h3) (Round.at hai.idx ?_)
    simp only [hk.id hai.mem]
    refine Round.bind (e90 hl0 hl1 hC G (by omega) (by omega) hka.1 hka.2) (Round.again _ ⟨(), ?_, trivial⟩)
    rw [show ((a : Int) + 1).toNat = a + 1 by omega, lfTo_succ]
    rfl
  · intro _ _
    simp only [Int.toNat_natCast]
    exact Round.no (by simp) (Round.done (Evt.some _))
/- (impl.Cam).left$1 -/
theorem e89 {c k : List Int} (hk : Rng k) (hl0 : 0 < c.length) (hl1 : c.length ≤ 1000) (hC : ∀ v ∈ c, 0 ≤ v ∧ v ≤ 10000) (G : GoodK k) {s : Nat} (h : s < c.length) : Evt (fun n => call T C n 89 ((s : Int), tipsL c k c.length, k, c, ())) ((lf c k s, ()), (tipsL c k c.length, k, c, ())) := by
  have hv := g_idx (l := tipsL c k c.length) (i := (s : Int)) (by omega) (by rw [tipsL_len]; omega)
  rw [Int.toNat_natCast, g_tips c k h] at hv
  exact Evt.next (Evt.at hv.idx (Evt.bind (e2079 hk hl0 hl1 hC G (s := (s : Int)) (by omega) (by omega)) (Evt.some ((lf c k s, ()), (tipsL c k c.length, k, c, ()))))) (fun n => r89 n s (tipsL c k c.length) k c)
/- impl.camOf{(impl.Cam).left$1} -/
theorem e1085 {c k : List Int} (hk : Rng k) (hl0 : 0 < c.length) (hl1 : c.length ≤ 1000) (hC : ∀ v ∈ c, 0 ≤ v ∧ v ≤ 10000) (G : GoodK k) : Evt (fun n => call T C n 1085 ((c.length : Int), ((), tipsL c k c.length, k, c, ()), ())) ((leftL c k, 0, ()), (((), tipsL c k c.length, k, c, ()), ())) := by
  have hll := leftL_len c k
  refine Evt.next ?_ (fun n => r1085 n (c.length : Int) ((), tipsL c k c.length, k, c, ()))
  refine for_evt' 0 (c.length : Int) (fun i (_ : Unit) => (((), (tipsL c k c.length, (k, (c, ())))), (leftL c k).take i.toNat, (c.length : Int), i, ())) (fun _ _ => True) (b0 := ()) rfl (by omega) trivial ?_ ?_
  · intro i _ h2 h3 _
    obtain ⟨a, rfl⟩ : ∃ a : Nat, i = a := ⟨i.toNat, by omega⟩
    have hb := lf_bd hl0 hC G (show a < c.length by omega)
    have hin : inR (lf c k a) 0 10000 = true := inR_iff.2 hb
    have hlen : ((leftL c k).take a).length = a := by rw [List.length_take]; omega
    simp only [Int.toNat_natCast, wr_succ h2 h3 (by omega)]
    refine Round.yes (decide_eq_true h3) (Round.bind (e89 hk hl0 hl1 hC G (show a < c.length by omega)) (Round.bind (e34 _) (Round.no (by simp [hin]) (Round.chk (by simp [hlen]; omega) (Round.again _ ⟨(), ?_, trivial⟩)))))
    rw [show ((a : Int) + 1).toNat = a + 1 by omega, leftL_take hl0 hC G (by omega), wrap16 (x := lf c k a) (by omega) (by omega)]
  · intro _ _
    have e : (leftL c k).take (c.length : Int).toNat = leftL c k := List.take_of_length_le (by omega)
    simp only [e]
    exact Round.no (by simp) (Round.done (Evt.some _))
/- (impl.Cam).left -/
theorem e53 {c k : List Int} (hc : Rng c) (hk : Rng k) (hl0 : 0 < c.length) (hl1 : c.length ≤ 1000) (hC : ∀ v ∈ c, 0 ≤ v ∧ v ≤ 10000) (G : GoodK k) : Evt (fun n => call T C n 53 (c, k, ())) ((leftL c k, ()), ()) := Evt.next (Evt.bind (e38 hc hk hl0 hl1 hC G) (Evt.bind (e50 c) (Evt.bind (e1085 hk hl0 hl1 hC G) (Evt.some ((leftL c k, ()), ()))))) (fun n => r53 n c k)
/- (impl.Cam).waste -/
theorem e88 {c k : List Int} (hc : Rng c) (hk : Rng k) (hl0 : 0 < c.length) (hl1 : c.length ≤ 1000) (hC : ∀ v ∈ c, 0 ≤ v ∧ v ≤ 10000) (G : GoodK k) : Evt (fun n => call T C n 88 (c, k, ())) ((waste c k, ()), ()) := by
  have hll := leftL_len c k
  refine Evt.next (Evt.bind (e53 hc hk hl0 hl1 hC G) ?_) (fun n => r88 n c k)
  refine for_evt' 0 (c.length : Int) (fun i (_ : Unit) => (c, wsTo c (leftL c k) i.toNat, leftL c k, ((leftL c k).length : Int), i, ())) (fun _ _ => True) (b0 := ()) rfl (by omega) trivial ?_ ?_
  · intro i _ h2 h3 _
    obtain ⟨a, rfl⟩ : ∃ a : Nat, i = a := ⟨i.toNat, by omega⟩
    have ha := g_idx (l := leftL c k) (i := (a : Int)) (by omega) (by omega)
    have hb := g_idx (l := c) (i := (a : Int)) (by omega) (by omega)
    rw [Int.toNat_natCast] at ha hb
    have h4 := wsTo_bd hl0 hC G a (by omega)
    have h5 := leftTo_bd hl0 hC G c.length _ (g_mem (l := leftL c k) (i := a) (by omega))
    have h6 := hC _ (g_mem (l := c) (i := a) (by omega))
    have e16 : wr .i16 (g (leftL c k) a - g c a) = g (leftL c k) a - g c a := wrap16 (by omega) (by omega)
    simp only [Int.toNat_natCast, wr_succ h2 h3 (by omega)]
    refine Round.yes (decide_eq_true (by omega)) (Round.at ha.idx (Round.at hb.idx (Round.again _ ⟨(), ?_, trivial⟩)))
    rw [show ((a : Int) + 1).toNat = a + 1 by omega, wsTo_succ, e16, wrap_id (x := g (leftL c k) a - g c a) (by omega) (by omega), wrap_id (x := wsTo c (leftL c k) a + (g (leftL c k) a - g c a)) (by omega) (by omega)]
  · intro _ _
    simp only [Int.toNat_natCast]
    exact Round.no (by simp [hll]) (Round.done (Evt.some _))
/- (impl.Cam).best -/
theorem e52 {c : List Int} {K : List (List Int)} (hc : Rng c) (hr : RngS K) (hl0 : 0 < c.length) (hl1 : c.length ≤ 1000) (hC : ∀ v ∈ c, 0 ≤ v ∧ v ≤ 10000) (G : GoodKs K) (hk1 : K.length ≤ 1000) : Evt (fun n => call T C n 52 (c, K, ())) (((bkTo c K K.length).1, (bkTo c K K.length).2, ()), ()) := by
  refine Evt.next ?_ (fun n => r52 n c K)
  refine for_evt' 0 (K.length : Int) (fun i (_ : Unit) => (c, (bkTo c K i.toNat).1, (bkTo c K i.toNat).2, K, (K.length : Int), i, ())) (fun _ _ => True) (b0 := ()) rfl (by omega) trivial ?_ ?_
  · intro i _ h2 h3 _
    obtain ⟨a, rfl⟩ : ∃ a : Nat, i = a := ⟨i.toNat, by omega⟩
    obtain ⟨v, hv⟩ := at_of (l := K) (i := (a : Int)) (by omega) h3
    have e : K.getD a [] = v := by have := getD_at (d := []) hv; rwa [Int.toNat_natCast] at this
    simp only [Int.toNat_natCast, wrap_id (x := (a : Int) + 1) (by omega) (by omega)]
    refine Round.yes (decide_eq_true h3) (Round.at hv.idx (Round.bind (e88 hc (hr.el _ hv.mem) hl0 hl1 hC (G.el _ hv.mem)) (Round.ite (fun hb => ?_) (fun hb => ?_))))
    · have hb : (bkTo c K a).2 < 0 := of_decide_eq_true hb
      refine Round.again _ ⟨(), ?_, trivial⟩
      rw [show ((a : Int) + 1).toNat = a + 1 by omega, bkTo_succ, e, if_pos (.inl hb)]
    · have hb : ¬ (bkTo c K a).2 < 0 := by simpa using hb
      refine Round.ite (fun hx => ?_) (fun hx => ?_)
      · have hx : waste c v < (bkTo c K a).2 := by simpa using hx
        refine Round.again _ ⟨(), ?_, trivial⟩
        rw [show ((a : Int) + 1).toNat = a + 1 by omega, bkTo_succ, e, if_pos (.inr hx)]
      · have hx : ¬ waste c v < (bkTo c K a).2 := by simpa using hx
        refine Round.again _ ⟨(), ?_, trivial⟩
        rw [show ((a : Int) + 1).toNat = a + 1 by omega, bkTo_succ, e, if_neg (by omega)]
  · intro _ _
    simp only [Int.toNat_natCast]
    exact Round.no (by simp) (Round.done (Evt.some _))
/- impl.CheckPlan -/
theorem e12 (c : List Int) (x : Int) (K : List (List Int)) (l : List Ct) (hc : Rng c) (hk : RngS K) (hr : RngC l) : Evt (fun n => call T C n 12 (c, x, K, l, ())) (cpR c x K l, ()) := by
  refine Evt.next (Evt.bind (e47 c K l hc hk hr) (Evt.bind (e34 x) (Evt.bind (e30 _ _) (Evt.bind (e29 _ (by simp)) ?_)))) (fun n => r12 n c x K l)
  by_cases h1 : gvCode c K l = 0
  · have G := goodG hr h1
    have hcl := okC_len G.hc
    have hC := okC_el G.hc hc
    have GL := G.toL
    have hn := G.n
    have hll := G.l
    have hc0 : 0 < c.length := by omega
    have hc1 : c.length ≤ 1000 := by omega
    rw [h1]
    cases h2 : inR x 0 10000 with
    | false =>
      have e : cpCode c x K l = 2 := by unfold cpCode; rw [if_neg (by simpa using h1), h2]; rfl
      rw [cpR_bad e (by decide)]
      exact Evt.yes rfl (Evt.some _)
    | true =>
      refine Evt.no (by decide) (Evt.bind (e37 c hc (by omega)) ?_)
      have hm := mxL_bd hc G.hc
      show Evt (fun n => if decide (wr .i64 (mxL c) > x) = true then _ else _) _
      rw [wrap_id (x := mxL c) (by omega) (by omega)]
      by_cases h3 : mxL c > x
      · have e : cpCode c x K l = 4 := by unfold cpCode; rw [if_neg (by simpa using h1), h2, if_pos rfl, if_pos h3]
        rw [cpR_bad e (by decide)]
        exact Evt.yes (decide_eq_true h3) (Evt.some _)
      · have e : cpCode c x K l = 0 := by unfold cpCode; rw [if_neg (by simpa using h1), h2, if_pos rfl, if_neg h3]
        rw [cpR_ok e]
        refine Evt.no (by simpa using h3) (Evt.bind (e48 c K l hc hk hr G) ?_)
        unfold cpT
        refine Evt.ite (fun hb => ?_) (fun hb => ?_)
        · rw [if_pos (of_decide_eq_true hb)]; exact Evt.some _
        rw [if_neg (by simpa using hb)]
        obtain ⟨i0, i1⟩ := bkTo_in c K K.length (by omega)
        obtain ⟨k, hk'⟩ := at_of (l := K) i0 i1
        have ek : K.getD (bkTo c K K.length).1.toNat [] = k := getD_at hk'
        have Gk := (goodKs hk G.hk).el k hk'.mem
        have h8 : inR (c.length : Int) 8 360 = true := inR_iff.2 hcl
        have S := flat_surf (m := c.length) h2
        rw [ek]
        refine Evt.bind (e50 c) (Evt.bind (e49 h8 h2) ?_)
        simp only [Int.toNat_natCast]
        refine for_evt' 0 (l.length : Int) (fun i (_ : Unit) => (c, x, K, (doF K (l.take i.toNat) (List.replicate c.length x)).1, l, (l.length : Int), i, ())) (fun _ _ => True) (b0 := ()) (by simp [doF]) (by omega) trivial ?_ ?_
        · intro i _ h5 h6 _
          obtain ⟨v, hv⟩ := at_of h5 h6
          obtain ⟨S1, b1, b2, _⟩ := doF_surf hk GL S i.toNat
          refine Round.yes (decide_eq_true h6) (Round.at hv.idx (Round.bind (e51 hk hr GL S1 hv.mem) (Round.again _ ⟨(), ?_, trivial⟩)))
          rw [hv.take, doF_snoc, wr_succ h5 h6 (by omega)]
        · intro _ _
          simp only [take_all]
          refine Round.no (by simp) (Round.done (Evt.bind (e52 hc hk hc0 hc1 hC (goodKs hk G.hk) (by omega)) (Evt.at hk'.idx (Evt.bind (e53 hc (hk.el k hk'.mem) hc0 hc1 hC Gk) ?_))))
          obtain ⟨S1, _, _, hle⟩ := doF_surf hk GL S l.length
          rw [List.take_length] at S1 hle
          have hte := leftL_bd hc0 hC Gk
          have htl := leftL_len c k
          obtain ⟨d, hd⟩ : ∃ d, d = (doF K l (List.replicate c.length x)).1 := ⟨_, rfl⟩
          rw [← hd] at S1 hle
          obtain ⟨t, ht⟩ : ∃ t, t = leftL c k := ⟨_, rfl⟩
          rw [← ht] at hte htl
          have hdl := S1.len
          have hde := S1.el
          rw [← hd, ← ht]
          have hx := inR_iff.1 h2
          refine for_evt' 0 (t.length : Int) (fun i (_ : Unit) => (x, d, t, (t.length : Int), i, ())) (fun i _ => allTo (fun i => !decide (g d i > g t i)) i.toNat = true) (b0 := ()) rfl (by omega) (by simp [allTo]) ?_ ?_
          · intro i _ h5 h6 hp
            have a1 := g_idx (l := d) (i := i) h5 (by omega)
            have a2 := g_idx (l := t) (i := i) h5 h6
            have b1 := hde _ a1.mem
            have b2 := hte _ a2.mem
            have b3 := hle i.toNat (by omega)
            rw [g_flat _ _ (by omega)] at b3
            refine Round.yes (decide_eq_true h6) (Round.at a2.idx (Round.chk (decide_eq_true (show 0 ≤ i ∧ i < (d.length : Int) by omega)) (Round.at a1.get ?_)))
            simp only [wrap_id (x := g d i.toNat) (by omega) (by omega), wrap_id (x := g t i.toNat) (by omega) (by omega)]
            have hiff : decide (g d i.toNat > (if x < g t i.toNat then x else g t i.toNat)) = decide (g d i.toNat > g t i.toNat) := by
              split
              · rw [decide_eq_decide]; omega
              · rfl
            rw [hiff]
            refine Round.ite (fun hb => ?_) (fun hb => ?_)
            · have : notOver d t = false := allTo_false (i := i.toNat) (by omega) (by rw [hb]; rfl)
              rw [this]
              exact Round.done (Evt.some _)
            · have hb : decide (g d i.toNat > g t i.toNat) = false := by simpa using hb
              refine Round.again _ ⟨(), by rw [wr_succ h5 h6 (by omega)], ?_⟩
              rw [show (i + 1).toNat = i.toNat + 1 by omega, allTo_succ, hp, hb]
              rfl
          · intro _ hp
            have : notOver d t = true := by rw [Int.toNat_natCast, htl, ← hdl] at hp; exact hp
            rw [this]
            exact Round.no (by simp) (Round.done (Evt.some _))
  · have e : cpCode c x K l = gvCode c K l := by unfold cpCode; rw [if_pos h1]
    rw [cpR_bad e h1]
    have hf : fst0 [gvCode c K l, if (!inR x 0 10000) = true then 2 else 0] = gvCode c K l := by simp [fst0, h1]
    rw [hf]
    exact Evt.yes (by simpa using h1) (Evt.some _)
/- impl.FirstTooDeep -/
theorem e13 (c : List Int) (K : List (List Int)) (l : List Ct) (hc : Rng c) (hk : RngS K) (hr : RngC l) : Evt (fun n => call T C n 13 (c, K, l, ())) (ftR c K l, ()) := by
  refine Evt.next (Evt.bind (e47 c K l hc hk hr) ?_) (fun n => r13 n c K l)
  unfold ftR
  refine Evt.ite (fun h => ?_) (fun h => ?_)
  · rw [if_pos (by simpa using h)]; exact Evt.some _
  have h : gvCode c K l = 0 := by simpa using h
  rw [if_neg (by simpa using h)]
  refine Evt.bind (e48 c K l hc hk hr (goodG hr h)) (Evt.ite (fun hb => ?_) (fun hb => ?_))
  · rw [if_pos (of_decide_eq_true hb)]; exact Evt.some _
  · rw [if_neg (by simpa using hb)]; exact Evt.some _
/- spec.FlatCam -/
theorem e14 {m : Nat} {x : Int} (h8 : 8 ≤ m) (hm : m ≤ 360) (x0 : 0 ≤ x) (x1 : x ≤ 10000) : Evt (fun n => call T C n 14 ((m : Int), x, ())) ((List.replicate m x, 0, ()), ()) := by
  have hs := e54 (m : Int)
  rw [show inR (m : Int) 8 360 = true from inR_iff.2 ⟨by omega, by omega⟩] at hs
  have hl := e41 x
  rw [inR_iff.2 ⟨x0, x1⟩] at hl
  refine Evt.next (Evt.bind hs (Evt.no (by simp) (Evt.bind hl (Evt.no (by simp) ?_)))) (fun n => r14 n m x)
  refine for_evt' 0 (m : Int) (fun i (_ : Unit) => ((m : Int), x, List.replicate i.toNat x, i, ())) (fun _ _ => True) (b0 := ()) rfl (by omega) trivial ?_ ?_
  · intro i _ h2 h3 _
    refine Round.yes (decide_eq_true h3) (Round.chk (decide_eq_true (by simp only [List.length_cons, List.length_nil, List.length_replicate]; omega)) (Round.again _ ⟨(), ?_, trivial⟩))
    rw [wr_succ h2 h3 (by omega), wrap16 (x := x) (by omega) (by omega), show (i + 1).toNat = i.toNat + 1 by omega, List.replicate_succ']
  · intro _ _
    rw [Int.toNat_natCast]
    exact Round.no (by simp) (Round.done (Evt.some _))
/- slices.Clone[impl.Cam,int16] -/
theorem e55 (l : List Int) (h0 : l.length ≠ 0) (hl : (l.length : Int) ≤ 1000000) : Evt (fun n => call T C n 55 (l, ())) ((l, ()), ()) :=
  Evt.next (Evt.yes (decide_eq_true h0) (Evt.chk (by simp; omega) (Evt.some _))) (fun n => r55 n l)
/- impl.DoCuts -/
theorem e15 (c : List Int) (K : List (List Int)) (l : List Ct) (hc : Rng c) (hk : RngS K) (hr : RngC l) : Evt (fun n => call T C n 15 (c, K, l, ())) (doR c K l, ()) := by
  refine Evt.next (Evt.bind (e47 c K l hc hk hr) ?_) (fun n => r15 n c K l)
  unfold doR
  refine Evt.ite (fun h => ?_) (fun h => ?_)
  · rw [if_pos (by simpa using h)]; exact Evt.some _
  have h : gvCode c K l = 0 := by simpa using h
  rw [if_neg (by simpa using h)]
  have G := goodG hr h
  have hcl := okC_len G.hc
  have S := okC_surf hc G.hc
  have GL := G.toL
  have hl := G.l
  refine Evt.bind (e55 c (by omega) (by omega)) ?_
  refine for_evt' 0 (l.length : Int) (fun i (_ : Unit) => (K, (doF K (l.take i.toNat) c).1, (doF K (l.take i.toNat) c).2, l, (l.length : Int), i, ())) (fun _ _ => True) (b0 := ()) (by simp [doF]) (by omega) trivial ?_ ?_
  · intro i _ h2 h3 _
    obtain ⟨v, hv⟩ := at_of h2 h3
    obtain ⟨S1, b1, b2, _⟩ := doF_surf hk GL S i.toNat
    obtain ⟨S2, c1, c2, _⟩ := cut1_surf hk GL hv.mem S1
    refine Round.yes (decide_eq_true h3) (Round.at hv.idx (Round.bind (e51 hk hr GL S1 hv.mem) (Round.again _ ⟨(), ?_, trivial⟩)))
    rw [hv.take, doF_snoc, wr_succ h2 h3 (by omega), wrap_id (x := (doF K (l.take i.toNat) c).2 + (cut1 K v (doF K (l.take i.toNat) c).1).2) (by omega) (by omega)]
  · intro _ _
    simp only [take_all]
    exact Round.no (by simp) (Round.done (Evt.some _))
/- spec.l06Asked -/
theorem e56 (c k : List Int) (hc : Rng c) (hk : Rng k) : Evt (fun n => call T C n 56 (c, k, ())) ((cutCode c k, ()), ()) := by
  have hl := hc.len'
  refine Evt.next (Evt.bind (e27 c (by omega)) ?_) (fun n => r56 n c k)
  unfold cutCode
  cases okC c with
  | false => exact Evt.yes rfl (Evt.some _)
  | true =>
    refine Evt.no (by simp) (Evt.bind (e92 k hk) ?_)
    cases okK k with
    | false => exact Evt.yes rfl (Evt.some _)
    | true => exact Evt.no (by simp) (Evt.some _)
/- spec.l06Cut -/
theorem e65 {o k : List Int} (hk : Rng k) (hl0 : 0 < o.length) (hl1 : o.length ≤ 1000) (ho : ∀ v ∈ o, 0 ≤ v ∧ v ≤ 10000) (G : GoodK k) {s t : Int} (h0 : 0 ≤ s) (h1 : s ≤ 1000000) (t0 : 0 ≤ t) (t1 : t ≤ 1000000) : Evt (fun n => call T C n 65 (o, k, s, t, ())) (((cutTo k s t o k.length).1, (cutTo k s t o k.length).2, ()), ()) := by
  have hd : Int.tdiv (k.length : Int) 2 = ((k.length / 2 : Nat) : Int) := by rw [show (2 : Int) = ((2 : Nat) : Int) from rfl, ← Int.ofNat_tdiv]
  have hlo := G.lo
  have hhi := G.hi
  have hodd := G.odd
  refine Evt.next (Evt.chk (by simp; omega) (Evt.chk rfl ?_)) (fun n => r65 n o k s t)
  rw [hd, wrap_id (x := ((k.length / 2 : Nat) : Int)) (by omega) (by omega), wrap_id (x := 0 - ((k.length / 2 : Nat) : Int)) (by omega) (by omega)]
  refine for_evt' 0 (k.length : Int) (fun i (_ : Unit) => (k, s, t, (cutTo k s t o i.toNat).1, (o.length : Int), ((k.length / 2 : Nat) : Int), (cutTo k s t o i.toNat).2, i - ((k.length / 2 : Nat) : Int), ())) (fun _ _ => True) (b0 := ()) (by simp [cutTo]) (by omega) trivial ?_ ?_
  · intro i _ h2 h3 _
    obtain ⟨a, rfl⟩ : ∃ a : Nat, i = a := ⟨i.toNat, by omega⟩
    have hai := g_idx (l := k) (i := (a : Int)) (by omega) (by omega)
    rw [Int.toNat_natCast] at hai
    have hka := G.el a (by omega)
    obtain ⟨b1, b2, b3⟩ := cutTo_bd k s hl0 t0 (fun i hi => (G.el i hi).1) ho a (by omega)
    have hlen := cutTo_len k s t o a
    have hpl := place_lt k s hl0 a
    have hplace : ((place k s o.length a : Nat) : Int) = (s + (a : Int) - ((k.length / 2 : Nat) : Int)) % (o.length : Int) := by
      have := Int.emod_nonneg (s + (a : Int) - ((k.length / 2 : Nat) : Int)) (show (o.length : Int) ≠ 0 by omega)
      unfold place half
      omega
    have hat := g_idx (l := (cutTo k s t o a).1) (i := ((place k s o.length a : Nat) : Int)) (by omega) (by omega)
    rw [Int.toNat_natCast] at hat
    have hv := b1 _ (g_mem (l := (cutTo k s t o a).1) (i := place k s o.length a) (by omega))
    have hget : (cutTo k s t o a).1[place k s o.length a]? = some (g (cutTo k s t o a).1 (place k s o.length a)) := by have := hat.get; rwa [Int.toNat_natCast] at this
    have hat2 : Int.tmod (wr .i64 (Int.tmod (s + (a : Int) - ((k.length / 2 : Nat) : Int)) (o.length : Int) + (o.length : Int))) (o.length : Int) = ((place k s o.length a : Nat) : Int) := by
      rw [hplace]; exact turn_at (by omega) (by omega) (by omega) (by omega)
    simp only [Int.toNat_natCast, wrap_id (x := s + (a : Int) - ((k.length / 2 : Nat) : Int)) (by omega) (by omega), wrap_id (x := s + ((a : Int) - ((k.length / 2 : Nat) : Int))) (by omega) (by omega), show s + ((a : Int) - ((k.length / 2 : Nat) : Int)) = s + (a : Int) - ((k.length / 2 : Nat) : Int) by omega, hat2, show ((k.length / 2 : Nat) : Int) + ((a : Int) - ((k.length / 2 : Nat) : Int)) = a by omega, wrap_id (x := (a : Int)) (by omega) (by omega), wrap_id (x := (a : Int) - ((k.length / 2 : Nat) : Int) + 1) (by omega) (by omega)]
    refine Round.yes (decide_eq_true (by omega)) (Round.chk (bne_pos (by omega)) (Round.chk (bne_pos (by omega)) (Round.at hai.idx ?_)))
    simp only [hk.id (g_mem (l := k) (i := a) (by omega)), wrap_id (x := t + g k a) (by omega) (by omega)]
    refine Round.chk (decide_eq_true ⟨by omega, by omega⟩) (Round.at hget ?_)
    simp only [wrap_id (x := g (cutTo k s t o a).1 (place k s o.length a)) (by omega) (by omega)]
    refine Round.ite (fun hc => ?_) (fun hc => ?_)
    · have hc : g (cutTo k s t o a).1 (place k s o.length a) > t + g k a := of_decide_eq_true hc
      refine Round.chk (decide_eq_true ⟨by omega, by omega⟩) (Round.at hget (Round.chk (decide_eq_true ⟨by omega, by omega⟩) (Round.at hget (Round.again _ ⟨(), ?_, trivial⟩))))
      rw [show ((a : Int) + 1).toNat = a + 1 by omega, cutTo_succ, if_pos hc, wrap16 (x := t + g k a) (by omega) (by omega), wrap_id (x := g (cutTo k s t o a).1 (place k s o.length a)) (by omega) (by omega), wrap_id (x := g (cutTo k s t o a).1 (place k s o.length a) - (t + g k a)) (by omega) (by omega), wrap_id (x := (cutTo k s t o a).2 + (g (cutTo k s t o a).1 (place k s o.length a) - (t + g k a))) (by omega) (by omega)]
      rw [show (a : Int) - ((k.length / 2 : Nat) : Int) + 1 = (a : Int) + 1 - ((k.length / 2 : Nat) : Int) by omega]
    · have hc : ¬ g (cutTo k s t o a).1 (place k s o.length a) > t + g k a := by simpa using hc
      refine Round.again _ ⟨(), ?_, trivial⟩
      rw [show ((a : Int) + 1).toNat = a + 1 by omega, cutTo_succ, if_neg hc]
      rw [show (a : Int) - ((k.length / 2 : Nat) : Int) + 1 = (a : Int) + 1 - ((k.length / 2 : Nat) : Int) by omega]
  · intro _ _
    simp only [Int.toNat_natCast]
    exact Round.no (by simp; omega) (Round.done (Evt.some _))
/- spec.l06Left -/
theorem e57 {c k : List Int} (hc : Rng c) (hk : Rng k) (hl0 : 0 < c.length) (hl1 : c.length ≤ 1000) (hC : ∀ v ∈ c, 0 ≤ v ∧ v ≤ 10000) (G : GoodK k) : Evt (fun n => call T C n 57 (c, k, ())) ((leftL c k, ()), ()) := by
  refine Evt.next ?_ (fun n => r57 n c k)
  refine for_evt' 0 (c.length : Int) (fun i (_ : Unit) => (c, k, List.replicate i.toNat (10000 : Int), (c.length : Int), i, ())) (fun _ _ => True) (b0 := ()) rfl (by omega) trivial ?_ ?_
  · intro i _ h2 h3 _
    refine Round.yes (decide_eq_true h3) (Round.chk (by simp; omega) (Round.again _ ⟨(), ?_, trivial⟩))
    rw [wr_succ h2 h3 (by omega), show (i + 1).toNat = i.toNat + 1 by omega, List.replicate_succ']
  · intro _ _
    simp only [Int.toNat_natCast]
    refine Round.no (by simp) (Round.bind (e44 hc hk hl0 hl1 hC G) (Round.done ?_))
    refine for_evt' 0 (c.length : Int) (fun i (_ : Unit) => (k, leftTo c k i.toNat, tipsL c k c.length, i, ())) (fun _ _ => True) (b0 := ()) rfl (by omega) trivial ?_ ?_
    · intro i _ h2 h3 _
      obtain ⟨a, rfl⟩ : ∃ a : Nat, i = a := ⟨i.toNat, by omega⟩
      have hta := g_idx (l := tipsL c k c.length) (i := (a : Int)) (by omega) (by rw [tipsL_len]; omega)
      rw [Int.toNat_natCast, g_tips c k (show a < c.length by omega)] at hta
      have hlen := leftTo_len c k a
      have ht := tipTo_bd hl0 hC G.el (a : Nat) k.length (Nat.le_refl _)
      simp only [Int.toNat_natCast]
      refine Round.yes (decide_eq_true (by rw [tipsL_len]; omega)) (Round.at hta.idx (Round.bind (e65 hk (by omega) (by omega) (leftTo_bd hl0 hC G a) G (s := (a : Int)) (t := tip c k (a : Nat)) (by omega) (by omega) ht.1 (show tip c k (a : Nat) ≤ 1000000 by have : tip c k (a : Nat) ≤ 10000 := ht.2; omega)) (Round.again _ ⟨(), ?_, trivial⟩)))
      rw [wr_succ h2 h3 (by omega), show ((a : Int) + 1).toNat = a + 1 by omega, leftTo_succ]
    · intro _ _
      simp only [Int.toNat_natCast]
      exact Round.no (by simp [tipsL_len]) (Round.done (Evt.some _))
/- spec.LeftBy -/
theorem e16 (c k : List Int) (hc : Rng c) (hk : Rng k) (h1 : okC c = true) (h2 : okK k = true) : Evt (fun n => call T C n 16 (c, k, ())) ((leftL c k, 0, ()), ()) := by
  have hl := okC_len h1
  have e : cutCode c k = 0 := by unfold cutCode; rw [h1, h2]; rfl
  have hE := e56 c k hc hk
  rw [e] at hE
  refine Evt.next (Evt.bind hE ?_) (fun n => r16 n c k)
  exact Evt.no (by decide) (Evt.bind (e57 hc hk (by omega) (by omega) (okC_el h1 hc) (goodK hk h2)) (Evt.some _))
/- spec.l01Same -/
theorem e58 (l : List Int) (hl : (l.length : Int) ≤ 1000000) : Evt (fun n => call T C n 58 (l, l, ())) ((true, ()), ()) := by
  refine Evt.next (Evt.no (by simp) ?_) (fun n => r58 n l l)
  refine for_evt' 0 (l.length : Int) (fun i (_ : Unit) => (l, l, i, ())) (fun _ _ => True) (b0 := ()) rfl (by omega) trivial ?_ ?_
  · intro i _ h2 h3 _
    obtain ⟨v, hv⟩ := at_of h2 h3
    exact Round.yes (decide_eq_true h3) (Round.at hv.idx (Round.at hv.idx (Round.no (by simp) (Round.again _ ⟨(), by rw [wr_succ h2 h3 (by omega)], trivial⟩))))
  · intro _ _
    exact Round.no (by simp) (Round.done (Evt.some _))
theorem e582 (a b : List Int) (hl : (a.length : Int) ≤ 1000000) : Evt (fun n => call T C n 58 (a, b, ())) ((decide (a = b), ()), ()) := by
  by_cases hlen : a.length = b.length
  · refine Evt.next (Evt.no (by simp [hlen]) ?_) (fun n => r58 n a b)
    refine for_evt' 0 (a.length : Int) (fun i (_ : Unit) => (a, b, i, ())) (fun i _ => a.take i.toNat = b.take i.toNat) (b0 := ()) rfl (by omega) (by simp) ?_ ?_
    · intro i _ h2 h3 he
      obtain ⟨u, hu⟩ := at_of h2 h3
      obtain ⟨v, hv⟩ := at_of (l := b) h2 (by omega)
      refine Round.yes (decide_eq_true h3) (Round.at hu.idx (Round.at hv.idx (Round.ite (fun h => ?_) (fun h => ?_))))
      · have h : u ≠ v := by simpa using h
        have : a ≠ b := fun e => by
          subst e
          have := hu.get.symm.trans hv.get
          exact h (Option.some.inj this)
        rw [decide_eq_false this]
        exact Round.done (Evt.some _)
      · have h : u = v := by simpa using h
        exact Round.again _ ⟨(), by rw [wr_succ h2 h3 (by omega)], by rw [hu.take, hv.take, he, h]⟩
    · intro _ he
      have he : a = b := by rwa [take_all, hlen, take_all] at he
      rw [decide_eq_true he]
      exact Round.no (by simp) (Round.done (Evt.some _))
  · have : a ≠ b := fun e => hlen (by rw [e])
    rw [decide_eq_false this]
    exact Evt.next (Evt.yes (by simp; omega) (Evt.some _)) (fun n => r58 n a b)
/- spec.SameCam -/
theorem e17 (l : List Int) (hl : (l.length : Int) ≤ 1000000) : Evt (fun n => call T C n 17 (l, l, ())) ((true, ()), ()) := Evt.next (Evt.bind (e58 l hl) (Evt.some _)) (fun n => r17 n l l)
theorem e172 (a b : List Int) (hl : (a.length : Int) ≤ 1000000) : Evt (fun n => call T C n 17 (a, b, ())) ((decide (a = b), ()), ()) := Evt.next (Evt.bind (e582 a b hl) (Evt.some _)) (fun n => r17 n a b)
/- impl.IdleCuts -/
theorem e18 (x n0 : Int) (K : List (List Int)) (l : List Ct) (hk : RngS K) (hr : RngC l) : Evt (fun n => call T C n 18 (x, n0, K, l, ())) (idR x n0 K l, ()) := by
  refine Evt.next (Evt.bind (e59 l K hk hr) (Evt.bind (e30 _ _) (Evt.bind (e34 x) ?_))) (fun n => r18 n x n0 K l)
  have bad : ∀ b, okCuts l K = b → (inR n0 8 360 && inR x 0 10000 && onCt l n0) = false → idR x n0 K l = ([], (if (!b) = true then 1 else 2), ()) := fun b h1 h2 => by
    unfold idR
    rw [h1, h2]
    cases b <;> rfl
  have hf : ∀ b : Bool, Evt (fun n => call T C n 29 ([if (!b) = true then (1 : Int) else 0, 2], ())) (((if (!b) = true then 1 else 2), ()), ()) := fun b => by
    have h := e29 [if (!b) = true then (1 : Int) else 0, 2] (by simp)
    rw [show fst0 [if (!b) = true then (1 : Int) else 0, 2] = (if (!b) = true then 1 else 2) by cases b <;> rfl] at h
    exact h
  cases h3 : inR x 0 10000 with
  | false =>
    rw [bad _ rfl (by rw [h3]; simp)]
    refine Evt.yes rfl (Evt.bind (e30 _ _) (Evt.bind (hf _) (Evt.yes ?_ (Evt.some _))))
    cases okCuts l K <;> rfl
  | true =>
    refine Evt.no (by simp) (Evt.bind (e60 n0) ?_)
    cases h2 : inR n0 8 360 with
    | false =>
      rw [bad _ rfl (by rw [h2]; simp)]
      refine Evt.yes rfl (Evt.bind (e30 _ _) (Evt.bind (hf _) (Evt.yes ?_ (Evt.some _))))
      cases okCuts l K <;> rfl
    | true =>
      refine Evt.no (by simp) (Evt.bind (e61 l hr _) (Evt.bind (e30 _ _) ?_))
      cases h4 : onCt l n0 with
      | false =>
        rw [bad _ rfl (by rw [h4]; simp)]
        refine Evt.bind (hf _) (Evt.yes ?_ (Evt.some _))
        cases okCuts l K <;> rfl
      | true =>
        refine Evt.bind (e29 _ (by simp)) ?_
        cases h1 : okCuts l K with
        | false =>
          have e : idR x n0 K l = ([], 1, ()) := by unfold idR; rw [h1]; rfl
          rw [e]
          exact Evt.yes rfl (Evt.some _)
        | true =>
          have e : idR x n0 K l = ((idF K l (List.replicate n0.toNat x)).2.1, 0, ()) := by unfold idR; rw [h1, h2, h3, h4]; rfl
          rw [e]
          refine Evt.no (by decide) (Evt.bind (e49 h2 h3) ?_)
          have G := goodL hr h1 h2 h4
          have S := flat_surf (m := n0.toNat) h3
          have hl := G.l
          refine for_evt' 0 (l.length : Int) (fun i (_ : Unit) => (K, (idF K (l.take i.toNat) (List.replicate n0.toNat x)).1, (idF K (l.take i.toNat) (List.replicate n0.toNat x)).2.1, l, (l.length : Int), i, ())) (fun _ _ => True) (b0 := ()) (by simp [idF]) (by omega) trivial ?_ ?_
          · intro i _ h5 h6 _
            obtain ⟨v, hv⟩ := at_of h5 h6
            obtain ⟨S1, b1, b2⟩ := idF_surf hk G S (i := i.toNat) (by omega)
            refine Round.yes (decide_eq_true h6) (Round.at hv.idx (Round.bind (e51 hk hr G S1 hv.mem) ?_))
            refine Round.ite (fun hb => ?_) (fun hb => ?_)
            · have hb : (cut1 K v (idF K (l.take i.toNat) (List.replicate n0.toNat x)).1).2 = 0 := by simpa using hb
              refine Round.chk (by simp; omega) (Round.again _ ⟨(), ?_, trivial⟩)
              rw [hv.take, idF_snoc, wr_succ h5 h6 (by omega)]
              simp only [idS]
              rw [if_pos hb, b2, show ((i.toNat : Nat) : Int) = i by omega]
            · have hb : ¬ (cut1 K v (idF K (l.take i.toNat) (List.replicate n0.toNat x)).1).2 = 0 := by simpa using hb
              refine Round.again _ ⟨(), ?_, trivial⟩
              rw [hv.take, idF_snoc, wr_succ h5 h6 (by omega)]
              simp only [idS]
              rw [if_neg hb]
          · intro _ _
            simp only [take_all]
            exact Round.no (by simp) (Round.done (Evt.some _))
/- spec.l06Blank -/
theorem e64 {n0 x : Int} (hn : inR n0 8 360 = true) (hx : inR x 0 10000 = true) : Evt (fun n => call T C n 64 (n0, x, ())) ((List.replicate n0.toNat x, ()), ()) := by
  have hn := inR_iff.1 hn
  have hx := inR_iff.1 hx
  refine Evt.next ?_ (fun n => r64 n n0 x)
  refine for_evt' 0 n0 (fun i (_ : Unit) => (n0, x, List.replicate i.toNat x, i, ())) (fun _ _ => True) (b0 := ()) rfl (by omega) trivial ?_ ?_
  · intro i _ h2 h3 _
    refine Round.yes (decide_eq_true h3) (Round.chk (by simp; omega) (Round.again _ ⟨(), ?_, trivial⟩))
    rw [wr_succ h2 h3 (by omega), wrap16 (x := x) (by omega) (by omega), show (i + 1).toNat = i.toNat + 1 by omega, List.replicate_succ']
  · intro _ _
    exact Round.no (by simp) (Round.done (Evt.some _))
/- spec.IdleCuts -/
theorem e19 (x n0 : Int) (K : List (List Int)) (l : List Ct) (hk : RngS K) (hr : RngC l) : Evt (fun n => call T C n 19 (x, n0, K, l, ())) (idR x n0 K l, ()) := by
  refine Evt.next (Evt.bind (e62 l K hk) ?_) (fun n => r19 n x n0 K l)
  unfold idR
  cases h1 : okCuts l K with
  | false => exact Evt.yes rfl (Evt.some _)
  | true =>
    refine Evt.no (by simp) (Evt.bind (e54 n0) ?_)
    cases h2 : inR n0 8 360 with
    | false => exact Evt.yes rfl (Evt.some _)
    | true =>
      refine Evt.no (by simp) (Evt.bind (e41 x) ?_)
      cases h3 : inR x 0 10000 with
      | false => exact Evt.yes rfl (Evt.some _)
      | true =>
        refine Evt.no (by simp) (Evt.bind (e63 l hr _) ?_)
        cases h4 : onCt l n0 with
        | false => exact Evt.yes rfl (Evt.some _)
        | true =>
          refine Evt.no (by simp) (Evt.bind (e64 h2 h3) ?_)
          have G := goodL hr h1 h2 h4
          have S := flat_surf (m := n0.toNat) h3
          have hl := G.l
          have m0 := G.m0
          have m1 := G.m1
          refine for_evt' 0 (l.length : Int) (fun i (_ : Unit) => (K, l, (idF K (l.take i.toNat) (List.replicate n0.toNat x)).1, (idF K (l.take i.toNat) (List.replicate n0.toNat x)).2.1, i, ())) (fun _ _ => True) (b0 := ()) (by simp [idF]) (by omega) trivial ?_ ?_
          · intro i _ h5 h6 _
            obtain ⟨v, hv⟩ := at_of h5 h6
            obtain ⟨g1, g2, g3⟩ := G.el v hv.mem
            obtain ⟨k, hk'⟩ := at_of (l := K) g3.1 g3.2
            have e : kOf K v = k := getD_at hk'
            obtain ⟨S1, b1, b2⟩ := idF_surf hk G S (i := i.toNat) (by omega)
            refine Round.yes (decide_eq_true h6) (Round.at hv.idx (Round.at hk'.idx (Round.at hv.idx (Round.at hv.idx ?_))))
            simp only [hr.i1 hv.mem, hr.i2 hv.mem]
            have hl1 := S1.len
            have e2 : cutTo k v.1 v.2.1 (idF K (l.take i.toNat) (List.replicate n0.toNat x)).1 k.length = cut1 K v (idF K (l.take i.toNat) (List.replicate n0.toNat x)).1 := by unfold cut1; rw [e]
            refine Round.bind (e65 (hk.el k hk'.mem) (by omega) (by omega) S1.el ((goodKs hk G.hk).el k hk'.mem) g1.1 (by omega) g2.1 (by omega)) ?_
            rw [e2]
            refine Round.ite (fun hb => ?_) (fun hb => ?_)
            · have hb : (cut1 K v (idF K (l.take i.toNat) (List.replicate n0.toNat x)).1).2 = 0 := by simpa using hb
              refine Round.chk (by simp; omega) (Round.again _ ⟨(), ?_, trivial⟩)
              rw [hv.take, idF_snoc, wr_succ h5 h6 (by omega)]
              simp only [idS]
              rw [if_pos hb, b2, show ((i.toNat : Nat) : Int) = i by omega]
            · have hb : ¬ (cut1 K v (idF K (l.take i.toNat) (List.replicate n0.toNat x)).1).2 = 0 := by simpa using hb
              refine Round.again _ ⟨(), ?_, trivial⟩
              rw [hv.take, idF_snoc, wr_succ h5 h6 (by omega)]
              simp only [idS]
              rw [if_neg hb]
          · intro _ _
            simp only [take_all]
            exact Round.no (by simp) (Round.done (Evt.some _))
/- spec.l00Same -/
theorem e66 (l : List Int) (hl : (l.length : Int) ≤ 1000000) : Evt (fun n => call T C n 66 (l, l, ())) ((true, ()), ()) := by
  refine Evt.next (Evt.no (by simp) ?_) (fun n => r66 n l l)
  refine for_evt' 0 (l.length : Int) (fun i (_ : Unit) => (l, l, i, ())) (fun _ _ => True) (b0 := ()) rfl (by omega) trivial ?_ ?_
  · intro i _ h2 h3 _
    obtain ⟨v, hv⟩ := at_of h2 h3
    exact Round.yes (decide_eq_true h3) (Round.at hv.idx (Round.at hv.idx (Round.no (by simp) (Round.again _ ⟨(), by rw [wr_succ h2 h3 (by omega)], trivial⟩))))
  · intro _ _
    exact Round.no (by simp) (Round.done (Evt.some _))
/- spec.A2Same -/
theorem e20 (l : List Int) (hl : (l.length : Int) ≤ 1000000) : Evt (fun n => call T C n 20 (l, l, ())) ((true, ()), ()) := Evt.next (Evt.bind (e66 l hl) (Evt.some _)) (fun n => r20 n l l)
/- spec.A2Has -/
theorem e21 (l : List Int) (x : Int) (hl : (l.length : Int) ≤ 1000000) : Evt (fun n => call T C n 21 (l, x, ())) ((l.any (fun v => v == x), ()), ()) := by
  refine Evt.next ?_ (fun n => r21 n l x)
  refine for_evt' 0 (l.length : Int) (fun i (_ : Unit) => (l, x, i, ())) (fun i _ => l.any (fun v => v == x) = (l.drop i.toNat).any (fun v => v == x)) (b0 := ()) rfl (by omega) (by simp) ?_ ?_
  · intro i _ h2 h3 hp
    obtain ⟨v, hv⟩ := at_of h2 h3
    rw [hv.drop] at hp
    simp only [List.any_cons] at hp
    refine Round.yes (decide_eq_true h3) (Round.at hv.idx ?_)
    cases hb : v == x with
    | true =>
      rw [hp, hb]
      exact Round.yes rfl (Round.done (Evt.some _))
    | false =>
      rw [hb, Bool.false_or] at hp
      exact Round.no (by simp) (Round.again _ ⟨(), by rw [wr_succ h2 h3 (by omega)], hp⟩)
  · intro _ hp
    rw [drop_all] at hp
    rw [hp]
    exact Round.no (by simp) (Round.done (Evt.some _))
/- spec.l06Deep -/
theorem e67 (c : List Int) (K : List (List Int)) (l : List Ct) (hc : Rng c) (hk : RngS K) (hr : RngC l) (G : GoodG c K l) : Evt (fun n => call T C n 67 (c, K, l, ())) ((fi (deepF c K) l 0, ()), ()) := by
  have hcl := okC_len G.hc
  have hC := okC_el G.hc hc
  have GK := goodKs hk G.hk
  have hl := G.l
  refine Evt.next ?_ (fun n => r67 n c K l)
  refine for_evt' 0 (l.length : Int) (fun i (_ : Unit) => (c, K, l, i, ())) (fun i _ => fi (deepF c K) l 0 = fi (deepF c K) (l.drop i.toNat) i) (b0 := ()) rfl (by omega) (by simp) ?_ ?_
  · intro i _ h2 h3 hp
    obtain ⟨v, hv⟩ := at_of h2 h3
    obtain ⟨g1, g2, g3⟩ := G.el v hv.mem
    obtain ⟨k, hk'⟩ := at_of (l := K) g3.1 g3.2
    have hkd : K.getD v.2.2.1.toNat [] = k := getD_at hk'
    rw [hv.drop] at hp
    simp only [fi] at hp
    refine Round.yes (decide_eq_true h3) (Round.at hv.idx (Round.at hv.idx (Round.at hk'.idx (Round.at hv.idx ?_))))
    simp only [hr.i1 hv.mem, hr.i2 hv.mem]
    refine Round.bind (e82 hc (hk.el k hk'.mem) (by omega) (by omega) hC (GK.el k hk'.mem) g1.1 (show v.1 ≤ 1000000 by omega)) ?_
    have hdf : deepF c K v = decide (v.2.1 < tip c k v.1) := by unfold deepF; rw [hkd]
    refine Round.ite (fun hb => ?_) (fun hb => ?_)
    · rw [hdf, if_pos hb] at hp
      rw [hp]
      exact Round.done (Evt.some _)
    · rw [hdf, if_neg hb] at hp
      exact Round.again _ ⟨(), by rw [wr_succ h2 h3 (by omega)], hp⟩
  · intro _ hp
    rw [drop_all] at hp
    rw [hp]
    exact Round.no (by simp) (Round.done (Evt.some _))
/- spec.FirstTooDeep -/
theorem e22 (c : List Int) (K : List (List Int)) (l : List Ct) (hc : Rng c) (hk : RngS K) (hr : RngC l) : Evt (fun n => call T C n 22 (c, K, l, ())) (ftR c K l, ()) := by
  refine Evt.next (Evt.bind (e40 c K l hc hk hr) ?_) (fun n => r22 n c K l)
  unfold ftR
  refine Evt.ite (fun h => ?_) (fun h => ?_)
  · rw [if_pos (by simpa using h)]; exact Evt.some _
  have h : gvCode c K l = 0 := by simpa using h
  rw [if_neg (by simpa using h)]
  refine Evt.bind (e67 c K l hc hk hr (goodG hr h)) (Evt.ite (fun hb => ?_) (fun hb => ?_))
  · rw [if_pos (of_decide_eq_true hb)]; exact Evt.some _
  · rw [if_neg (by simpa using hb)]; exact Evt.some _
/- laws.FnMilled -/
theorem e3 (x y : List Int) (hd : DomA (C 3).params (x, y, ())) : Evt (fun n => call T C n 3 (x, y, ())) ((true, ()), ()) := by
  have hx : ∀ v ∈ x, 0 ≤ v ∧ v ≤ 255 := byte_of hd.1
  have hy : ∀ v ∈ y, 0 ≤ v ∧ v ≤ 255 := byte_of hd.2.1
  refine Evt.next (Evt.bind (e4 x y) ?_) (fun n => r3 n x y)
  cases hlong : (decide ((x.length : Int) > 3000) || decide ((y.length : Int) > 3000)) with
  | true => exact Evt.yes rfl (Evt.some _)
  | false =>
    simp only [Bool.or_eq_false_iff, decide_eq_false_iff_not] at hlong
    obtain ⟨c, hC, S⟩ := e5 hx (by omega)
    obtain ⟨k, hK, SK⟩ := e6 hy (by omega)
    have hl := S.len
    have h0 : 0 < c.length := by omega
    have hel := okC_el S.ok S.rng
    have GK := goodK SK.rng SK.ok
    have hmx : 0 ≤ mxL c ∧ mxL c ≤ 59 := by
      have h1 := (mxF_ge c (c.headD 0)).1
      obtain ⟨v0, hv0⟩ := at_of (l := c) (Int.le_refl 0) (by omega)
      have h2 := S.el v0 hv0.mem
      have h3 := mxF_le c v0 59 h2.2 (fun v hv => (S.el v hv).2)
      have h4 := (mxF_ge c v0).1
      have e : mxL c = mxF c v0 := by unfold mxL; rw [(head_at hv0).1]
      rw [e]; omega
    obtain ⟨v1, hA1, a0, a1⟩ := e8 hy (i := 0) (m := 5) (by omega) (by omega)
    obtain ⟨v2, hA2, b0, b1⟩ := e8 hy (i := 1) (m := 30) (by omega) (by omega)
    obtain ⟨high, eh⟩ : ∃ high, high = mxL c + 1 + v1 := ⟨_, rfl⟩
    have ew : wr .i64 (wr .i64 (mxL c + 1) + v1) = high := by rw [wrap_id (x := mxL c + 1) (by omega) (by omega), wrap_id (by omega) (by omega), eh]
    have ew2 : wr .i64 (5 + v2) = 5 + v2 := wrap_id (by omega) (by omega)
    have hRK : RngS [k] := ⟨by simp, fun u hu => by simp at hu; rw [hu]; exact SK.rng⟩
    have hPi := e9 (c := c) (high := high) (K := [k]) (w := 0) (deep := 5 + v2) S.rng hRK
    have hPs := e10 (c := c) (high := high) (K := [k]) (w := 0) (deep := 5 + v2) S.rng hRK
    have hcode : pcCode c high [k] 0 (5 + v2) = 0 := by
      unfold pcCode
      rw [if_neg (by simp [S.ok, okKs, SK.ok, inR]), if_neg (by simp [inR]; omega), if_neg (by omega)]
    have hlen := pcR_len c high [k] 0 (5 + v2)
    refine Evt.no (by simp) (Evt.bind hC (Evt.bind hK (Evt.bind (e7 S.rng S.ok) (Evt.bind hA1 (Evt.bind hA2 ?_)))))
    simp only [ew, ew2]
    refine Evt.bind hPi (Evt.bind hPs (Evt.no (by simp) (Evt.no (by simp) (Evt.bind (e11 (pcR c high [k] 0 (5 + v2)).1 (by omega)) (Evt.no (by simp) ?_)))))
    have hpl : pcR c high [k] 0 (5 + v2) = pl (tipsL c k c.length) (5 + v2) 0 (high.toNat + 1) high [] := by unfold pcR; rw [hcode]; rfl
    by_cases hz : (pcR c high [k] 0 (5 + v2)).2.1 = 0
    · obtain ⟨L, eL⟩ : ∃ L, L = (pcR c high [k] 0 (5 + v2)).1 := ⟨_, rfl⟩
      have ePc : pcR c high [k] 0 (5 + v2) = (L, 0, ()) := by rw [eL]; exact Prod.ext rfl (Prod.ext hz rfl)
      rw [← eL] at hlen
      have htip : ∀ v ∈ tipsL c k c.length, 0 ≤ v ∧ v ≤ high := fun v hv => by
        simp only [tipsL, List.mem_map, List.mem_range] at hv
        obtain ⟨s, hs, rfl⟩ := hv
        have := tip_top S.rng S.ok GK (s : Nat)
        omega
      obtain ⟨hPl, hT⟩ := pl_spec (t := tipsL c k c.length) (deep := 5 + v2) (w := 0) (B := high) (by omega) (by omega) htip (high.toNat + 1) (above := high) (o := []) (L := L) (Int.le_refl _) (by rw [← hpl]; exact ePc) (fun v hv => (by cases hv)) (fun u hu hge => by
        rw [tipsL_len] at hu
        rw [g_tips c k hu] at hge
        have := tip_top S.rng S.ok GK (u : Nat)
        omega)
      have htl : (tipsL c k c.length).length = c.length := tipsL_len _ _ _
      rw [htl] at hT
      have O : OneK c.length L := ⟨by omega, fun v hv => by
        obtain ⟨u, u1, e1, e2, e3, e4⟩ := hPl v hv
        have := htip _ (g_mem (l := tipsL c k c.length) u1)
        rw [htl] at u1
        omega⟩
      have hne : L ≠ [] := fun e => by have := hT 0 h0; rw [e] at this; cases this
      have hLp : 0 < L.length := List.length_pos_iff.2 hne
      have hRL : RngC L := O.rng (by omega)
      have hsurf := plan_left S.rng S.ok GK (high := high) (by omega) (by omega) hPl hT
      have hcL : gvCode c [k] L = 0 := O.code S.ok SK.ok
      have hdeep : fi (deepF c [k]) L 0 < 0 := fi_none fun v hv => by
        obtain ⟨u, u1, e1, e2, e3, e4⟩ := hPl v hv
        rw [htl] at u1
        rw [g_tips c k u1] at e2
        unfold deepF
        rw [e4, e1]
        exact decide_eq_false (by show ¬ v.2.1 < tip c k (u : Nat); omega)
      have hflO : (List.replicate c.length high).length = c.length := by simp
      have hfle : ∀ v ∈ List.replicate c.length high, 0 ≤ v ∧ v ≤ 10000 := fun v hv => by rw [(List.mem_replicate.1 hv).2]; omega
      have okF : okC (List.replicate c.length high) = true := okC_of (by omega) hfle
      have rngF : Rng (List.replicate c.length high) := rng_bd (by omega) hfle
      have O2 : OneK (List.replicate c.length high).length L := by rw [hflO]; exact O
      have hcF : gvCode (List.replicate c.length high) [k] L = 0 := O2.code okF SK.ok
      have hCh := e12 c high [k] L S.rng hRK hRL
      have hmle : ¬ mxL c > high := by omega
      have hin : inR high 0 10000 = true := inR_iff.2 ⟨by omega, by omega⟩
      have hcp : cpR c high [k] L = (true, 0, ()) := by
        rw [cpR_ok (by unfold cpCode; rw [hcL, hin]; simp; omega)]
        unfold cpT
        rw [if_neg (by omega)]
        have hb := bkTo_in c [k] 1 (by omega)
        have e0 : (bkTo c [k] [k].length).1 = 0 := by show (bkTo c [k] 1).1 = 0; omega
        rw [e0, hsurf]
        show (notOver (leftL c k) (leftL c k), 0, ()) = _
        rw [notOver_self]
      rw [hcp] at hCh
      have hFt := e13 c [k] L S.rng hRK hRL
      have hft : ftR c [k] L = (0, 6, ()) := by unfold ftR; rw [hcL, if_neg (by simp), if_pos hdeep]
      rw [hft] at hFt
      have hFl := e14 (m := c.length) (x := high) (by omega) (by omega) (by omega) (by omega)
      have hDo := e15 (List.replicate c.length high) [k] L rngF hRK hRL
      have hdo : doR (List.replicate c.length high) [k] L = (leftL c k, (doF [k] L (List.replicate c.length high)).2, 0, ()) := by unfold doR; rw [hcF, if_neg (by simp), hsurf]
      rw [hdo] at hDo
      have hLb := e16 c k S.rng SK.rng S.ok SK.ok
      have hSl := e17 (leftL c k) (by rw [leftL_len]; omega)
      have hIi := e18 high (c.length : Int) [k] L hRK hRL
      have hIs := e19 high (c.length : Int) [k] L hRK hRL
      obtain ⟨H, eH⟩ : ∃ H, H = (idF [k] L (List.replicate c.length high)).2.1 := ⟨_, rfl⟩
      have hid : idR high (c.length : Int) [k] L = (H, 0, ()) := by
        unfold idR
        rw [if_pos (O.cuts (by omega) SK.ok), if_pos (by simp only [Bool.and_eq_true]; exact ⟨⟨inR_iff.2 ⟨by omega, by omega⟩, hin⟩, O.on (by omega)⟩), Int.toNat_natCast, eH]
      have hHl := idR_len (x := high) (n := (c.length : Int)) hRK hRL
      rw [hid] at hIi hIs hHl
      have hHl : (H.length : Int) ≤ 400 := hHl
      have hAs := e20 H (by omega)
      rw [ePc]
      refine Evt.no (by simp) (Evt.bind hCh (Evt.bind hFt (Evt.bind hFl (Evt.bind hDo (Evt.bind hLb ?_)))))
      refine Evt.no (by simp) (Evt.no (by simp) (Evt.no (by simp) (Evt.no (by simp) (Evt.no (by simp) (Evt.no (by simp) (Evt.bind hSl (Evt.no (by simp) (Evt.bind hIi (Evt.bind hIs (Evt.no (by simp) (Evt.no (by simp) (Evt.bind hAs (Evt.no (by simp) ?_)))))))))))))
      refine for_evt' 0 (L.length : Int) (fun i (_ : Unit) => (c, [k], high, L, List.replicate c.length high, leftL c k, H, shTo H L i.toNat, i, ())) (fun _ _ => True) (b0 := ()) rfl (by omega) trivial ?_ ?_
      · intro i' _ h2 h3 _
        obtain ⟨i, rfl⟩ : ∃ i : Nat, i' = i := ⟨i'.toNat, by omega⟩
        obtain ⟨v, hv⟩ := at_of (l := L) (i := (i : Int)) (by omega) h3
        have hvg := hv.get
        rw [Int.toNat_natCast] at hvg ⊢
        have hsub := (shTo_sub H L i).1
        rw [show ((i : Int) + 1).toNat = i + 1 by omega, shTo]
        refine Round.yes (decide_eq_true h3) (Round.bind (e21 H (i : Int) (by omega)) ?_)
        cases hb : H.any (fun v => v == (i : Int)) with
        | true =>
          refine Round.no (by simp) (Round.again _ ⟨(), ?_, trivial⟩)
          rw [if_pos rfl, wrap_id (x := (i : Int) + 1) (by omega) (by omega)]
        | false =>
          refine Round.yes (by simp) (Round.at hv.idx (Round.chk (decide_eq_true (by simp only [List.length_cons, List.length_nil]; omega)) (Round.again _ ⟨(), ?_, trivial⟩)))
          rw [if_neg (by decide), hvg, wrap_id (x := (i : Int) + 1) (by omega) (by omega)]
      intro _ _
      rw [Int.toNat_natCast]
      have hsub := shTo_sub H L L.length
      have hsh := sh_do (K := [k]) (o := List.replicate c.length high) (L := L) L.length (Nat.le_refl _)
      rw [List.take_length, hsurf, ← eH] at hsh
      obtain ⟨Q, eQ⟩ : ∃ Q, Q = shTo H L L.length := ⟨_, rfl⟩
      rw [← eQ] at hsub hsh ⊢
      have OQ : OneK (List.replicate c.length high).length Q := ⟨by omega, fun v hv => O2.el v (hsub.2 v hv)⟩
      have hRQ : RngC Q := OQ.rng (by omega)
      have hcQ : gvCode (List.replicate c.length high) [k] Q = 0 := OQ.code okF SK.ok
      have hDq := e15 (List.replicate c.length high) [k] Q rngF hRK hRQ
      have hdq : doR (List.replicate c.length high) [k] Q = (leftL c k, (doF [k] Q (List.replicate c.length high)).2, 0, ()) := by unfold doR; rw [hcQ, if_neg (by simp), hsh]
      rw [hdq] at hDq
      have ON : OneK c.length [] := ⟨by simp, fun v hv => (by cases hv)⟩
      have hRN : RngC [] := ON.rng (by omega)
      have hCn := e12 c high [k] [] S.rng hRK hRN
      have hcn : cpR c high [k] [] = (false, 0, ()) := by
        rw [cpR_ok (by unfold cpCode; rw [ON.code S.ok SK.ok, hin]; simp; omega)]
        unfold cpT
        rw [if_neg (by simp [fi])]
        have hb := bkTo_in c [k] 1 (by omega)
        have e0 : (bkTo c [k] [k].length).1 = 0 := by show (bkTo c [k] 1).1 = 0; omega
        rw [e0]
        show (notOver (List.replicate c.length high) (leftL c k), 0, ()) = _
        have : notOver (List.replicate c.length high) (leftL c k) = false := by
          unfold notOver
          refine allTo_false (i := 0) (by omega) ?_
          have := left_low S.rng S.ok GK (p := 0) h0
          rw [g_flat _ _ h0]
          simp
          omega
        rw [this]
      rw [hcn] at hCn
      refine Round.no (by simp) (Round.bind hDq (Round.bind hCn (Round.no (by simp) (Round.bind hSl (Round.no (by simp) (Round.no (by simp) (Round.no (by simp) (Round.no (by simp; exact hne) (Round.chk (decide_eq_true (by show ([].length + L.length) * 6 ≤ 140737488355328; simp; omega)) ?_)))))))))
      have en : ([] : List Ct) ++ L = L := rfl
      have ei : wr .i64 ((L.length : Int) - 1) = ((L.length - 1 : Nat) : Int) := by rw [wrap_id (by omega) (by omega)]; omega
      simp only [en, ei, Int.toNat_natCast]
      obtain ⟨v, hv⟩ : ∃ v, L[L.length - 1]? = some v := ⟨_, List.getElem?_eq_getElem (by omega)⟩
      have hvm := O.el v (List.mem_of_getElem? hv)
      have hck : decide (0 ≤ ((L.length - 1 : Nat) : Int) ∧ ((L.length - 1 : Nat) : Int) < (L.length : Int)) = true := decide_eq_true (by omega)
      refine Round.chk hck (Round.at hv (Round.ite (fun _ => Round.done (Evt.some _)) (fun hnz => ?_)))
      have hnz : v.2.1 ≠ 0 := by simpa using hnz
      refine Round.chk hck (Round.at hv (Round.chk hck (Round.at hv ?_)))
      rw [wrap16 (x := v.2.1 - 1) (by omega) (by omega)]
      have OW : OneK c.length (L.set (L.length - 1) (v.1, v.2.1 - 1, v.2.2)) := ⟨by rw [List.length_set]; omega, fun u hu => by
        rcases List.mem_or_eq_of_mem_set hu with hu | rfl
        · exact O.el u hu
        · simp only; omega⟩
      have hRW : RngC (L.set (L.length - 1) (v.1, v.2.1 - 1, v.2.2)) := OW.rng (by omega)
      refine Round.bind (e13 c [k] _ S.rng hRK hRW) (Round.bind (e22 c [k] _ S.rng hRK hRW) (Round.yes (by simp) (Round.done ((Evt.some _).of_eq fun n => ?_))))
      simp
      rfl
    · refine Evt.yes (by simpa using hz) ((Evt.some _).of_eq fun n => ?_)
      have h3 : (pcR c high [k] 0 (5 + v2)).2.1 = 0 ∨ (pcR c high [k] 0 (5 + v2)).2.1 = 3 := by
        rw [hpl]
        have key : ∀ (f : Nat) (above : Int) (o : List Ct), (pl (tipsL c k c.length) (5 + v2) 0 f above o).2.1 = 0 ∨ (pl (tipsL c k c.length) (5 + v2) 0 f above o).2.1 = 3 := by
          intro f
          induction f with
          | zero => intro _ _; exact .inr rfl
          | succ f ih =>
            intro above o
            unfold pl
            split
            · exact .inr rfl
            · split
              · exact .inl rfl
              · exact ih _ _
        exact key _ _ _
      rcases h3 with h3 | h3
      · exact absurd h3 hz
      · rw [h3]
        rfl

end Go.Cams.YtoafnbpahdnchaaGreatLMi
