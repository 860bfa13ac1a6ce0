/- What the functions that the law reaches come to. -/
import Derived.Test.YtgcncghbeplgnaaRFits
import Derived.Test.YtgcncghbeplgnaaPuAll
namespace Go.Cams.YtgcncghbeplgnaaLFits
open Go Go.Fw Go.Proofs Go.Proofs.Ytgcncghbeplgnaa.LFits
/- laws.a2Long -/
theorem e27 (a b : List Int) : Evt (fun n => call T C n 27 (a, b, ())) ((decide ((a.length : Int) > 3000) || decide ((b.length : Int) > 3000), ()), ()) := by
  refine Evt.next ?_ (fun n => r27 n a b)
  cases decide ((a.length : Int) > 3000) with
  | true => exact Evt.yes rfl (Evt.some _)
  | false => exact Evt.no (by simp) (Evt.some _)
/- spec.l00From -/
theorem e75 (a : List Int) : Evt (fun n => call T C n 75 (a, ())) (((a, 0, 0, ()), ()), ()) := Evt.next (Evt.some _) (fun n => r75 n a)
/- (*spec.l00Src).next -/
theorem e165 {k : Int} {s : Src} (h : SrcAt k s) (hk : k ≤ 1000000000000) : ∃ (v : Int) (s' : Src), Evt (fun n => call T C n 165 (s, ())) ((v, ()), (s', ())) ∧ 0 ≤ v ∧ v ≤ 255 ∧ SrcAt (k + 1) s' := by
  obtain ⟨h1, h2, h3, h4⟩ := h
  have hw : wr .i64 (s.2.1 + 1) = s.2.1 + 1 := wrap_id (by omega) (by omega)
  by_cases hp : s.2.1 < (s.1.length : Int)
  · obtain ⟨v, hv⟩ := at_of h3 hp
    have hb := h1 v hv.mem
    have ev : wr .i64 v = v := wrap_id (by omega) (by omega)
    obtain ⟨z, hz⟩ : ∃ z, z = wr .u64 ((wr .u64 ((wr .u64 (s.2.2.1 * (6364136223846793005 : Int))) + (wr .u64 (wr .i64 v)))) + (1442695040888963407 : Int)) := ⟨_, rfl⟩
    refine ⟨v, (s.1, s.2.1 + 1, z, ()), Evt.next (Evt.yes (decide_eq_true hp) (Evt.at hv.idx (Evt.yes (decide_eq_true (by rw [hw]; omega)) ((Evt.some _).of_eq fun n => ?_)))) (fun n => r165 n s), hb.1, hb.2, h1, h2, by show 0 ≤ s.2.1 + 1; omega, by show s.2.1 + 1 ≤ k + 1; omega⟩
    rw [← hz, hw, ev]
    rfl
  · obtain ⟨z, hz⟩ : ∃ z, z = wr .u64 ((wr .u64 ((wr .u64 (s.2.2.1 * (6364136223846793005 : Int))) + (wr .u64 (0 : Int)))) + (1442695040888963407 : Int)) := ⟨_, rfl⟩
    have hzb : 0 ≤ z ∧ z < 18446744073709551616 := by rw [hz]; exact wrap_u64 _
    obtain ⟨y, rfl⟩ : ∃ y : Nat, z = y := ⟨z.toNat, by omega⟩
    have hval : wr .i64 (bitsI .and .u64 (shr_ .u64 (y : Int) (40 : Int)) (255 : Int)) = ((y / 2 ^ 40 % 256 : Nat) : Int) := by
      rw [show (40 : Int) = ((40 : Nat) : Int) from rfl, shr_nat (by omega), and_255 (Nat.lt_of_le_of_lt (Nat.div_le_self _ _) (by omega))]
      have := Nat.mod_lt (y / 2 ^ 40) (show 0 < 256 by omega)
      exact wrap_id (by omega) (by omega)
    have hm := Nat.mod_lt (y / 2 ^ 40) (show 0 < 256 by omega)
    refine ⟨((y / 2 ^ 40 % 256 : Nat) : Int), (s.1, s.2.1 + 1, (y : Int), ()), Evt.next (Evt.no (by simpa using hp) (Evt.no (by rw [hw]; simp; omega) (Evt.chk rfl ((Evt.some _).of_eq fun n => ?_)))) (fun n => r165 n s), by omega, by omega, h1, h2, by show 0 ≤ s.2.1 + 1; omega, by show s.2.1 + 1 ≤ k + 1; omega⟩
    rw [← hz, hw, hval]
    rfl
/- (*spec.l00Src).pick -/
theorem e76 {k : Int} {s : Src} (h : SrcAt k s) (hk : k ≤ 999999999000) {m : Int} (m1 : 1 ≤ m) (m2 : m ≤ 1000000) : ∃ (v : Int) (s' : Src), Evt (fun n => call T C n 76 (s, m, ())) ((v, ()), (s', ())) ∧ 0 ≤ v ∧ v < m ∧ SrcAt (k + 2) s' := by
  by_cases hm : m ≤ 1
  · exact ⟨0, s, Evt.next (Evt.yes (decide_eq_true hm) (Evt.some _)) (fun n => r76 n s m), by omega, by omega, h.mono (by omega)⟩
  · obtain ⟨v, s1, hE, v0, v1, hs1⟩ := e165 h (by omega)
    by_cases hb : m > 200
    · obtain ⟨u, s2, hE2, u0, u1, hs2⟩ := e165 hs1 (by omega)
      have hx : wr .i64 (wr .i64 (v * 256) + u) = v * 256 + u := by rw [wrap_id (x := v * 256) (by omega) (by omega), wrap_id (by omega) (by omega)]
      have ht0 := Int.tmod_nonneg m (show 0 ≤ v * 256 + u by omega)
      have ht1 := Int.tmod_lt_of_pos (v * 256 + u) (show 0 < m by omega)
      refine ⟨Int.tmod (v * 256 + u) m, s2, Evt.next (Evt.no (by simpa using hm) (Evt.bind hE (Evt.yes (decide_eq_true hb) (Evt.bind hE2 (Evt.chk (bne_pos (by omega)) ((Evt.some _).of_eq fun n => ?_)))))) (fun n => r76 n s m), ht0, ht1, hs2.mono (by omega)⟩
      rw [hx]
      rfl
    · have ht0 := Int.tmod_nonneg m v0
      have ht1 := Int.tmod_lt_of_pos v (show 0 < m by omega)
      exact ⟨Int.tmod v m, s1, Evt.next (Evt.no (by simpa using hm) (Evt.bind hE (Evt.no (by simpa using hb) (Evt.chk (bne_pos (by omega)) (Evt.some _))))) (fun n => r76 n s m), ht0, ht1, hs1.mono (by omega)⟩
/- (*spec.l00Src).one -/
theorem e146 {k : Int} {s : Src} (h : SrcAt k s) (hk : k ≤ 999999999000) {m : Int} (m1 : 1 ≤ m) (m2 : m ≤ 1000000) : ∃ (b : Bool) (s' : Src), Evt (fun n => call T C n 146 (s, m, ())) ((b, ()), (s', ())) ∧ SrcAt (k + 2) s' := by
  obtain ⟨v, s1, hE, v0, v1, hs1⟩ := e76 h hk m1 m2
  exact ⟨v == 0, s1, Evt.next (Evt.bind hE (Evt.some _)) (fun n => r146 n s m), hs1⟩
/- spec.l02Drawn -/
theorem e106 {k : Int} {s : Src} (h : SrcAt k s) (hk : k ≤ 999999990000) : ∃ (p : Prg) (s' : Src), Evt (fun n => call T C n 106 (s, ())) ((p, ()), (s', ())) ∧ SmPg p ∧ SrcAt (k + 100) s' := by
  obtain ⟨t, s1, hE1, t0, t1, hs1⟩ := e76 h (by omega) (m := 30) (by omega) (by omega)
  obtain ⟨c, s2, hE2, c0, c1, hs2⟩ := e76 hs1 (by omega) (m := 4) (by omega) (by omega)
  have key : EvtX (fun n => call T C n 106 (s, ())) (fun y => SmPg y.1.1 ∧ SrcAt (k + 100) y.2.1) := by
    refine EvtX.next (EvtX.bind hE1 (EvtX.bind hE2 ?_)) (fun n => r106 n s)
    refine EvtX.loop (fun x => ∃ (src : Src) (L : List Ct) (m : Nat), x = (src, (0, [], ()), (t, L, ()), sumM L, (m : Int), ()) ∧ m ≤ 5 ∧ SrcAt (k + 4 + 8 * (5 - m)) src ∧ (∀ v ∈ L, MoSm v) ∧ (L.length : Int) + m ≤ 5 ∧ 2 ≤ (L.length : Int) + m) (fun x => x.2.2.2.2.1.toNat)
      ⟨s2, [], (2 + c).toNat, ?_, by omega, hs2.mono (by omega), by simp, by simp; omega, by simp; omega⟩ ?_
    · show (s2, _, (wr .i16 t, _, ()), _, wr .i64 (2 + c), ()) = _
      rw [wrap16 (x := t) (by omega) (by omega), wrap_id (x := 2 + c) (by omega) (by omega), show (((2 + c).toNat : Nat) : Int) = 2 + c by omega]
      rfl
    rintro x ⟨src, L, m, rfl, hm, hsrc, hL, hn1, hn2⟩
    have hsm := sumM_sm L hL
    by_cases h0 : 0 < m
    · right
      obtain ⟨a, a1, hA, a0, al, hs3⟩ := e76 hsrc (by omega) (m := 4) (by omega) (by omega)
      obtain ⟨b, b1, hB, b0, bl, hs4⟩ := e76 hs3 (by omega) (m := 9) (by omega) (by omega)
      obtain ⟨d, d1, hD, d0, dl, hs5⟩ := e76 hs4 (by omega) (m := 60) (by omega) (by omega)
      obtain ⟨o, o1, hO, hs6⟩ := e146 hs5 (by omega) (m := 3) (by omega) (by omega)
      have ea : wr .i8 a = a := wr_i8 (by omega) (by omega)
      have eb : wr .i16 (wr .i64 (1 + b)) = 1 + b := by rw [wrap_id (x := 1 + b) (by omega) (by omega), wrap16 (by omega) (by omega)]
      have ed : wr .i16 d = d := wrap16 (by omega) (by omega)
      have es : wr .i64 (sumM L + wr .i64 (1 + b)) = sumM L + (1 + b) := by rw [wrap_id (x := 1 + b) (by omega) (by omega), wrap_id (by omega) (by omega)]
      have em : wr .i64 ((m : Int) - 1) = ((m - 1 : Nat) : Int) := by rw [wrap_id (by omega) (by omega)]; omega
      have next : ∀ w, 0 ≤ w → w ≤ 59 → ∃ (src : Src) (L' : List Ct) (m' : Nat), ((o1, (0, [], ()), (t, L ++ [(a, 1 + b, w, ())], ()), sumM L + (1 + b), ((m - 1 : Nat) : Int), ()) : Src × Prg × Prg × Int × Int × Unit) = (src, (0, [], ()), (t, L', ()), sumM L', (m' : Int), ()) ∧ m' ≤ 5 ∧ SrcAt (k + 4 + 8 * (5 - m')) src ∧ (∀ v ∈ L', MoSm v) ∧ (L'.length : Int) + m' ≤ 5 ∧ 2 ≤ (L'.length : Int) + m' := fun w w0 w1 => by
        refine ⟨o1, L ++ [(a, 1 + b, w, ())], m - 1, by rw [sumM_snoc], by omega, hs6.mono (by omega), fun v hv => ?_, by simp; omega, by simp; omega⟩
        rcases List.mem_append.1 hv with hv | hv
        · exact hL v hv
        · simp at hv; rw [hv]; unfold MoSm; simp only; omega
      have hlen : ((L.length + 1) * 6 : Int) ≤ 140737488355328 := by omega
      by_cases ho : o = true ∧ 0 < L.length
      · obtain ⟨ho, hl⟩ := ho
        obtain ⟨M, v, rfl⟩ := last_split hl
        have hvm := hL v (by simp)
        have hi : wr .i64 (((M ++ [v]).length : Int) - 1) = (M.length : Int) := by rw [wrap_id (by omega) (by omega)]; simp
        have hg : (M ++ [v])[((M.length : Int)).toNat]? = some v := by simp
        refine ⟨(o1, (0, [], ()), (t, (M ++ [v]) ++ [(a, 1 + b, v.2.2.1, ())], ()), sumM (M ++ [v]) + (1 + b), ((m - 1 : Nat) : Int), ()), next _ hvm.2.2.1 hvm.2.2.2, ?_, fun y => ?_⟩
        · show ((m - 1 : Nat) : Int).toNat < (m : Int).toNat
          omega
        · refine Round.yes (decide_eq_true (show (m : Int) > 0 by omega)) (Round.bind hA (Round.bind hB (Round.bind hD (Round.bind hO (Round.yes ho (Round.yes (by simp) ?_))))))
          simp only [hi]
          refine Round.chk (decide_eq_true (by simp; omega)) (Round.at hg (Round.chk (decide_eq_true (by simp only [List.length_cons, List.length_nil]; omega)) (Round.again _ ?_)))
          rw [ea, eb, em, wrap_id (x := 1 + b) (by omega) (by omega), wrap_id (x := sumM (M ++ [v]) + (1 + b)) (by omega) (by omega)]
      · refine ⟨(o1, (0, [], ()), (t, L ++ [(a, 1 + b, d, ())], ()), sumM L + (1 + b), ((m - 1 : Nat) : Int), ()), next _ d0 (by omega), ?_, fun y => ?_⟩
        · show ((m - 1 : Nat) : Int).toNat < (m : Int).toNat
          omega
        · refine Round.yes (decide_eq_true (show (m : Int) > 0 by omega)) (Round.bind hA (Round.bind hB (Round.bind hD (Round.bind hO ?_))))
          have fin : ∀ {z}, z = ((o1, (0, [], ()), (t, L ++ [(a, 1 + b, d, ())], ()), sumM L + (1 + b), ((m - 1 : Nat) : Int), ()) : Src × Prg × Prg × Int × Int × Unit) → z = z := fun _ => rfl
          cases o with
          | true =>
            have hl : L.length = 0 := by
              apply Classical.byContradiction
              intro hx
              exact ho ⟨rfl, by omega⟩
            refine Round.yes rfl (Round.no (by simp [hl]) (Round.chk (decide_eq_true (by simp only [List.length_cons, List.length_nil]; omega)) (Round.again _ ?_)))
            rw [ea, eb, ed, em, wrap_id (x := 1 + b) (by omega) (by omega), wrap_id (x := sumM L + (1 + b)) (by omega) (by omega)]
          | false =>
            refine Round.no (by simp) (Round.chk (decide_eq_true (by simp only [List.length_cons, List.length_nil]; omega)) (Round.again _ ?_))
            rw [ea, eb, ed, em, wrap_id (x := 1 + b) (by omega) (by omega), wrap_id (x := sumM L + (1 + b)) (by omega) (by omega)]
    · left
      have hm0 : m = 0 := by omega
      subst hm0
      obtain ⟨M, v, rfl⟩ := last_split (L := L) (by omega)
      have hvm := hL v (by simp)
      obtain ⟨⟨v1, v2⟩, ⟨v3, v4⟩, v5, v6⟩ := hvm
      have hMs : ∀ u ∈ M, MoSm u := fun u hu => hL u (by simp [hu])
      have hsM := sumM_sm M hMs
      rw [sumM_snoc] at hsm
      have hlM : ((M ++ [v]).length : Int) = M.length + 1 := by simp
      have hi : wr .i64 (((M ++ [v]).length : Int) - 1) = (M.length : Int) := by rw [wrap_id (by omega) (by omega)]; simp
      have hg : (M ++ [v])[((M.length : Int)).toNat]? = some v := by simp
      have hset : ∀ u w : Ct, (M ++ [u]).set ((M.length : Int)).toNat w = M ++ [w] := fun u w => by simp
      have hg2 : ∀ u : Ct, (M ++ [u])[((M.length : Int)).toNat]? = some u := fun u => by simp
      by_cases h8 : sumM (M ++ [v]) < 8
      · refine ⟨(((t, M ++ [(v.1, v.2.1 + (8 - sumM (M ++ [v])), t, ())], ()), ()), (src, ())), ⟨?_, hsrc.mono (by omega)⟩, ?_⟩
        · rw [sumM_snoc] at h8 ⊢
          exact smPg t0 (by omega) hMs (by omega) v1 v2 (by omega) (by omega) (by omega) (by omega)
        · refine Round.no (by simp) ?_
          simp only [hi]
          refine Round.chk (decide_eq_true (show 0 ≤ (M.length : Int) ∧ (M.length : Int) < ((M ++ [v]).length : Int) by omega)) (Round.at hg (Round.yes (decide_eq_true h8) ?_))
          simp only [hset]
          refine Round.at (hg2 _) (Round.at (hg2 _) (Round.done ((Evt.some _).of_eq fun n => ?_)))
          rw [sumM_snoc] at h8 ⊢
          simp only [hset]
          rw [wrap_id (x := 8 - (sumM M + v.2.1)) (by omega) (by omega), wrap16 (x := 8 - (sumM M + v.2.1)) (by omega) (by omega), wrap16 (x := v.2.1 + (8 - (sumM M + v.2.1))) (by omega) (by omega)]
          rfl
      · refine ⟨(((t, M ++ [(v.1, v.2.1, t, ())], ()), ()), (src, ())), ⟨?_, hsrc.mono (by omega)⟩, ?_⟩
        · rw [sumM_snoc] at h8
          exact smPg t0 (by omega) hMs (by omega) v1 v2 (by omega) (by omega) (by omega) (by omega)
        · refine Round.no (by simp) ?_
          simp only [hi]
          refine Round.chk (decide_eq_true (show 0 ≤ (M.length : Int) ∧ (M.length : Int) < ((M ++ [v]).length : Int) by omega)) (Round.at hg (Round.no (by simpa using h8) (Round.done ((Evt.some _).of_eq fun n => ?_))))
          simp only [hset]
          rfl
  obtain ⟨⟨⟨p, _⟩, s', _⟩, ⟨h1, h2⟩, hE⟩ := key
  exact ⟨p, s', hE, h1, h2⟩
/- spec.l02Shape -/
theorem e197 {w k n : Int} (w0 : 0 ≤ w) (w1 : w ≤ 3) (k0 : 0 ≤ k) (k1 : k ≤ n) (n1 : n ≤ 360) : Evt (fun m => call T C m 197 (w, k, n, ())) ((shN w k n, shD w n, ()), ()) := by
  refine Evt.next ?_ (fun m => r197 m w k n)
  have W : ∀ x : Int, -9000000000000000000 ≤ x → x ≤ 9000000000000000000 → wr .i64 x = x := fun x a b => wrap_id (by omega) (by omega)
  have q2 := mulB (show 0 ≤ n by omega) n1 (show 0 ≤ n by omega) n1
  have q3 := mulB q2.1 q2.2 (show 0 ≤ n by omega) n1
  have q4 := mulB q3.1 q3.2 (show 0 ≤ n by omega) n1
  have q5 := mulB q4.1 q4.2 (show 0 ≤ n by omega) n1
  have kk := mulB (show 0 ≤ 2 * k by omega) (show 2 * k ≤ 720 by omega) k0 (show k ≤ 360 by omega)
  have dd := mulB (show 0 ≤ 2 * (n - k) by omega) (show 2 * (n - k) ≤ 720 by omega) (show 0 ≤ n - k by omega) (show n - k ≤ 360 by omega)
  have k3 := mulB (show 0 ≤ 3 * k by omega) (show 3 * k ≤ 1080 by omega) k0 (show k ≤ 360 by omega)
  have k3n := mulB k3.1 k3.2 (show 0 ≤ n by omega) n1
  have kkk := mulB kk.1 kk.2 k0 (show k ≤ 360 by omega)
  have c2 := mulB k0 (show k ≤ 360 by omega) k0 (show k ≤ 360 by omega)
  have c3 := mulB c2.1 c2.2 k0 (show k ≤ 360 by omega)
  have e1 := mulB (show 0 ≤ 10 * n by omega) (show 10 * n ≤ 3600 by omega) (show 0 ≤ n by omega) n1
  have e2 := mulB (show 0 ≤ 15 * k by omega) (show 15 * k ≤ 5400 by omega) (show 0 ≤ n by omega) n1
  have e3 := mulB (show 0 ≤ 6 * k by omega) (show 6 * k ≤ 2160 by omega) k0 (show k ≤ 360 by omega)
  have a1 : k * k * k * (-1944000) ≤ k * k * k * (10 * n * n - 15 * k * n + 6 * k * k) := Int.mul_le_mul_of_nonneg_left (by omega) c3.1
  have a2 : k * k * k * (10 * n * n - 15 * k * n + 6 * k * k) ≤ k * k * k * 2073600 := Int.mul_le_mul_of_nonneg_left (by omega) c3.1
  have one : Evt (fun _ => if decide (wr .i64 (2 * k) ≤ n) = true then some ((wr .i64 (wr .i64 (2 * k) * k), wr .i64 (n * n), ()), ()) else some ((wr .i64 (wr .i64 (n * n) - wr .i64 (wr .i64 (2 * wr .i64 (n - k)) * wr .i64 (n - k))), wr .i64 (n * n), ()), ())) ((shN 1 k n, shD 1 n, ()), ()) := by
    rw [W (2 * k) (by omega) (by omega), W (2 * k * k) (by omega) (by omega), W (n * n) (by omega) (by omega), W (n - k) (by omega) (by omega), W (2 * (n - k)) (by omega) (by omega), W (2 * (n - k) * (n - k)) (by omega) (by omega), W (n * n - 2 * (n - k) * (n - k)) (by omega) (by omega)]
    refine Evt.ite (fun h => ?_) (fun h => ?_)
    · have : shN 1 k n = 2 * k * k := by unfold shN; rw [if_pos rfl, if_pos (of_decide_eq_true h)]
      rw [this]; exact Evt.some _
    · have : shN 1 k n = n * n - 2 * (n - k) * (n - k) := by unfold shN; rw [if_pos rfl, if_neg (by simpa using h)]
      rw [this]; exact Evt.some _
  have two : Evt (fun _ => some ((wr .i64 (wr .i64 (wr .i64 (wr .i64 (3 * k) * k) * n) - wr .i64 (wr .i64 (wr .i64 (2 * k) * k) * k)), wr .i64 (wr .i64 (n * n) * n), ()), ())) ((shN 2 k n, shD 2 n, ()), ()) := by
    rw [W (3 * k) (by omega) (by omega), W (3 * k * k) (by omega) (by omega), W (3 * k * k * n) (by omega) (by omega), W (2 * k) (by omega) (by omega), W (2 * k * k) (by omega) (by omega), W (2 * k * k * k) (by omega) (by omega), W (3 * k * k * n - 2 * k * k * k) (by omega) (by omega), W (n * n) (by omega) (by omega), W (n * n * n) (by omega) (by omega)]
    exact Evt.some _
  have three : Evt (fun _ => some ((wr .i64 (wr .i64 (wr .i64 (k * k) * k) * wr .i64 (wr .i64 (wr .i64 (wr .i64 (10 * n) * n) - wr .i64 (wr .i64 (15 * k) * n)) + wr .i64 (wr .i64 (6 * k) * k))), wr .i64 (wr .i64 (wr .i64 (wr .i64 (n * n) * n) * n) * n), ()), ())) ((shN 3 k n, shD 3 n, ()), ()) := by
    rw [W (k * k) (by omega) (by omega), W (k * k * k) (by omega) (by omega), W (10 * n) (by omega) (by omega), W (10 * n * n) (by omega) (by omega), W (15 * k) (by omega) (by omega), W (15 * k * n) (by omega) (by omega), W (10 * n * n - 15 * k * n) (by omega) (by omega), W (6 * k) (by omega) (by omega), W (6 * k * k) (by omega) (by omega), W (10 * n * n - 15 * k * n + 6 * k * k) (by omega) (by omega), W (k * k * k * (10 * n * n - 15 * k * n + 6 * k * k)) (by omega) (by omega), W (n * n) (by omega) (by omega), W (n * n * n) (by omega) (by omega), W (n * n * n * n) (by omega) (by omega), W (n * n * n * n * n) (by omega) (by omega)]
    exact Evt.some _
  rcases (show w = 0 ∨ w = 1 ∨ w = 2 ∨ w = 3 by omega) with rfl | rfl | rfl | rfl
  · exact Evt.no (by decide) (Evt.no (by decide) (Evt.no (by decide) (Evt.some _)))
  · exact Evt.yes rfl one
  · exact Evt.no (by decide) (Evt.yes rfl two)
  · exact Evt.no (by decide) (Evt.no (by decide) (Evt.yes rfl three))
/- spec.l01Near -/
theorem e88 {x n : Int} (hn : 0 < n) (hn' : n ≤ 10000000000000) (h1 : -2000000000000000000 ≤ x) (h2 : x ≤ 2000000000000000000) : Evt (fun m => call T C m 88 (x, n, ())) ((nr x n, ()), ()) := by
  have hbd := ediv_bd (a := 2 * x + n) (b := 2 * n) (M := 4500000000000000000) (by omega) (by omega) (by omega) (by omega)
  have he := floorDiv_eq (a := 2 * x + n) (b := 2 * n) (by omega)
  refine Evt.next ?_ (fun m => r88 m x n)
  rw [wrap_id (x := 2 * n) (by omega) (by omega), wrap_id (x := 2 * x) (by omega) (by omega), wrap_id (x := 2 * x + n) (by omega) (by omega)]
  refine Evt.chk (bne_pos (by omega)) (Evt.chk (bne_pos (by omega)) (Evt.ite (fun h => ?_) (fun h => ?_)))
  · have h : Int.tmod (2 * x + n) (2 * n) < 0 := of_decide_eq_true h
    rw [if_pos h] at he
    refine (Evt.some _).of_eq fun m => ?_
    rw [wrap_id (x := Int.tdiv (2 * x + n) (2 * n)) (by omega) (by omega), wrap_id (by omega) (by omega), he]
    rfl
  · have h : ¬ Int.tmod (2 * x + n) (2 * n) < 0 := by simpa using h
    rw [if_neg h] at he
    refine (Evt.some _).of_eq fun m => ?_
    rw [wrap_id (x := Int.tdiv (2 * x + n) (2 * n)) (by omega) (by omega), he]
    rfl
/- spec.l02Lift -/
theorem e173 {f t w k n : Int} (f0 : 0 ≤ f) (f1 : f ≤ 10000) (t0 : 0 ≤ t) (t1 : t ≤ 10000) (w0 : 0 ≤ w) (w1 : w ≤ 3) (k0 : 0 ≤ k) (k1 : k ≤ n) (n0 : 1 ≤ n) (n1 : n ≤ 360) : Evt (fun m => call T C m 173 (f, t, w, k, n, ())) ((liftP f t w k n, ()), ()) := by
  have hd := shD_bd (w := w) n0 n1
  have hb := lift_bd (w := w) f0 f1 t0 t1 k0 k1 n0 n1
  refine Evt.next (Evt.bind (e197 w0 w1 k0 k1 n1) ?_) (fun m => r173 m f t w k n)
  show Evt (fun m => (call T C m 88 (wr .i64 (wr .i64 (f * shD w n) + wr .i64 (wr .i64 (t - f) * shN w k n)), shD w n, ())).bind _) _
  rw [wrap_id (x := f * shD w n) (by omega) (by omega), wrap_id (x := t - f) (by omega) (by omega), wrap_id (x := (t - f) * shN w k n) (by omega) (by omega), wrap_id (x := f * shD w n + (t - f) * shN w k n) (by omega) (by omega)]
  exact Evt.bind (e88 (by omega) (by omega) (by omega) (by omega)) (Evt.some _)
/- spec.l02Make -/
theorem e107 {p : Prg} (hr : RngPg p) (hn : (p.2.1.length : Int) ≤ 24) (ht : 0 ≤ p.1 ∧ p.1 ≤ 10000) (hi : ∀ v ∈ p.2.1, MoIn 0 10000 v) : Evt (fun n => call T C n 107 (p, ())) ((proF p.1 p.2.1, ()), ()) := by
  refine Evt.next ?_ (fun n => r107 n p)
  rw [wrap_id (x := p.1) (by omega) (by omega)]
  have hpl : ∀ i : Nat, ((proF p.1 (p.2.1.take i)).length : Int) ≤ 1000000 := fun i => by
    have h1 := proF_len (p.2.1.take i) p.1 fun v hv => (hi v (List.mem_of_mem_take hv)).n.1
    have h2 := sumM_take hr.m hn i
    omega
  refine for_evt' 0 (p.2.1.length : Int) (fun i (_ : Unit) => (p, proF p.1 (p.2.1.take i.toNat), toF p.1 (p.2.1.take i.toNat), i, ())) (fun _ _ => True) (b0 := ()) (by simp [proF, toF]) (by omega) trivial ?_ ?_
  · intro i _ h2 h3 _
    obtain ⟨v, hv⟩ := at_of h2 h3
    have hm := hi v hv.mem
    have hw := hm.w
    have hn1 := hm.n
    have htt := hm.t
    have hf := toF_in (p.2.1.take i.toNat) (f := p.1) (fun u hu => hi u (List.mem_of_mem_take hu)) ht.1 ht.2
    have hl := hpl i.toNat
    refine Round.yes (decide_eq_true h3) (Round.at hv.idx ?_)
    have e2 : wr .i64 v.2.1 = v.2.1 := hr.m.i2 hv.mem
    have e1 : wr .i64 v.1 = v.1 := hr.m.i1 hv.mem
    have e3 : wr .i64 v.2.2.1 = v.2.2.1 := hr.m.i3 hv.mem
    refine for_round' 0 v.2.1 (fun j (_ : Unit) => (p, proF p.1 (p.2.1.take i.toNat) ++ (seg (toF p.1 (p.2.1.take i.toNat)) v).take j.toNat, toF p.1 (p.2.1.take i.toNat), i, v, j, ())) (fun _ _ => True) (b0 := ()) (by simp) (by omega) trivial ?_ ?_
    · intro j _ h4 h5 _
      have hb := liftP_in (f := toF p.1 (p.2.1.take i.toNat)) (t := v.2.2.1) (w := v.1) (k := j) (n := v.2.1) (lo := 0) (hi := 10000) hw.1 hw.2 h4 (by omega) hn1.1 hn1.2 hf.1 hf.2 htt.1 htt.2
      have hsl := seg_len (toF p.1 (p.2.1.take i.toNat)) v
      have hlen : ((proF p.1 (p.2.1.take i.toNat) ++ (seg (toF p.1 (p.2.1.take i.toNat)) v).take j.toNat).length : Int) ≤ 1000360 := by
        rw [List.length_append, List.length_take]
        omega
      refine Round.yes (decide_eq_true (show j < wr .i64 v.2.1 by rw [e2]; exact h5)) ?_
      simp only [e1, e2, e3]
      refine Round.bind (e173 hf.1 hf.2 htt.1 htt.2 hw.1 hw.2 h4 (by omega) hn1.1 hn1.2) (Round.chk (decide_eq_true (by simp only [List.length_cons, List.length_nil]; omega)) (Round.inr _ ⟨(), ?_, trivial⟩))
      rw [wrap16 (x := liftP (toF p.1 (p.2.1.take i.toNat)) v.2.2.1 v.1 j v.2.1) (by omega) (by omega), seg_take _ _ h4 h5, List.append_assoc, wr_succ h4 h5 (by omega)]
    · intro _ _
      have ht2 : (seg (toF p.1 (p.2.1.take i.toNat)) v).take v.2.1.toNat = seg (toF p.1 (p.2.1.take i.toNat)) v := List.take_of_length_le (by rw [seg_len]; omega)
      refine Round.no (by simp [e2]) (Round.inl _ ⟨(), ?_, trivial⟩)
      rw [hv.take, proF_snoc, toF_snoc, e3, wr_succ h2 h3 (by omega), ht2]
  · intro _ _
    simp only [take_all]
    exact Round.no (by simp) (Round.done (Evt.some _))
/- spec.A2Cam -/
theorem e28 {b : List Int} (hb : ∀ v ∈ b, 0 ≤ v ∧ v ≤ 255) (hl : (b.length : Int) ≤ 3000) : ∃ c, Evt (fun n => call T C n 28 (b, ())) ((c, ()), ()) ∧ SmC c := by
  obtain ⟨p, s', hE, S, _⟩ := e106 (k := 0) (s := (b, 0, 0, ())) ⟨hb, by show (b.length : Int) ≤ _; omega, by show (0 : Int) ≤ 0; omega, by show (0 : Int) ≤ 0; omega⟩ (by omega)
  have ht := S.t
  have hn := S.n
  have hM := e107 S.rng (by omega) (by omega) (fun v hv => by
    have h := S.ins v hv
    exact ⟨h.w, h.n, by have := h.t; omega⟩)
  exact ⟨proF p.1 p.2.1, Evt.next (Evt.bind (e75 b) (Evt.bind hE (Evt.bind hM (Evt.some ((proF p.1 p.2.1, ()), ()))))) (fun n => r28 n b), S.cam⟩
/- (impl.Cam).steps -/
theorem e79 (a : List Int) : Evt (fun n => call T C n 79 (a, ())) (((a.length : Int), ()), ()) := Evt.next (Evt.some _) (fun n => r79 n a)
/- impl.inRange -/
theorem e84 (a b c : Int) : Evt (fun n => call T C n 84 (a, b, c, ())) ((inR a b c, ()), ()) := by
  refine Evt.next ?_ (fun n => r84 n a b c)
  refine Evt.ite (fun h => ?_) (fun h => ?_)
  · refine (Evt.some _).of_eq fun n => ?_
    have h : b ≤ a := of_decide_eq_true h
    simp [inR, h]
    rfl
  · refine (Evt.some _).of_eq fun n => ?_
    have h : ¬ b ≤ a := by simpa using h
    simp [inR, h]
    rfl
/- impl.isSteps -/
theorem e93 (a : Int) : Evt (fun n => call T C n 93 (a, ())) ((inR a 8 360, ()), ()) := Evt.next (Evt.bind (e84 a 8 360) (Evt.some _)) (fun n => r93 n a)
/- impl.isLift -/
theorem e114 (a : Int) : Evt (fun n => call T C n 114 (a, ())) ((inR a 0 10000, ()), ()) := Evt.next (Evt.bind (e84 a 0 10000) (Evt.some _)) (fun n => r114 n a)
/- impl.ValidCam$1 -/
theorem e169 (v : Int) : Evt (fun n => call T C n 169 (v, ())) ((!okV v, ()), ()) := Evt.next (Evt.bind (e114 _) (Evt.some _)) (fun n => r169 n v)
/- slices.IndexFunc[impl.Cam,int16]{impl.ValidCam$1} -/
theorem e196 (l : List Int) (hl : (l.length : Int) ≤ 140737488351232) : Evt (fun n => call T C n 196 (l, ((), ()), ())) ((fi (fun v => !okV v) l 0, ()), ()) := by
  refine Evt.next ?_ (fun n => r196 n l ((), ()))
  refine loop_evt (fun (x : List Int × (Unit × Unit) × Int × Int × Unit) => x.1 = l ∧ x.2.2.1 = (l.length : Int) ∧ 0 ≤ x.2.2.2.1 ∧ x.2.2.2.1 ≤ (l.length : Int) ∧ fi (fun v => !okV v) l 0 = fi (fun v => !okV v) (l.drop x.2.2.2.1.toNat) x.2.2.2.1) (fun (x : List Int × (Unit × Unit) × Int × Int × Unit) => ((l.length : Int) - x.2.2.2.1).toNat) (x := (l, ((), ()), (l.length : Int), 0, ())) ⟨rfl, rfl, Int.le_refl _, by simp, by simp⟩ ?_
  rintro ⟨x1, u, m, i, _⟩ ⟨h', hm, h0, h1, h2⟩
  simp only at h' hm h0 h1 h2
  subst h'; subst hm
  refine Round.ite (fun hlt => ?_) (fun hge => ?_)
  · have hlt : i < (x1.length : Int) := of_decide_eq_true hlt
    obtain ⟨v, hv, hv'⟩ := idx_at h0 hlt
    have hd := drop_cons hv'
    refine Round.at hv (Round.bind (e169 _) (Round.ite (fun hb => ?_) (fun hb => ?_)))
    · have hb : okV v = false := by simpa using hb
      have h3 : fi (fun v => !okV v) x1 0 = i := by rw [h2, hd]; simp [fi, hb]
      rw [h3]
      exact Round.done (Evt.some _)
    · have hb : okV v = true := by simpa using hb
      have hw : wr .i64 (i + 1) = i + 1 := wrap_id (by omega) (by omega)
      refine Round.again _ ⟨⟨rfl, rfl, ?_, ?_, ?_⟩, ?_⟩ <;> simp only [hw]
      · omega
      · omega
      · rw [h2, hd, show (i + 1).toNat = i.toNat + 1 by omega]
        simp [fi, hb]
      · omega
  · have hge : ¬ i < (x1.length : Int) := by simpa using hge
    have : x1.drop i.toNat = [] := List.drop_of_length_le (by omega)
    rw [h2, this]
    exact Round.done (Evt.some _)
/- slices.ContainsFunc[impl.Cam,int16]{impl.ValidCam$1} -/
theorem e168 (l : List Int) (hl : (l.length : Int) ≤ 140737488351232) : Evt (fun n => call T C n 168 (l, ((), ()), ())) ((l.any (fun v => !okV v), ()), ()) := by
  refine Evt.next (Evt.bind (e196 l hl) ((Evt.some _).of_eq fun n => ?_)) (fun n => r168 n l ((), ()))
  simp only [fi_any _ l 0 (Int.le_refl _)]
  rfl
/- impl.ValidCam -/
theorem e89 (l : List Int) (hl : (l.length : Int) ≤ 140737488351232) : Evt (fun n => call T C n 89 (l, ())) ((okC l, ()), ()) := by
  refine Evt.next (Evt.bind (e79 l) (Evt.bind (e93 _) ?_)) (fun n => r89 n l)
  refine Evt.ite (fun h => ?_) (fun h => ?_)
  · refine Evt.bind (e168 l hl) ((Evt.some _).of_eq fun n => ?_)
    have h : inR (l.length : Int) 8 360 = true := h
    have : okC l = !l.any (fun v => !okV v) := by simp [okC, h, List.any_eq_not_all_not]
    rw [this]
    rfl
  · refine (Evt.some _).of_eq fun n => ?_
    have h : inR (l.length : Int) 8 360 = false := by simpa using h
    simp [okC, h]
    rfl
/- impl.floorDiv -/
theorem e167 {a b : Int} (hb : 0 < b) (h1 : -4500000000000000000 ≤ a) (h2 : a ≤ 4500000000000000000) : Evt (fun n => call T C n 167 (a, b, ())) ((a / b, ()), ()) := by
  have hbd := ediv_bd hb h1 h2 (by omega)
  have he := floorDiv_eq (a := a) hb
  refine Evt.next (Evt.chk (bne_pos hb) (Evt.chk (bne_pos hb) (Evt.ite (fun h => ?_) (fun h => ?_)))) (fun n => r167 n a b)
  · have h : Int.tmod a b < 0 := of_decide_eq_true h
    rw [if_pos h] at he
    refine (Evt.some _).of_eq fun n => ?_
    rw [wrap_id (x := Int.tdiv a b) (by omega) (by omega), wrap_id (by omega) (by omega), he]
    rfl
  · have h : ¬ Int.tmod a b < 0 := by simpa using h
    rw [if_neg h] at he
    refine (Evt.some _).of_eq fun n => ?_
    rw [wrap_id (x := Int.tdiv a b) (by omega) (by omega), he]
    rfl
/- impl.mod -/
theorem e154 {a b : Int} (hb : 0 < b) (hb' : b ≤ 1000000000000) (h1 : -1000000000000 ≤ a) (h2 : a ≤ 1000000000000) : Evt (fun n => call T C n 154 (a, b, ())) ((a % b, ()), ()) := by
  have hd := Int.emod_def a b
  have h3 := Int.emod_nonneg a (show b ≠ 0 by omega)
  have h4 := Int.emod_lt_of_pos a hb
  refine Evt.next (Evt.bind (e167 hb (by omega) (by omega)) ((Evt.some _).of_eq fun n => ?_)) (fun n => r154 n a b)
  simp only
  rw [wrap_id (x := b * (a / b)) (by omega) (by omega), ← hd, wrap_id (by omega) (by omega)]
  rfl
/- (impl.Cam).at -/
theorem e81 {l : List Int} (hr : Rng l) (h0 : 0 < (l.length : Int)) (h1 : (l.length : Int) ≤ 1000000) {x : Int} (hx : -4000000 ≤ x) (hx' : x ≤ 4000000) : Evt (fun n => call T C n 81 (l, x, ())) ((cAt l x, ()), ()) := by
  have hp := Int.emod_nonneg x (show (l.length : Int) ≠ 0 by omega)
  have hq := Int.emod_lt_of_pos x h0
  have hv := g_idx (l := l) hp hq
  refine Evt.next (Evt.bind (e79 l) (Evt.bind (e154 (a := x) h0 (by omega) (by omega) (by omega)) (Evt.at hv.idx ((Evt.some _).of_eq fun n => ?_)))) (fun n => r81 n l x)
  rw [hr.id hv.mem]
  rfl
/- (impl.Cam).change -/
theorem e102 {c : List Int} (hr : Rng c) (h0 : 0 < c.length) (h1 : c.length ≤ 1000) {x : Int} (x0 : -1000000 ≤ x) (x1 : x ≤ 1000000) : Evt (fun n => call T C n 102 (c, x, ())) ((cAt c (x + 1) - cAt c x, ()), ()) := by
  have b1 := hr.el _ (cAt_mem h0 (x + 1))
  have b2 := hr.el _ (cAt_mem h0 x)
  refine Evt.next ?_ (fun n => r102 n c x)
  rw [wrap_id (x := x + 1) (by omega) (by omega)]
  refine Evt.bind (e81 hr (by omega) (by omega) (by omega) (by omega)) (Evt.bind (e81 hr (by omega) (by omega) (by omega) (by omega)) ((Evt.some _).of_eq fun n => ?_))
  show some ((wr .i64 (cAt c (x + 1) - cAt c x), ()), ()) = _
  rw [wrap_id (x := cAt c (x + 1) - cAt c x) (by omega) (by omega)]
  rfl
/- impl.kindOf -/
theorem e171 (x : Int) : Evt (fun n => call T C n 171 (x, ())) ((kdOf x, ()), ()) := by
  refine Evt.next ?_ (fun n => r171 n x)
  unfold kdOf
  refine Evt.ite (fun h => ?_) (fun h => ?_)
  · rw [if_pos (of_decide_eq_true h)]; exact Evt.some _
  have h : ¬ x > 0 := by simpa using h
  rw [if_neg h]
  refine Evt.ite (fun h => ?_) (fun h => ?_)
  · rw [if_pos (of_decide_eq_true h)]; exact Evt.some _
  · rw [if_neg (by simpa using h)]; exact Evt.some _
/- (impl.Cam).runs$1 -/
theorem e170 {c : List Int} (hr : Rng c) (h0 : 0 < c.length) (h1 : c.length ≤ 1000) {x : Int} (x0 : -1000000 ≤ x) (x1 : x ≤ 1000000) : Evt (fun n => call T C n 170 (x, c, ())) ((kd c x, ()), (c, ())) := Evt.next (Evt.bind (e102 hr h0 h1 x0 x1) (Evt.bind (e171 _) (Evt.some ((kd c x, ()), (c, ()))))) (fun n => r170 n x c)
/- (impl.Cam).runs -/
theorem e103 {c : List Int} (hr : Rng c) (h0 : 0 < c.length) (h1 : c.length ≤ 1000) : Evt (fun n => call T C n 103 (c, ())) ((runsP c, ()), ()) := by
  obtain ⟨k1, k2, k3⟩ := bk_spec c
  have hwn : wr .i64 (0 - (c.length : Int)) = -(c.length : Int) := by rw [wrap_id (by omega) (by omega)]; omega
  have hK := fun (x : Int) (x0 : -1000000 ≤ x) (x1 : x ≤ 1000000) => e170 (x := x) hr h0 h1 x0 x1
  refine Evt.next (Evt.bind (e79 c) ?_) (fun n => r103 n c)
  have main : bk c ≠ c.length → ∀ f : Nat → (Int × (Unit × (List Int × Unit)) × Int × List Ct × Int × Unit) → ((Int × (Unit × (List Int × Unit)) × Int × List Ct × Int × Unit) → Option ((List Ct × Unit) × Unit)) → Option ((List Ct × Unit) × Unit), f = (fun n x again => if decide (x.2.2.2.2.1 < wr .i64 (x.2.2.1 + x.1)) = true then loopK (fun (x27 : Int × (Unit × ((List Int) × Unit)) × Int × (List (Int × (Int × (Int × Unit)))) × Int × Int × Unit) again28 => 
    (if (decide (x27.2.2.2.2.2.1 < (wr .i64 (x27.2.2.1 + x27.1)))) = true then (
   call T C n 170 (x27.2.2.2.2.2.1, x27.2.1.2.1, ())).bind fun r31 => (
   call T C n 170 (x27.2.2.2.2.1, r31.2.1, ())).bind fun r32 => 
    (if (bif true then (r31.1.1 == r32.1.1) else false) = true then again28 (x27.1, ((), (r32.2.1, ())), x27.2.2.1, x27.2.2.2.1, x27.2.2.2.2.1, (wr .i64 (x27.2.2.2.2.2.1 + (1 : Int))), ()) else (
   call T C n 170 (x27.2.2.2.2.1, r32.2.1, ())).bind fun r33 => (
   call T C n 154 (x27.2.2.2.2.1, x27.1, ())).bind fun r34 => chk (decide ((x27.2.2.2.1.length + ([(r33.1.1, ((wr .i16 r34.1.1), ((wr .i16 (wr .i64 (x27.2.2.2.2.2.1 - x27.2.2.2.2.1))), ())))] : (List (Int × (Int × (Int × Unit))))).length) * 6 ≤ 140737488355328)) (again (x27.1, ((), (r33.2.1, ())), x27.2.2.1, (x27.2.2.2.1 ++ ([(r33.1.1, ((wr .i16 r34.1.1), ((wr .i16 (wr .i64 (x27.2.2.2.2.2.1 - x27.2.2.2.2.1))), ())))] : (List (Int × (Int × (Int × Unit)))))), x27.2.2.2.2.2.1, ()))) else (
   call T C n 170 (x27.2.2.2.2.1, x27.2.1.2.1, ())).bind fun r35 => (
   call T C n 154 (x27.2.2.2.2.1, x27.1, ())).bind fun r36 => chk (decide ((x27.2.2.2.1.length + ([(r35.1.1, ((wr .i16 r36.1.1), ((wr .i16 (wr .i64 (x27.2.2.2.2.2.1 - x27.2.2.2.2.1))), ())))] : (List (Int × (Int × (Int × Unit))))).length) * 6 ≤ 140737488355328)) (again (x27.1, ((), (r35.2.1, ())), x27.2.2.1, (x27.2.2.2.1 ++ ([(r35.1.1, ((wr .i16 r36.1.1), ((wr .i16 (wr .i64 (x27.2.2.2.2.2.1 - x27.2.2.2.2.1))), ())))] : (List (Int × (Int × (Int × Unit)))))), x27.2.2.2.2.2.1, ())))) n (x.1, ((), (x.2.1.2.1, ())), x.2.2.1, x.2.2.2.1, x.2.2.2.2.1, x.2.2.2.2.1, ()) else some ((x.2.2.2.1, ()), ())) →
      Evt (fun n => loopK (f n) n ((c.length : Int), ((), (c, ())), -(bk c : Int), [], -(bk c : Int), ())) ((runsP c, ()), ()) := by
    intro hne f hf
    subst hf
    have hrp : runsP c = rs c (-(bk c : Int)) c.length := by unfold runsP; rw [if_neg hne]
    rw [hrp]
    refine loop_evt (fun x => ∃ (done : List Ct) (left : Nat), left ≤ c.length ∧ x = ((c.length : Int), ((), (c, ())), -(bk c : Int), done, -(bk c : Int) + (c.length : Int) - left, ()) ∧ done ++ rs c (-(bk c : Int) + (c.length : Int) - left) left = rs c (-(bk c : Int)) c.length ∧ done.length ≤ c.length - left) (fun x => (-(bk c : Int) + (c.length : Int) - x.2.2.2.2.1).toNat) ⟨[], c.length, Nat.le_refl _, by simp, by simp, by simp⟩ ?_
    rintro x ⟨done, left, hl, rfl, hd, hdl⟩
    have hw1 : wr .i64 (-(bk c : Int) + (c.length : Int)) = -(bk c : Int) + (c.length : Int) := wrap_id (by omega) (by omega)
    by_cases hz : left = 0
    · subst hz
      rw [rs_zero, List.append_nil] at hd
      rw [← hd]
      exact Round.no (by simp [hw1]) (Round.done (Evt.some _))
    obtain ⟨r1, r2, r3, r4⟩ := rl_spec (kd c) (-(bk c : Int) + (c.length : Int) - left) (left := left) (by omega)
    obtain ⟨s, hs⟩ : ∃ s : Int, s = -(bk c : Int) + (c.length : Int) - left := ⟨_, rfl⟩
    rw [← hs] at r1 r2 r3 r4 hd ⊢
    obtain ⟨m, hm⟩ : ∃ m : Nat, m = rl (kd c) s left := ⟨_, rfl⟩
    rw [← hm] at r1 r2 r3 r4
    have hrs : rs c s left = (kd c s, s % c.length, (m : Int), ()) :: rs c (s + (m : Nat)) (left - m) := by rw [rs_pos c s (by omega), ← hm]
    rw [hrs] at hd
    have hmd := Int.emod_nonneg s (show (c.length : Int) ≠ 0 by omega)
    have hme := Int.emod_lt_of_pos s (show 0 < (c.length : Int) by omega)
    have hnext : ∀ d, d = done ++ [(kd c s, s % c.length, (m : Int), ())] → ∃ (done' : List Ct) (left' : Nat), left' ≤ c.length ∧ (((c.length : Int), ((), (c, ())), -(bk c : Int), d, s + m, ()) : Int × (Unit × (List Int × Unit)) × Int × List Ct × Int × Unit) = ((c.length : Int), ((), (c, ())), -(bk c : Int), done', -(bk c : Int) + (c.length : Int) - left', ()) ∧ done' ++ rs c (-(bk c : Int) + (c.length : Int) - left') left' = rs c (-(bk c : Int)) c.length ∧ done'.length ≤ c.length - left' := fun d hd' => ⟨d, left - m, by omega, by rw [hs, show -(bk c : Int) + (c.length : Int) - left + m = -(bk c : Int) + (c.length : Int) - ((left - m : Nat) : Int) by omega], by rw [hd', show -(bk c : Int) + (c.length : Int) - ((left - m : Nat) : Int) = s + (m : Nat) by omega, List.append_assoc]; exact hd, by rw [hd', List.length_append, List.length_singleton]; omega⟩
    refine Round.yes (decide_eq_true (show s < wr .i64 (-(bk c : Int) + (c.length : Int)) by rw [hw1]; omega)) ?_
    refine loop_round (fun y => ∃ j : Nat, j ≤ m ∧ y = ((c.length : Int), ((), (c, ())), -(bk c : Int), done, s, s + (j : Int), ())) (fun y => (s + m - y.2.2.2.2.2.1).toNat) ⟨0, by omega, by simp⟩ ?_
    rintro y ⟨j, hj, rfl⟩
    have e16 : wr .i16 (s % (c.length : Int)) = s % c.length := wrap16 (by omega) (by omega)
    have em : wr .i16 (wr .i64 (s + (m : Int) - s)) = (m : Int) := by rw [show s + (m : Int) - s = m by omega, wrap_id (by omega) (by omega), wrap16 (by omega) (by omega)]
    show Round (fun n ag => if decide (s + (j : Int) < wr .i64 (-(bk c : Int) + (c.length : Int))) = true then _ else _) _ _
    rw [hw1]
    have stop : j = m → ∀ z : (Int × (Unit × (List Int × Unit)) × Int × List Ct × Int × Unit) ⊕ (Int × (Unit × (List Int × Unit)) × Int × List Ct × Int × Int × Unit), z = Sum.inl ((c.length : Int), ((), (c, ())), -(bk c : Int), done ++ [(kd c s, wr .i16 (s % (c.length : Int)), wr .i16 (wr .i64 (s + (j : Int) - s)), ())], s + (j : Int), ()) → (match z with
        | .inl s_1 => (∃ (done' : List Ct) (left' : Nat), left' ≤ c.length ∧ s_1 = ((c.length : Int), ((), (c, ())), -(bk c : Int), done', -(bk c : Int) + (c.length : Int) - left', ()) ∧ done' ++ rs c (-(bk c : Int) + (c.length : Int) - left') left' = rs c (-(bk c : Int)) c.length ∧ done'.length ≤ c.length - left') ∧ (-(bk c : Int) + (c.length : Int) - s_1.2.2.2.2.1).toNat < (-(bk c : Int) + (c.length : Int) - ((((c.length : Int), ((), (c, ())), -(bk c : Int), done, s, ()) : Int × (Unit × (List Int × Unit)) × Int × List Ct × Int × Unit)).2.2.2.2.1).toNat
        | .inr t => (∃ j' : Nat, j' ≤ m ∧ t = ((c.length : Int), ((), (c, ())), -(bk c : Int), done, s, s + (j' : Int), ())) ∧ (s + m - t.2.2.2.2.2.1).toNat < (s + m - (s + (j : Int))).toNat) := by
      intro hjm z hz
      subst hz
      subst hjm
      refine ⟨?_, ?_⟩
      · rw [e16, em]; exact hnext _ rfl
      · show (-(bk c : Int) + (c.length : Int) - (s + (j : Int))).toNat < (-(bk c : Int) + (c.length : Int) - s).toNat
        omega
    refine Round.ite (fun hc => ?_) (fun hc => ?_)
    · have hc : s + (j : Int) < -(bk c : Int) + (c.length : Int) := of_decide_eq_true hc
      refine Round.bind (hK (s + (j : Int)) (by omega) (by omega)) (Round.bind (hK s (by omega) (by omega)) (Round.ite (fun hq => ?_) (fun hq => ?_)))
      · have hq : kd c (s + j) = kd c s := by simpa using hq
        have hjm : j < m := by
          by_cases e : j = m
          · subst e; exact absurd hq (r4 (by omega))
          · omega
        rw [wrap_id (x := s + (j : Int) + 1) (by omega) (by omega)]
        exact Round.inr _ ⟨⟨j + 1, by omega, by rw [show s + (j : Int) + 1 = s + ((j + 1 : Nat) : Int) by omega]⟩, by show (s + m - (s + (j : Int) + 1)).toNat < (s + m - (s + (j : Int))).toNat; omega⟩
      · have hq : kd c (s + j) ≠ kd c s := by simpa using hq
        have hjm : j = m := by
          by_cases e : j < m
          · exact absurd (r3 j e) hq
          · omega
        exact Round.bind (hK s (by omega) (by omega)) (Round.bind (e154 (a := s) (b := (c.length : Int)) (by omega) (by omega) (by omega) (by omega)) (Round.chk (decide_eq_true (by simp; omega)) (Round.again _ (stop hjm _ rfl))))
    · have hc : ¬ s + (j : Int) < -(bk c : Int) + (c.length : Int) := by simpa using hc
      have hjm : j = m := by omega
      exact Round.bind (hK s (by omega) (by omega)) (Round.bind (e154 (a := s) (b := (c.length : Int)) (by omega) (by omega) (by omega) (by omega)) (Round.chk (decide_eq_true (by simp; omega)) (Round.again _ (stop hjm _ rfl))))
  refine loop_evt (fun x => ∃ b : Nat, b ≤ bk c ∧ x = ((c.length : Int), ((), (c, ())), -(b : Int), ())) (fun x => ((bk c : Int) + x.2.2.1).toNat) ⟨0, by omega, by simp⟩ ?_
  rintro x ⟨b, hb, rfl⟩
  show Round (fun n ag => if decide (-(b : Int) > wr .i64 (0 - (c.length : Int))) = true then _ else _) _ _
  have hlt : ∀ hx : b < c.length, decide (-(b : Int) > wr .i64 (0 - (c.length : Int))) = true := fun hx => decide_eq_true (by rw [hwn]; omega)
  have hb1 : b < c.length → wr .i64 (-(b : Int) - 1) = -(b : Int) - 1 := fun hx => wrap_id (by omega) (by omega)
  by_cases e : b = c.length
  · have hbc : bk c = c.length := by omega
    have hrp : runsP c = [(kd c 0, 0, (c.length : Int), ())] := by unfold runsP; rw [if_pos hbc]
    rw [hrp]
    refine Round.no (by rw [hwn]; simp; omega) (Round.yes (by rw [hwn]; simp; omega) (Round.done (Evt.bind (hK 0 (by omega) (by omega)) ((Evt.some _).of_eq fun n => ?_))))
    rw [wrap16 (x := (c.length : Int)) (by omega) (by omega)]
    rfl
  · refine Round.yes (hlt (by omega)) ?_
    show Round (fun n ag => (call T C n 170 (wr .i64 (-(b : Int) - 1), c, ())).bind _) _ _
    rw [hb1 (by omega)]
    refine Round.bind (hK _ (by omega) (by omega)) (Round.bind (hK 0 (by omega) (by omega)) (Round.ite (fun hq => ?_) (fun hq => ?_)))
    · have hq : kd c (-(b : Int) - 1) = kd c 0 := by simpa using hq
      have hbb : b < bk c := by
        by_cases e2 : b = bk c
        · subst e2; exact absurd hq (k3 (by omega))
        · omega
      exact Round.again _ ⟨⟨b + 1, by omega, by rw [show -(b : Int) - 1 = -((b + 1 : Nat) : Int) by omega]⟩, by show ((bk c : Int) + (-(b : Int) - 1)).toNat < ((bk c : Int) + -(b : Int)).toNat; omega⟩
    · have hq : kd c (-(b : Int) - 1) ≠ kd c 0 := by simpa using hq
      have hbb : b = bk c := by
        by_cases e2 : b < bk c
        · exact absurd (k2 b e2) hq
        · omega
      subst hbb
      refine Round.no (by rw [hwn]; simp; omega) (Round.done ?_)
      exact main e _ rfl
/- (impl.Cam).stretches -/
theorem e108 {c : List Int} (hr : Rng c) (h0 : 0 < c.length) (h1 : c.length ≤ 1000) : Evt (fun n => call T C n 108 (c, ())) ((strP c, ()), ()) := by
  obtain ⟨v, r, e, q1, q2, q3, q4, q5⟩ := runsP_cons h0
  refine Evt.next (Evt.bind (e103 hr h0 h1) ?_) (fun n => r108 n c)
  have es : strP c = if v.2.1 > 0 then (v.1, 0, v.2.1 + v.2.2.1 - c.length, ()) :: r ++ [(v.1, v.2.1, (c.length : Int) - v.2.1, ())] else v :: r := by unfold strP; rw [e]
  rw [es, e]
  refine Evt.chk (decide_eq_true (by simp)) (Evt.at (x := v) rfl ?_)
  have w1 : wr .i16 (c.length : Int) = c.length := wrap16 (by omega) (by omega)
  have w2 : wr .i16 (v.2.1 + v.2.2.1) = v.2.1 + v.2.2.1 := wrap16 (by omega) (by omega)
  have w3 : wr .i16 (v.2.1 + v.2.2.1 - (c.length : Int)) = v.2.1 + v.2.2.1 - c.length := wrap16 (by omega) (by omega)
  have w4 : wr .i16 ((c.length : Int) - v.2.1) = (c.length : Int) - v.2.1 := wrap16 (by omega) (by omega)
  rw [w1, w2, w3, w4]
  refine Evt.ite (fun h => ?_) (fun h => ?_)
  · have h : v.2.1 > 0 := of_decide_eq_true h
    rw [if_pos h]
    exact Evt.chk (decide_eq_true (by simp)) (Evt.at (x := v) rfl (Evt.chk (decide_eq_true (by simp; omega)) (Evt.some _)))
  · rw [if_neg (by simpa using h)]; exact Evt.some _
/- impl.isLaw -/
theorem e117 (w : Int) : Evt (fun n => call T C n 117 (w, ())) ((inR w 0 3, ()), ()) := Evt.next (Evt.bind (e84 _ _ _) (Evt.some _)) (fun n => r117 n w)
/- impl.shape -/
theorem e176 {w k n : Int} (w0 : 0 ≤ w) (w1 : w ≤ 3) (k0 : 0 ≤ k) (k1 : k ≤ n) (n1 : n ≤ 360) : Evt (fun m => call T C m 176 (w, k, n, ())) ((shN w k n, shD w n, ()), ()) := by
  refine Evt.next ?_ (fun m => r176 m w k n)
  have W : ∀ x : Int, -9000000000000000000 ≤ x → x ≤ 9000000000000000000 → wr .i64 x = x := fun x a b => wrap_id (by omega) (by omega)
  have q2 := mulB (show 0 ≤ n by omega) n1 (show 0 ≤ n by omega) n1
  have q3 := mulB q2.1 q2.2 (show 0 ≤ n by omega) n1
  have q4 := mulB q3.1 q3.2 (show 0 ≤ n by omega) n1
  have q5 := mulB q4.1 q4.2 (show 0 ≤ n by omega) n1
  have kk := mulB (show 0 ≤ 2 * k by omega) (show 2 * k ≤ 720 by omega) k0 (show k ≤ 360 by omega)
  have dd := mulB (show 0 ≤ 2 * (n - k) by omega) (show 2 * (n - k) ≤ 720 by omega) (show 0 ≤ n - k by omega) (show n - k ≤ 360 by omega)
  have k3 := mulB (show 0 ≤ 3 * k by omega) (show 3 * k ≤ 1080 by omega) k0 (show k ≤ 360 by omega)
  have k3n := mulB k3.1 k3.2 (show 0 ≤ n by omega) n1
  have kkk := mulB kk.1 kk.2 k0 (show k ≤ 360 by omega)
  have c2 := mulB k0 (show k ≤ 360 by omega) k0 (show k ≤ 360 by omega)
  have c3 := mulB c2.1 c2.2 k0 (show k ≤ 360 by omega)
  have e1 := mulB (show 0 ≤ 10 * n by omega) (show 10 * n ≤ 3600 by omega) (show 0 ≤ n by omega) n1
  have e2 := mulB (show 0 ≤ 15 * k by omega) (show 15 * k ≤ 5400 by omega) (show 0 ≤ n by omega) n1
  have e3 := mulB (show 0 ≤ 6 * k by omega) (show 6 * k ≤ 2160 by omega) k0 (show k ≤ 360 by omega)
  have a1 : k * k * k * (-1944000) ≤ k * k * k * (10 * n * n - 15 * k * n + 6 * k * k) := Int.mul_le_mul_of_nonneg_left (by omega) c3.1
  have a2 : k * k * k * (10 * n * n - 15 * k * n + 6 * k * k) ≤ k * k * k * 2073600 := Int.mul_le_mul_of_nonneg_left (by omega) c3.1
  have one : Evt (fun _ => if decide (wr .i64 (2 * k) ≤ n) = true then some ((wr .i64 (wr .i64 (2 * k) * k), wr .i64 (n * n), ()), ()) else some ((wr .i64 (wr .i64 (n * n) - wr .i64 (wr .i64 (2 * wr .i64 (n - k)) * wr .i64 (n - k))), wr .i64 (n * n), ()), ())) ((shN 1 k n, shD 1 n, ()), ()) := by
    rw [W (2 * k) (by omega) (by omega), W (2 * k * k) (by omega) (by omega), W (n * n) (by omega) (by omega), W (n - k) (by omega) (by omega), W (2 * (n - k)) (by omega) (by omega), W (2 * (n - k) * (n - k)) (by omega) (by omega), W (n * n - 2 * (n - k) * (n - k)) (by omega) (by omega)]
    refine Evt.ite (fun h => ?_) (fun h => ?_)
    · have : shN 1 k n = 2 * k * k := by unfold shN; rw [if_pos rfl, if_pos (of_decide_eq_true h)]
      rw [this]; exact Evt.some _
    · have : shN 1 k n = n * n - 2 * (n - k) * (n - k) := by unfold shN; rw [if_pos rfl, if_neg (by simpa using h)]
      rw [this]; exact Evt.some _
  have two : Evt (fun _ => some ((wr .i64 (wr .i64 (wr .i64 (wr .i64 (3 * k) * k) * n) - wr .i64 (wr .i64 (wr .i64 (2 * k) * k) * k)), wr .i64 (wr .i64 (n * n) * n), ()), ())) ((shN 2 k n, shD 2 n, ()), ()) := by
    rw [W (3 * k) (by omega) (by omega), W (3 * k * k) (by omega) (by omega), W (3 * k * k * n) (by omega) (by omega), W (2 * k) (by omega) (by omega), W (2 * k * k) (by omega) (by omega), W (2 * k * k * k) (by omega) (by omega), W (3 * k * k * n - 2 * k * k * k) (by omega) (by omega), W (n * n) (by omega) (by omega), W (n * n * n) (by omega) (by omega)]
    exact Evt.some _
  have three : Evt (fun _ => some ((wr .i64 (wr .i64 (wr .i64 (k * k) * k) * wr .i64 (wr .i64 (wr .i64 (wr .i64 (10 * n) * n) - wr .i64 (wr .i64 (15 * k) * n)) + wr .i64 (wr .i64 (6 * k) * k))), wr .i64 (wr .i64 (wr .i64 (wr .i64 (n * n) * n) * n) * n), ()), ())) ((shN 3 k n, shD 3 n, ()), ()) := by
    rw [W (k * k) (by omega) (by omega), W (k * k * k) (by omega) (by omega), W (10 * n) (by omega) (by omega), W (10 * n * n) (by omega) (by omega), W (15 * k) (by omega) (by omega), W (15 * k * n) (by omega) (by omega), W (10 * n * n - 15 * k * n) (by omega) (by omega), W (6 * k) (by omega) (by omega), W (6 * k * k) (by omega) (by omega), W (10 * n * n - 15 * k * n + 6 * k * k) (by omega) (by omega), W (k * k * k * (10 * n * n - 15 * k * n + 6 * k * k)) (by omega) (by omega), W (n * n) (by omega) (by omega), W (n * n * n) (by omega) (by omega), W (n * n * n * n) (by omega) (by omega), W (n * n * n * n * n) (by omega) (by omega)]
    exact Evt.some _
  rcases (show w = 0 ∨ w = 1 ∨ w = 2 ∨ w = 3 by omega) with rfl | rfl | rfl | rfl
  · exact Evt.yes rfl (Evt.some _)
  · exact Evt.no (by decide) (Evt.yes rfl one)
  · exact Evt.no (by decide) (Evt.no (by decide) (Evt.yes rfl two))
  · exact Evt.no (by decide) (Evt.no (by decide) (Evt.no (by decide) three))
/- impl.nearest -/
theorem e86 {x n : Int} (hn : 0 < n) (hn' : n ≤ 10000000000000) (h1 : -2000000000000000000 ≤ x) (h2 : x ≤ 2000000000000000000) : Evt (fun m => call T C m 86 (x, n, ())) ((nr x n, ()), ()) := by
  refine Evt.next ?_ (fun m => r86 m x n)
  rw [wrap_id (x := 2 * n) (by omega) (by omega), wrap_id (x := 2 * x) (by omega) (by omega), wrap_id (x := 2 * x + n) (by omega) (by omega)]
  exact Evt.bind (e167 (by omega) (by omega) (by omega)) (Evt.some _)
/- impl.liftIn -/
theorem e123 {f t w k n : Int} (f0 : 0 ≤ f) (f1 : f ≤ 10000) (t0 : 0 ≤ t) (t1 : t ≤ 10000) (w0 : 0 ≤ w) (w1 : w ≤ 3) (k0 : 0 ≤ k) (k1 : k ≤ n) (n0 : 1 ≤ n) (n1 : n ≤ 360) : Evt (fun m => call T C m 123 (f, t, w, k, n, ())) ((liftP f t w k n, ()), ()) := by
  have hd := shD_bd (w := w) n0 n1
  have hb := lift_bd (w := w) f0 f1 t0 t1 k0 k1 n0 n1
  refine Evt.next (Evt.bind (e176 w0 w1 k0 k1 n1) ?_) (fun m => r123 m f t w k n)
  show Evt (fun m => (call T C m 86 (wr .i64 (wr .i64 (f * shD w n) + wr .i64 (wr .i64 (t - f) * shN w k n)), shD w n, ())).bind _) _
  rw [wrap_id (x := f * shD w n) (by omega) (by omega), wrap_id (x := t - f) (by omega) (by omega), wrap_id (x := (t - f) * shN w k n) (by omega) (by omega), wrap_id (x := f * shD w n + (t - f) * shN w k n) (by omega) (by omega)]
  exact Evt.bind (e86 (by omega) (by omega) (by omega) (by omega)) (Evt.some _)
/- (impl.Cam).fits -/
theorem e174 {c : List Int} (hr : Rng c) (h0 : 0 < c.length) (h1 : c.length ≤ 360) (hC : ∀ v ∈ c, 0 ≤ v ∧ v ≤ 10000) {s l w : Int} (w0 : 0 ≤ w) (w1 : w ≤ 3) (s0 : 0 ≤ s) (s1 : s ≤ 1000) (l0 : 1 ≤ l) (l1 : l ≤ 360) : Evt (fun n => call T C n 174 (c, w, s, l, ())) ((fitW c s l w, ()), ()) := by
  have hf := hC _ (cAt_mem h0 s)
  have ht := hC _ (cAt_mem h0 (s + l))
  refine Evt.next (Evt.bind (e81 hr (by omega) (by omega) (by omega) (by omega)) ?_) (fun n => r174 n c w s l)
  rw [wrap_id (x := s + l) (by omega) (by omega)]
  refine Evt.bind (e81 hr (by omega) (by omega) (by omega) (by omega)) ?_
  refine for_evt' 1 l (fun k (_ : Unit) => (c, w, s, l, cAt c s, cAt c (s + l), k, ())) (fun k _ => fitTo c s l w (k - 1).toNat = true) (b0 := ()) rfl (by omega) rfl ?_ ?_
  · intro k _ k0 k1 hk
    have hsk : wr .i64 (s + k) = s + k := wrap_id (by omega) (by omega)
    refine Round.yes (decide_eq_true k1) (Round.bind (e123 (f := cAt c s) (t := cAt c (s + l)) (w := w) (k := k) (n := l) hf.1 hf.2 ht.1 ht.2 w0 w1 (by omega) (by omega) (by omega) (by omega)) ?_)
    show Round (fun n ag => (call T C n 81 (c, wr .i64 (s + k), ())).bind _) _ _
    rw [hsk]
    refine Round.bind (e81 hr (by omega) (by omega) (by omega) (by omega)) (Round.ite (fun hn => ?_) (fun hn => ?_))
    · have hn : liftP (cAt c s) (cAt c (s + l)) w k l ≠ cAt c (s + k) := by simpa using hn
      have : fitW c s l w = false := by
        unfold fitW fitTo
        refine allTo_false (i := (k - 1).toNat) (by omega) ?_
        rw [show (((k - 1).toNat : Nat) : Int) + 1 = k by omega]
        simpa using fun e => hn e.symm
      rw [this]
      exact Round.done (Evt.some _)
    · have hn : liftP (cAt c s) (cAt c (s + l)) w k l = cAt c (s + k) := by simpa using hn
      refine Round.again _ ⟨(), ?_, ?_⟩
      · show (c, w, s, l, cAt c s, cAt c (s + l), wr .i64 (k + 1), ()) = _
        rw [wrap_id (x := k + 1) (by omega) (by omega)]
      · rw [show (k + 1 - 1).toNat = (k - 1).toNat + 1 by omega]
        unfold fitTo at hk ⊢
        rw [allTo_succ, hk, show (((k - 1).toNat : Nat) : Int) + 1 = k by omega, hn]
        simp
  · intro _ hk
    have hk : fitW c s l w = true := hk
    rw [hk]
    exact Round.no (by simp) (Round.done (Evt.some _))
/- (impl.Cam).fitMotion -/
theorem e109 {c : List Int} (hr : Rng c) (h0 : 0 < c.length) (h1 : c.length ≤ 360) (hC : ∀ v ∈ c, 0 ≤ v ∧ v ≤ 10000) {s l : Int} (s0 : 0 ≤ s) (s1 : s ≤ 1000) (l0 : 1 ≤ l) (l1 : l ≤ 360) : Evt (fun n => call T C n 109 (c, s, l, ())) ((fitL c s l, ()), ()) := by
  refine Evt.next ?_ (fun n => r109 n c s l)
  refine for_evt' 0 4 (fun w (_ : Unit) => (c, s, l, w, ())) (fun w _ => ∀ u : Int, 0 ≤ u → u < w → fitW c s l u = false) (b0 := ()) rfl (by omega) (fun u a b => by omega) ?_ ?_
  · intro w _ w0 w1 hw
    refine Round.bind (e117 w) (Round.yes (inR_iff.2 ⟨w0, by omega⟩) (Round.bind (e174 hr h0 h1 hC w0 (show w ≤ 3 by omega) s0 s1 l0 l1) (Round.ite (fun ho => ?_) (fun ho => ?_))))
    · have ho : fitW c s l w = true := ho
      have : fitL c s l = w := by
        unfold fitL
        rcases (show w = 0 ∨ w = 1 ∨ w = 2 ∨ w = 3 by omega) with rfl | rfl | rfl | rfl
        · rw [if_pos ho]
        · rw [hw 0 (by omega) (by omega), if_neg (by simp), if_pos ho]
        · rw [hw 0 (by omega) (by omega), hw 1 (by omega) (by omega), if_neg (by simp), if_neg (by simp), if_pos ho]
        · rw [hw 0 (by omega) (by omega), hw 1 (by omega) (by omega), hw 2 (by omega) (by omega), if_neg (by simp), if_neg (by simp), if_neg (by simp), if_pos ho]
      rw [this]
      exact Round.done (Evt.some _)
    · have ho : fitW c s l w = false := by simpa using ho
      refine Round.again _ ⟨(), ?_, fun u a b => ?_⟩
      · show (c, s, l, wr .i64 (w + 1), ()) = _
        rw [wrap_id (x := w + 1) (by omega) (by omega)]
      · by_cases e : u = w
        · rw [e]; exact ho
        · exact hw u a (by omega)
  · intro _ hw
    have : fitL c s l = -1 := by
      unfold fitL
      rw [hw 0 (by omega) (by omega), hw 1 (by omega) (by omega), hw 2 (by omega) (by omega), hw 3 (by omega) (by omega)]
      rfl
    rw [this]
    exact Round.bind (e117 4) (Round.no (by decide) (Round.done (Evt.some _)))
/- impl.FitProgram -/
theorem e29 (c : List Int) (hr : Rng c) : Evt (fun n => call T C n 29 (c, ())) (fpR c, ()) := by
  have hlen := hr.len'
  refine Evt.next (Evt.bind (e89 c (by omega)) ?_) (fun n => r29 n c)
  unfold fpR
  cases hok : okC c with
  | false => exact Evt.yes rfl (Evt.some _)
  | true =>
    have hl := okC_len hok
    have hC := okC_el hok hr
    have h0 : 0 < c.length := by omega
    obtain ⟨hs1, hs2⟩ := strP_el h0
    rw [if_neg (by simp)]
    refine Evt.no (by simp) (Evt.bind (e108 hr h0 (by omega)) (Evt.ite (fun h => ?_) (fun h => ?_)))
    · rw [if_pos (of_decide_eq_true h)]; exact Evt.some _
    have h : ¬ ((strP c).length : Int) > 24 := by simpa using h
    rw [if_neg h]
    refine Evt.at (g_idx (l := c) (i := 0) (Int.le_refl _) (by omega)).idx ?_
    refine for_evt' 0 ((strP c).length : Int) (fun i (_ : Unit) => (c, ((0, [], ()) : Prg), (g c 0, ((strP c).take i.toNat).map (motP c), ()), strP c, ((strP c).length : Int), i, ())) (fun i _ => ∀ v ∈ (strP c).take i.toNat, ¬ fitL c v.2.1 v.2.2.1 < 0) (b0 := ()) rfl (by omega) (fun v hv => by simp at hv) ?_ ?_
    · intro i _ h2 h3 hp
      obtain ⟨v, hv⟩ := at_of h2 h3
      obtain ⟨_, b1, b2⟩ := hs2 v hv.mem
      have hfl := fitL_bd c v.2.1 v.2.2.1
      have hca := hC _ (cAt_mem h0 (v.2.1 + v.2.2.1))
      have e1 : wr .i64 v.2.1 = v.2.1 := wrap_id (by omega) (by omega)
      have e2 : wr .i64 v.2.2.1 = v.2.2.1 := wrap_id (by omega) (by omega)
      have e3 : wr .i64 (v.2.1 + v.2.2.1) = v.2.1 + v.2.2.1 := wrap_id (by omega) (by omega)
      have e4 : wr .i16 (cAt c (v.2.1 + v.2.2.1)) = cAt c (v.2.1 + v.2.2.1) := wrap16 (by omega) (by omega)
      have hlen2 : ((((strP c).take i.toNat).map (motP c)).length : Int) ≤ 24 := by rw [List.length_map, List.length_take]; omega
      refine Round.yes (decide_eq_true h3) (Round.at hv.idx ?_)
      rw [e1, e2, e3]
      refine Round.bind (e109 hr h0 (by omega) hC b1.1 (by omega) b2.1 (by omega)) (Round.ite (fun hn => ?_) (fun hn => ?_))
      · have hn : fitL c v.2.1 v.2.2.1 < 0 := of_decide_eq_true hn
        rw [all_false hv.mem (by simpa using hn), if_neg (by simp)]
        exact Round.done (Evt.some _)
      · have hn : ¬ fitL c v.2.1 v.2.2.1 < 0 := by simpa using hn
        refine Round.bind (e81 hr (by omega) (by omega) (by omega) (by omega)) (Round.chk (decide_eq_true (by simp only [List.length_cons, List.length_nil]; omega)) (Round.again _ ⟨(), ?_, fun u hu => ?_⟩))
        · show (c, ((0, [], ()) : Prg), (g c 0, ((strP c).take i.toNat).map (motP c) ++ [(wr .i8 (fitL c v.2.1 v.2.2.1), v.2.2.1, wr .i16 (cAt c (v.2.1 + v.2.2.1)), ())], ()), strP c, ((strP c).length : Int), wr .i64 (i + 1), ()) = _
          rw [wr_succ h2 h3 (by omega), wrap8 (by omega) (by omega), e4, hv.take]
          simp [motP]
        · rw [hv.take] at hu
          rcases List.mem_append.1 hu with hu | hu
          · exact hp u hu
          · have : u = v := by simpa using hu
            rw [this]; exact hn
    · intro _ hp
      rw [take_all] at hp
      simp only [take_all]
      have : (strP c).all (fun v => !decide (fitL c v.2.1 v.2.2.1 < 0)) = true := List.all_eq_true.2 fun v hv => by simpa using hp v hv
      rw [if_pos this]
      exact Round.no (by simp) (Round.done (Evt.some _))
/- spec.l00In -/
theorem e87 (a b c : Int) : Evt (fun n => call T C n 87 (a, b, c, ())) ((inR a b c, ()), ()) := by
  refine Evt.next ?_ (fun n => r87 n a b c)
  refine Evt.ite (fun h => ?_) (fun h => ?_)
  · refine (Evt.some _).of_eq fun n => ?_
    have h : b ≤ a := of_decide_eq_true h
    simp [inR, h]
    rfl
  · refine (Evt.some _).of_eq fun n => ?_
    have h : ¬ b ≤ a := by simpa using h
    simp [inR, h]
    rfl
/- spec.l01Steps -/
theorem e97 (a : Int) : Evt (fun n => call T C n 97 (a, ())) ((inR a 8 360, ()), ()) := Evt.next (Evt.bind (e87 a 8 360) (Evt.some _)) (fun n => r97 n a)
/- spec.l01Lift -/
theorem e166 (a : Int) : Evt (fun n => call T C n 166 (a, ())) ((inR a 0 10000, ()), ()) := Evt.next (Evt.bind (e87 a 0 10000) (Evt.some _)) (fun n => r166 n a)
/- spec.l01Ok -/
theorem e95 (l : List Int) (hl : (l.length : Int) ≤ 140737488351232) : Evt (fun n => call T C n 95 (l, ())) ((okC l, ()), ()) := by
  refine Evt.next ?_ (fun n => r95 n l)
  refine Evt.bind (e97 _) ?_
  refine Evt.ite (fun h => ?_) (fun h => ?_)
  · refine (Evt.some _).of_eq fun n => ?_
    have h : inR (l.length : Int) 8 360 = false := by simpa using h
    simp [okC, h]
    rfl
  · have h : inR (l.length : Int) 8 360 = true := by simpa using h
    have he : okC l = l.all okV := by simp [okC, h]
    rw [he]
    refine loop_evt (fun (x : List Int × Int × Unit) => x.1 = l ∧ 0 ≤ x.2.1 ∧ x.2.1 ≤ (l.length : Int) ∧ l.all okV = (l.drop x.2.1.toNat).all okV) (fun (x : List Int × Int × Unit) => ((l.length : Int) - x.2.1).toNat) (x := (l, 0, ())) ⟨rfl, Int.le_refl _, by simp, by simp⟩ ?_
    rintro ⟨x1, i, _⟩ ⟨h', h0, h1, h2⟩
    simp only at h' h0 h1 h2
    subst h'
    refine Round.ite (fun hlt => ?_) (fun hge => ?_)
    · have hlt : i < (x1.length : Int) := of_decide_eq_true hlt
      obtain ⟨v, hv, hv'⟩ := idx_at h0 hlt
      have hd := drop_cons hv'
      refine Round.at hv (Round.bind (e166 _) (Round.ite (fun hb => ?_) (fun hb => ?_)))
      · have hb : okV v = false := by simpa [okV] using hb
        have h3 : x1.all okV = false := by rw [h2, hd]; simp [hb]
        rw [h3]
        exact Round.done (Evt.some _)
      · have hb : okV v = true := by simpa [okV] using hb
        have hw : wr .i64 (i + 1) = i + 1 := wrap_id (by omega) (by omega)
        refine Round.again _ ⟨⟨rfl, ?_, ?_, ?_⟩, ?_⟩ <;> simp only [hw]
        · omega
        · omega
        · rw [h2, hd, show (i + 1).toNat = i.toNat + 1 by omega]
          simp [hb]
        · omega
    · have hge : ¬ i < (x1.length : Int) := by simpa using hge
      have : x1.drop i.toNat = [] := List.drop_of_length_le (by omega)
      rw [h2, this]
      exact Round.done (Evt.some _)
/- spec.l01At -/
theorem e98 {l : List Int} (hr : Rng l) (h0 : 0 < (l.length : Int)) (h1 : (l.length : Int) ≤ 1000000) {x : Int} (hx : -4000000 ≤ x) (hx' : x ≤ 4000000) : ∃ v, l[(x % l.length).toNat]? = some v ∧ v ∈ l ∧ Evt (fun n => call T C n 98 (l, x, ())) ((v, ()), ()) := by
  have hp := Int.emod_nonneg x (show (l.length : Int) ≠ 0 by omega)
  obtain ⟨v, hv⟩ := at_of (l := l) hp (Int.emod_lt_of_pos x h0)
  refine ⟨v, hv.get, hv.mem, ?_⟩
  refine Evt.next (Evt.chk (bne_pos h0) (Evt.chk (bne_pos h0) ?_)) (fun n => r98 n l x)
  rw [turn_at h0 h1 hx hx']
  refine Evt.at hv.idx ((Evt.some _).of_eq fun n => ?_)
  rw [hr.id hv.mem]
  rfl
theorem e98' {l : List Int} (hr : Rng l) (h0 : 0 < (l.length : Int)) (h1 : (l.length : Int) ≤ 1000000) {x : Int} (hx : -4000000 ≤ x) (hx' : x ≤ 4000000) : Evt (fun n => call T C n 98 (l, x, ())) ((cAt l x, ()), ()) := by
  obtain ⟨v, hv, hm, he⟩ := e98 hr h0 h1 hx hx'
  have : cAt l x = v := by unfold cAt g; rw [List.getD_eq_getElem?_getD, hv]; rfl
  rw [this]; exact he
/- spec.l01Changes -/
theorem e105 {c : List Int} (hr : Rng c) (h0 : 0 < c.length) (h1 : c.length ≤ 1000) : Evt (fun n => call T C n 105 (c, ())) ((chgL c, ()), ()) := by
  refine Evt.next ?_ (fun n => r105 n c)
  refine for_evt' 0 (c.length : Int) (fun i (_ : Unit) => (c, (List.range i.toNat).map (fun i => cAt c ((i : Nat) + 1) - cAt c (i : Nat)), i, ())) (fun _ _ => True) (b0 := ()) rfl (by omega) trivial ?_ ?_
  · intro i _ h2 h3 _
    have b1 := hr.el _ (cAt_mem h0 (i + 1))
    have b2 := hr.el _ (cAt_mem h0 i)
    simp only [wr_succ h2 h3 (by omega)]
    refine Round.yes (decide_eq_true h3) (Round.bind (e98' hr (by omega) (by omega) (by omega) (by omega)) (Round.bind (e98' hr (by omega) (by omega) (by omega) (by omega)) (Round.chk (decide_eq_true (by simp; omega)) (Round.again _ ⟨(), ?_, trivial⟩))))
    show (c, _ ++ [wr .i64 (cAt c (i + 1) - cAt c i)], i + 1, ()) = _
    rw [wrap_id (x := cAt c (i + 1) - cAt c i) (by omega) (by omega), show (i + 1).toNat = i.toNat + 1 by omega, List.range_succ, List.map_append]
    simp [show ((i.toNat : Nat) : Int) = i by omega]
  · intro _ _
    exact Round.no (by simp) (Round.done (Evt.some ((chgL c, ()), ())))
/- spec.l01Kind -/
theorem e172 (x : Int) : Evt (fun n => call T C n 172 (x, ())) ((kdOf x, ()), ()) := by
  refine Evt.next ?_ (fun n => r172 n x)
  unfold kdOf
  refine Evt.ite (fun h => ?_) (fun h => ?_)
  · rw [if_pos (of_decide_eq_true h)]; exact Evt.some _
  have h : ¬ x > 0 := by simpa using h
  rw [if_neg h]
  refine Evt.ite (fun h => ?_) (fun h => ?_)
  · rw [if_pos (of_decide_eq_true h)]; exact Evt.some _
  · rw [if_neg (by simpa using h)]; exact Evt.some _
/- spec.l01Runs -/
theorem e104 {c : List Int} (hr : Rng c) (h0 : 0 < c.length) (h1 : c.length ≤ 1000) : Evt (fun n => call T C n 104 (c, ())) ((runsP c, ()), ()) := by
  have hcl := chgL_len c
  have hN : ∀ x : Int, 0 ≤ x → Int.tmod x (c.length : Int) = x % c.length := fun x hx => Int.tmod_eq_emod_of_nonneg hx
  have hA : ∀ x : Int, 0 ≤ x → idx (chgL c) (Int.tmod x (c.length : Int)) = some (cAt c (x + 1) - cAt c x) := fun x hx => by rw [hN x hx]; exact (chgL_at h0 x).idx
  refine Evt.next (Evt.bind (e105 hr h0 h1) ?_) (fun n => r104 n c)
  have main : ∀ s0 : Int, 0 ≤ s0 → s0 ≤ 1000 → rs c s0 c.length = specRuns c → Evt (fun n => loopK (fun (x24 : (List Int) × Int × (List (Int × (Int × (Int × Unit)))) × Int × Int × Unit) again25 => 
    (if (decide (x24.2.2.2.2.1 > (0 : Int))) = true then 
  loopK (fun (x27 : (List Int) × Int × (List (Int × (Int × (Int × Unit)))) × Int × Int × Int × Unit) again28 => 
    (if (decide (x27.2.2.2.2.2.1 < x27.2.2.2.2.1)) = true then chk (x27.2.1 != 0) ((idx x27.1 (Int.tmod (wr .i64 (x27.2.2.2.1 + x27.2.2.2.2.2.1)) x27.2.1)).bind fun v30 => (
   call T C n 172 (v30, ())).bind fun r31 => chk (x27.2.1 != 0) ((idx x27.1 (Int.tmod x27.2.2.2.1 x27.2.1)).bind fun v32 => (
   call T C n 172 (v32, ())).bind fun r33 => 
    (if (bif true then (r31.1.1 == r33.1.1) else false) = true then again28 (x27.1, x27.2.1, x27.2.2.1, x27.2.2.2.1, x27.2.2.2.2.1, (wr .i64 (x27.2.2.2.2.2.1 + (1 : Int))), ()) else chk (x27.2.1 != 0) ((idx x27.1 (Int.tmod x27.2.2.2.1 x27.2.1)).bind fun v34 => (
   call T C n 172 (v34, ())).bind fun r35 => chk (x27.2.1 != 0) (chk (decide ((x27.2.2.1.length + ([(r35.1.1, ((wr .i16 (Int.tmod x27.2.2.2.1 x27.2.1)), ((wr .i16 x27.2.2.2.2.2.1), ())))] : (List (Int × (Int × (Int × Unit))))).length) * 6 ≤ 140737488355328)) (again25 (x27.1, x27.2.1, (x27.2.2.1 ++ ([(r35.1.1, ((wr .i16 (Int.tmod x27.2.2.2.1 x27.2.1)), ((wr .i16 x27.2.2.2.2.2.1), ())))] : (List (Int × (Int × (Int × Unit)))))), (wr .i64 (x27.2.2.2.1 + x27.2.2.2.2.2.1)), (wr .i64 (x27.2.2.2.2.1 - x27.2.2.2.2.2.1)), ()))))))) else chk (x27.2.1 != 0) ((idx x27.1 (Int.tmod x27.2.2.2.1 x27.2.1)).bind fun v36 => (
   call T C n 172 (v36, ())).bind fun r37 => chk (x27.2.1 != 0) (chk (decide ((x27.2.2.1.length + ([(r37.1.1, ((wr .i16 (Int.tmod x27.2.2.2.1 x27.2.1)), ((wr .i16 x27.2.2.2.2.2.1), ())))] : (List (Int × (Int × (Int × Unit))))).length) * 6 ≤ 140737488355328)) (again25 (x27.1, x27.2.1, (x27.2.2.1 ++ ([(r37.1.1, ((wr .i16 (Int.tmod x27.2.2.2.1 x27.2.1)), ((wr .i16 x27.2.2.2.2.2.1), ())))] : (List (Int × (Int × (Int × Unit)))))), (wr .i64 (x27.2.2.2.1 + x27.2.2.2.2.2.1)), (wr .i64 (x27.2.2.2.2.1 - x27.2.2.2.2.2.1)), ())))))) n (x24.1, x24.2.1, x24.2.2.1, x24.2.2.2.1, x24.2.2.2.2.1, (1 : Int), ()) else 
    (if ((x24.2.2.1.length : Int) == (1 : Int)) = true then chk (decide (0 ≤ (0 : Int) ∧ (0 : Int) < (x24.2.2.1.length : Int))) ((x24.2.2.1[(Int.toNat (0 : Int))]?).bind fun v38 => some (((x24.2.2.1.set (Int.toNat (0 : Int)) (v38.1, ((0 : Int), v38.2.2))), ()), (()))) else some ((x24.2.2.1, ()), (()))))) n (chgL c, (c.length : Int), ([] : List Ct), s0, (c.length : Int), ())) ((runsP c, ()), ()) := by
    intro s0 s00 s01 hs0
    refine loop_evt (fun x => ∃ (done : List Ct) (left : Nat), left ≤ c.length ∧ x = (chgL c, (c.length : Int), done, s0 + (c.length : Int) - left, (left : Int), ()) ∧ done ++ rs c (s0 + (c.length : Int) - left) left = specRuns c ∧ done.length ≤ c.length - left) (fun x => x.2.2.2.2.1.toNat) ⟨[], c.length, Nat.le_refl _, by simp, by simpa using hs0, by simp⟩ ?_
    rintro x ⟨done, left, hl, rfl, hd, hdl⟩
    by_cases hz : left = 0
    · subst hz
      rw [rs_zero, List.append_nil] at hd
      rw [← spec_runs h0, ← hd]
      refine Round.no (by simp) (Round.ite (fun h => ?_) (fun h => ?_))
      · have h : done.length = 1 := by
          have h : (done.length : Int) = 1 := by simpa using h
          omega
        obtain ⟨v, rfl⟩ : ∃ v, done = [v] := List.length_eq_one_iff.1 h
        exact Round.chk rfl (Round.at (v := v) rfl (Round.done (Evt.some _)))
      · have h : done.length ≠ 1 := by
          have h : ¬ (done.length : Int) = 1 := by simpa using h
          omega
        have : fixOne done = done := by
          match done, h with
          | [], _ => rfl
          | [_], h => exact absurd rfl h
          | _ :: _ :: _, _ => rfl
        rw [this]
        exact Round.done (Evt.some _)
    obtain ⟨r1, r2, r3, r4⟩ := rl_spec (kd c) (s0 + (c.length : Int) - left) (left := left) (by omega)
    obtain ⟨s, hs⟩ : ∃ s : Int, s = s0 + (c.length : Int) - left := ⟨_, rfl⟩
    rw [← hs] at r1 r2 r3 r4 hd ⊢
    obtain ⟨m, hm⟩ : ∃ m : Nat, m = rl (kd c) s left := ⟨_, rfl⟩
    rw [← hm] at r1 r2 r3 r4
    have hrs : rs c s left = (kd c s, s % c.length, (m : Int), ()) :: rs c (s + (m : Nat)) (left - m) := by rw [rs_pos c s (by omega), ← hm]
    rw [hrs] at hd
    have hmd := Int.emod_nonneg s (show (c.length : Int) ≠ 0 by omega)
    have hme := Int.emod_lt_of_pos s (show 0 < (c.length : Int) by omega)
    have hse : Int.tmod s (c.length : Int) = s % c.length := hN s (by omega)
    refine Round.yes (decide_eq_true (show (left : Int) > 0 by omega)) ?_
    refine loop_round (fun y => ∃ j : Nat, 1 ≤ j ∧ j ≤ m ∧ y = (chgL c, (c.length : Int), done, s, (left : Int), (j : Int), ())) (fun y => (m - y.2.2.2.2.2.1).toNat) ⟨1, by omega, by omega, rfl⟩ ?_
    rintro y ⟨j, hj1, hj, rfl⟩
    have e16 : wr .i16 (s % (c.length : Int)) = s % c.length := wrap16 (by omega) (by omega)
    have ej : wr .i16 (j : Int) = j := wrap16 (by omega) (by omega)
    have esj : wr .i64 (s + (j : Int)) = s + j := wrap_id (by omega) (by omega)
    have elj : wr .i64 ((left : Int) - (j : Int)) = (left : Int) - j := wrap_id (by omega) (by omega)
    have ej1 : wr .i64 ((j : Int) + 1) = ((j + 1 : Nat) : Int) := by rw [wrap_id (by omega) (by omega)]; omega
    have bn : ((c.length : Int) != 0) = true := bne_pos (by omega)
    have stop : j = m → ∀ e : Int, e = s + (j : Int) → ∀ z : (List Int × Int × List Ct × Int × Int × Unit) ⊕ (List Int × Int × List Ct × Int × Int × Int × Unit), z = Sum.inl (chgL c, (c.length : Int), done ++ [(kdOf (cAt c (s + 1) - cAt c s), wr .i16 (Int.tmod s (c.length : Int)), wr .i16 (j : Int), ())], e, wr .i64 ((left : Int) - (j : Int)), ()) → (match z with
        | .inl s_1 => (∃ (done' : List Ct) (left' : Nat), left' ≤ c.length ∧ s_1 = (chgL c, (c.length : Int), done', s0 + (c.length : Int) - left', (left' : Int), ()) ∧ done' ++ rs c (s0 + (c.length : Int) - left') left' = specRuns c ∧ done'.length ≤ c.length - left') ∧ s_1.2.2.2.2.1.toNat < (((chgL c, (c.length : Int), done, s, (left : Int), ()) : List Int × Int × List Ct × Int × Int × Unit)).2.2.2.2.1.toNat
        | .inr t => (∃ j' : Nat, 1 ≤ j' ∧ j' ≤ m ∧ t = (chgL c, (c.length : Int), done, s, (left : Int), (j' : Int), ())) ∧ (m - t.2.2.2.2.2.1).toNat < ((m : Int) - (j : Int)).toNat) := by
      intro hjm e he z hz
      subst hz
      subst hjm
      refine ⟨⟨done ++ [(kd c s, s % c.length, (j : Int), ())], left - j, by omega, ?_, ?_, ?_⟩, ?_⟩
      · show (chgL c, (c.length : Int), done ++ [(kd c s, wr .i16 (Int.tmod s (c.length : Int)), wr .i16 (j : Int), ())], e, wr .i64 ((left : Int) - (j : Int)), ()) = _
        rw [hse, e16, ej, he, elj, show s + (j : Int) = s0 + (c.length : Int) - ((left - j : Nat) : Int) by omega, show (left : Int) - (j : Int) = ((left - j : Nat) : Int) by omega]
      · rw [show s0 + (c.length : Int) - ((left - j : Nat) : Int) = s + (j : Nat) by omega, List.append_assoc]; exact hd
      · rw [List.length_append, List.length_singleton]; omega
      · show (wr .i64 ((left : Int) - (j : Int))).toNat < (left : Int).toNat
        rw [elj]; omega
    show Round (fun n ag => if decide ((j : Int) < (left : Int)) = true then _ else _) _ _
    refine Round.ite (fun hc => ?_) (fun hc => ?_)
    · have hc : (j : Int) < (left : Int) := of_decide_eq_true hc
      refine Round.chk bn ?_
      show Round (fun n ag => (idx (chgL c) (Int.tmod (wr .i64 (s + (j : Int))) (c.length : Int))).bind _) _ _
      rw [esj]
      refine Round.at (hA _ (by omega)) (Round.bind (e172 _) (Round.chk bn (Round.at (hA s (by omega)) (Round.bind (e172 _) (Round.ite (fun hq => ?_) (fun hq => ?_))))))
      · have hq : kd c (s + j) = kd c s := by
          have : kdOf (cAt c (s + j + 1) - cAt c (s + j)) = kdOf (cAt c (s + 1) - cAt c s) := by simpa using hq
          exact this
        have hjm : j < m := by
          by_cases e : j = m
          · subst e; exact absurd hq (r4 (by omega))
          · omega
        show Round (fun n ag => ag (Sum.inr (chgL c, (c.length : Int), done, s, (left : Int), wr .i64 ((j : Int) + 1), ()))) _ _
        rw [ej1]
        exact Round.inr _ ⟨⟨j + 1, by omega, by omega, rfl⟩, by show ((m : Int) - ((j + 1 : Nat) : Int)).toNat < ((m : Int) - (j : Int)).toNat; omega⟩
      · have hq : kd c (s + j) ≠ kd c s := by
          have : ¬ kdOf (cAt c (s + j + 1) - cAt c (s + j)) = kdOf (cAt c (s + 1) - cAt c s) := by simpa using hq
          exact this
        have hjm : j = m := by
          by_cases e : j < m
          · exact absurd (r3 j e) hq
          · omega
        exact Round.chk bn (Round.at (hA s (by omega)) (Round.bind (e172 _) (Round.chk bn (Round.chk (decide_eq_true (by simp; omega)) (Round.again _ (stop hjm _ rfl _ rfl))))))
    · have hc : ¬ (j : Int) < (left : Int) := by simpa using hc
      have hjm : j = m := by omega
      exact Round.chk bn (Round.at (hA s (by omega)) (Round.bind (e172 _) (Round.chk bn (Round.chk (decide_eq_true (by simp; omega)) (Round.again _ (stop hjm _ esj _ rfl))))))
  obtain ⟨B, hB⟩ : ∃ B, B = bkF (kd c) (c.length - 1) 0 := ⟨_, rfl⟩
  obtain ⟨_, b2, b3, b4⟩ := bkF_spec (kd c) (c.length - 1) 0 (fun i hi => by omega)
  rw [← hB] at b2 b3 b4
  have hfin : ∀ b : Nat, b = B → rs c (if b = 0 then 0 else (c.length : Int) - b) c.length = specRuns c := fun b hb => by unfold specRuns; rw [← hB, hb]
  have hsB : ∀ b : Nat, b < c.length → 0 ≤ (if b = 0 then 0 else (c.length : Int) - b) ∧ (if b = 0 then 0 else (c.length : Int) - b) ≤ 1000 := fun b hb => by split <;> omega
  refine loop_evt (fun x => ∃ b : Nat, b ≤ B ∧ x = (chgL c, (c.length : Int), (if b = 0 then 0 else (c.length : Int) - b), (b : Int), ())) (fun x => ((B : Int) - x.2.2.2.1).toNat) ⟨0, by omega, by simp [hcl]⟩ ?_
  rintro x ⟨b, hb, rfl⟩
  have w1 : wr .i64 ((c.length : Int) - 1) = (c.length : Int) - 1 := wrap_id (by omega) (by omega)
  have w2 : wr .i64 ((c.length : Int) - 1 - (b : Int)) = (c.length : Int) - 1 - b := wrap_id (by omega) (by omega)
  have w3 : wr .i64 ((b : Int) + 1) = (b : Int) + 1 := wrap_id (by omega) (by omega)
  have bn : ((c.length : Int) != 0) = true := bne_pos (by omega)
  show Round (fun n ag => if decide ((b : Int) < wr .i64 ((c.length : Int) - 1)) = true then _ else _) _ _
  refine Round.ite (fun hc => ?_) (fun hc => ?_)
  · have hc : (b : Int) < (c.length : Int) - 1 := by
      have := of_decide_eq_true hc
      rw [w1] at this; exact this
    refine Round.chk bn ?_
    show Round (fun n ag => (idx (chgL c) (Int.tmod (wr .i64 (wr .i64 ((c.length : Int) - 1) - (b : Int))) (c.length : Int))).bind _) _ _
    rw [w1, w2]
    have hk1 : kdOf (cAt c ((c.length : Int) - 1 - b + 1) - cAt c ((c.length : Int) - 1 - b)) = kd c (-(b : Int) - 1) := by
      show kd c ((c.length : Int) - 1 - b) = _
      rw [show (c.length : Int) - 1 - (b : Int) = -(b : Int) - 1 + c.length by omega, kd_add]
    have h00 : idx (chgL c) 0 = some (cAt c (0 + 1) - cAt c 0) := by have := hA 0 (Int.le_refl _); simpa using this
    refine Round.at (hA _ (by omega)) (Round.bind (e172 _) (Round.at h00 (Round.bind (e172 _) (Round.ite (fun hq => ?_) (fun hq => ?_)))))
    · have hq : kd c (-(b : Int) - 1) = kd c 0 := by
        have : kdOf (cAt c ((c.length : Int) - 1 - b + 1) - cAt c ((c.length : Int) - 1 - b)) = kdOf (cAt c (0 + 1) - cAt c 0) := by simpa using hq
        rw [hk1] at this; exact this
      have hbb : b < B := by
        by_cases e2 : b = B
        · subst e2; exact absurd hq (b4 (by omega))
        · omega
      refine Round.again _ ⟨⟨b + 1, by omega, ?_⟩, ?_⟩
      · rw [w3, if_neg (show ¬ b + 1 = 0 by omega), show (c.length : Int) - 1 - (b : Int) = (c.length : Int) - ((b + 1 : Nat) : Int) by omega]
        rfl
      · show ((B : Int) - wr .i64 ((b : Int) + 1)).toNat < ((B : Int) - (b : Int)).toNat
        rw [w3]; omega
    · have hq : kd c (-(b : Int) - 1) ≠ kd c 0 := by
        have : ¬ kdOf (cAt c ((c.length : Int) - 1 - b + 1) - cAt c ((c.length : Int) - 1 - b)) = kdOf (cAt c (0 + 1) - cAt c 0) := by simpa using hq
        rw [hk1] at this; exact this
      have hbb : b = B := by
        by_cases e2 : b < B
        · exact absurd (b3 b e2) hq
        · omega
      exact Round.done (main _ (hsB b (by omega)).1 (hsB b (by omega)).2 (hfin b hbb))
  · have hc : ¬ (b : Int) < (c.length : Int) - 1 := by
      have : ¬ (b : Int) < wr .i64 ((c.length : Int) - 1) := by simpa using hc
      rw [w1] at this; exact this
    exact Round.done (main _ (hsB b (by omega)).1 (hsB b (by omega)).2 (hfin b (by omega)))
/- spec.l02Runs -/
theorem e110 {c : List Int} (hr : Rng c) (h0 : 0 < c.length) (h1 : c.length ≤ 1000) : Evt (fun n => call T C n 110 (c, ())) ((strP c, ()), ()) := by
  obtain ⟨v, r, e, q1, q2, q3, q4, q5⟩ := runsP_cons h0
  refine Evt.next (Evt.bind (e104 hr h0 h1) ?_) (fun n => r110 n c)
  have es : strP c = if v.2.1 > 0 then (v.1, 0, v.2.1 + v.2.2.1 - c.length, ()) :: r ++ [(v.1, v.2.1, (c.length : Int) - v.2.1, ())] else v :: r := by unfold strP; rw [e]
  rw [es, e]
  refine Evt.chk (decide_eq_true (by simp)) (Evt.at (x := v) rfl ?_)
  have w1 : wr .i16 (c.length : Int) = c.length := wrap16 (by omega) (by omega)
  have w2 : wr .i16 (v.2.1 + v.2.2.1) = v.2.1 + v.2.2.1 := wrap16 (by omega) (by omega)
  have w3 : wr .i16 (v.2.1 + v.2.2.1 - (c.length : Int)) = v.2.1 + v.2.2.1 - c.length := wrap16 (by omega) (by omega)
  have w4 : wr .i16 ((c.length : Int) - v.2.1) = (c.length : Int) - v.2.1 := wrap16 (by omega) (by omega)
  rw [w1, w2, w3, w4]
  refine Evt.ite (fun h => ?_) (fun h => ?_)
  · have h : v.2.1 = 0 := by simpa using h
    rw [if_neg (by omega)]; exact Evt.some _
  have h : ¬ v.2.1 = 0 := by simpa using h
  have q3 := q3 (by omega)
  rw [if_pos (show v.2.1 > 0 by omega)]
  refine Evt.no (by simp; omega) (Evt.chk (decide_eq_true (by simp; omega)) (Evt.chk (decide_eq_true (by simp; omega)) (Evt.chk (decide_eq_true (by simp; omega)) ((Evt.some _).of_eq fun n => ?_))))
  simp
  rfl
/- spec.l02Fit -/
theorem e111 {c : List Int} (hr : Rng c) (h0 : 0 < c.length) (h1 : c.length ≤ 360) (hC : ∀ v ∈ c, 0 ≤ v ∧ v ≤ 10000) {s l : Int} (s0 : 0 ≤ s) (s1 : s ≤ 1000) (l0 : 1 ≤ l) (l1 : l ≤ 360) : Evt (fun n => call T C n 111 (c, s, l, ())) ((fitL c s l, ()), ()) := by
  have hf := hC _ (cAt_mem h0 s)
  have ht := hC _ (cAt_mem h0 (s + l))
  refine Evt.next (Evt.bind (e98' hr (by omega) (by omega) (by omega) (by omega)) ?_) (fun n => r111 n c s l)
  rw [wrap_id (x := s + l) (by omega) (by omega)]
  refine Evt.bind (e98' hr (by omega) (by omega) (by omega) (by omega)) ?_
  refine for_evt' 0 4 (fun w (_ : Unit) => (c, s, l, cAt c s, cAt c (s + l), w, ())) (fun w _ => ∀ u : Int, 0 ≤ u → u < w → fitW c s l u = false) (b0 := ()) rfl (by omega) (fun u a b => by omega) ?_ ?_
  · intro w _ w0 w1 hw
    refine Round.yes (decide_eq_true (show w ≤ 3 by omega)) ?_
    refine for_round' 1 l (fun k (ok : Bool) => (c, s, l, cAt c s, cAt c (s + l), w, ok, k, ())) (fun k ok => ok = fitTo c s l w (k - 1).toNat) (b0 := true) rfl (by omega) rfl ?_ ?_
    · intro k ok k0 k1 hk
      have hsk : wr .i64 (s + k) = s + k := wrap_id (by omega) (by omega)
      have hk1 : wr .i64 (k + 1) = k + 1 := wrap_id (by omega) (by omega)
      have hnx : fitTo c s l w (k + 1 - 1).toNat = (ok && (cAt c (s + k) == liftP (cAt c s) (cAt c (s + l)) w k l)) := by
        rw [show (k + 1 - 1).toNat = (k - 1).toNat + 1 by omega, hk]
        unfold fitTo
        rw [allTo_succ, show (((k - 1).toNat : Nat) : Int) + 1 = k by omega]
      refine Round.yes (decide_eq_true k1) (Round.ite (fun ho => ?_) (fun ho => ?_))
      · have ho : ok = true := ho
        rw [ho, Bool.true_and] at hnx
        show Round (fun n ag => (call T C n 98 (c, wr .i64 (s + k), ())).bind _) _ _
        rw [hsk]
        refine Round.bind (e98' hr (by omega) (by omega) (by omega) (by omega)) (Round.bind (e173 (f := cAt c s) (t := cAt c (s + l)) (w := w) (k := k) (n := l) hf.1 hf.2 ht.1 ht.2 w0 (by omega) (by omega) (by omega) (by omega) (by omega)) (Round.inr _ ⟨cAt c (s + k) == liftP (cAt c s) (cAt c (s + l)) w k l, ?_, hnx.symm⟩))
        show (c, s, l, cAt c s, cAt c (s + l), w, (cAt c (s + k) == liftP (cAt c s) (cAt c (s + l)) w k l), wr .i64 (k + 1), ()) = _
        rw [hk1]
      · have ho : ok = false := by simpa using ho
        rw [ho, Bool.false_and] at hnx
        refine Round.inr _ ⟨false, ?_, hnx.symm⟩
        show (c, s, l, cAt c s, cAt c (s + l), w, false, wr .i64 (k + 1), ()) = _
        rw [hk1]
    · intro ok hk
      have hk : ok = fitW c s l w := hk
      refine Round.no (by simp) (Round.ite (fun ho => ?_) (fun ho => ?_))
      · have ho : ok = true := ho
        rw [hk] at ho
        have : fitL c s l = w := by
          unfold fitL
          rcases (show w = 0 ∨ w = 1 ∨ w = 2 ∨ w = 3 by omega) with rfl | rfl | rfl | rfl
          · rw [if_pos ho]
          · rw [hw 0 (by omega) (by omega), if_neg (by simp), if_pos ho]
          · rw [hw 0 (by omega) (by omega), hw 1 (by omega) (by omega), if_neg (by simp), if_neg (by simp), if_pos ho]
          · rw [hw 0 (by omega) (by omega), hw 1 (by omega) (by omega), hw 2 (by omega) (by omega), if_neg (by simp), if_neg (by simp), if_neg (by simp), if_pos ho]
        rw [this]
        exact Round.done (Evt.some _)
      · have ho : ok = false := by simpa using ho
        rw [hk] at ho
        refine Round.inl _ ⟨(), ?_, fun u a b => ?_⟩
        · show (c, s, l, cAt c s, cAt c (s + l), wr .i64 (w + 1), ()) = _
          rw [wrap_id (x := w + 1) (by omega) (by omega)]
        · by_cases e : u = w
          · rw [e]; exact ho
          · exact hw u a (by omega)
  · intro _ hw
    have : fitL c s l = -1 := by
      unfold fitL
      rw [hw 0 (by omega) (by omega), hw 1 (by omega) (by omega), hw 2 (by omega) (by omega), hw 3 (by omega) (by omega)]
      rfl
    rw [this]
    exact Round.no (by simp) (Round.done (Evt.some _))
/- spec.FitProgram -/
theorem e30 (c : List Int) (hr : Rng c) : Evt (fun n => call T C n 30 (c, ())) (fpR c, ()) := by
  have hlen := hr.len'
  refine Evt.next (Evt.bind (e95 c (by omega)) ?_) (fun n => r30 n c)
  unfold fpR
  cases hok : okC c with
  | false => exact Evt.yes rfl (Evt.some _)
  | true =>
    have hl := okC_len hok
    have hC := okC_el hok hr
    have h0 : 0 < c.length := by omega
    obtain ⟨hs1, hs2⟩ := strP_el h0
    rw [if_neg (by simp)]
    refine Evt.no (by simp) (Evt.bind (e110 hr h0 (by omega)) (Evt.ite (fun h => ?_) (fun h => ?_)))
    · rw [if_pos (of_decide_eq_true h)]; exact Evt.some _
    have h : ¬ ((strP c).length : Int) > 24 := by simpa using h
    rw [if_neg h]
    refine Evt.at (g_idx (l := c) (i := 0) (Int.le_refl _) (by omega)).idx ?_
    refine for_evt' 0 ((strP c).length : Int) (fun i (_ : Unit) => (c, ((0, [], ()) : Prg), strP c, (g c 0, ((strP c).take i.toNat).map (motP c), ()), i, ())) (fun i _ => ∀ v ∈ (strP c).take i.toNat, ¬ fitL c v.2.1 v.2.2.1 < 0) (b0 := ()) rfl (by omega) (fun v hv => by simp at hv) ?_ ?_
    · intro i _ h2 h3 hp
      obtain ⟨v, hv⟩ := at_of h2 h3
      obtain ⟨_, b1, b2⟩ := hs2 v hv.mem
      have hfl := fitL_bd c v.2.1 v.2.2.1
      have hca := hC _ (cAt_mem h0 (v.2.1 + v.2.2.1))
      have e1 : wr .i64 v.2.1 = v.2.1 := wrap_id (by omega) (by omega)
      have e2 : wr .i64 v.2.2.1 = v.2.2.1 := wrap_id (by omega) (by omega)
      have e3 : wr .i64 (v.2.1 + v.2.2.1) = v.2.1 + v.2.2.1 := wrap_id (by omega) (by omega)
      have e4 : wr .i16 (cAt c (v.2.1 + v.2.2.1)) = cAt c (v.2.1 + v.2.2.1) := wrap16 (by omega) (by omega)
      have hlen2 : ((((strP c).take i.toNat).map (motP c)).length : Int) ≤ 24 := by rw [List.length_map, List.length_take]; omega
      refine Round.yes (decide_eq_true h3) (Round.at hv.idx (Round.at hv.idx ?_))
      rw [e1, e2, e3]
      refine Round.bind (e111 hr h0 (by omega) hC b1.1 (by omega) b2.1 (by omega)) (Round.ite (fun hn => ?_) (fun hn => ?_))
      · have hn : fitL c v.2.1 v.2.2.1 < 0 := of_decide_eq_true hn
        rw [all_false hv.mem (by simpa using hn), if_neg (by simp)]
        exact Round.done (Evt.some _)
      · have hn : ¬ fitL c v.2.1 v.2.2.1 < 0 := by simpa using hn
        refine Round.at hv.idx (Round.bind (e98' hr (by omega) (by omega) (by omega) (by omega)) (Round.chk (decide_eq_true (by simp only [List.length_cons, List.length_nil]; omega)) (Round.again _ ⟨(), ?_, fun u hu => ?_⟩)))
        · show (c, ((0, [], ()) : Prg), strP c, (g c 0, ((strP c).take i.toNat).map (motP c) ++ [(wr .i8 (fitL c v.2.1 v.2.2.1), v.2.2.1, wr .i16 (cAt c (v.2.1 + v.2.2.1)), ())], ()), wr .i64 (i + 1), ()) = _
          rw [wr_succ h2 h3 (by omega), wrap8 (by omega) (by omega), e4, hv.take]
          simp [motP]
        · rw [hv.take] at hu
          rcases List.mem_append.1 hu with hu | hu
          · exact hp u hu
          · have : u = v := by simpa using hu
            rw [this]; exact hn
    · intro _ hp
      rw [take_all] at hp
      simp only [take_all]
      have : (strP c).all (fun v => !decide (fitL c v.2.1 v.2.2.1 < 0)) = true := List.all_eq_true.2 fun v hv => by simpa using hp v hv
      rw [if_pos this]
      exact Round.no (by simp) (Round.done (Evt.some _))
/- spec.l02Same -/
theorem e112 (p : Prg) (hl : (p.2.1.length : Int) ≤ 1000000) : Evt (fun n => call T C n 112 (p, p, ())) ((true, ()), ()) := by
  refine Evt.next (Evt.no (by simp) (Evt.no (by simp) ?_)) (fun n => r112 n p p)
  refine for_evt' 0 (p.2.1.length : Int) (fun i (_ : Unit) => (p, p, i, ())) (fun _ _ => True) (b0 := ()) rfl (by omega) trivial ?_ ?_
  · intro i _ h2 h3 _
    obtain ⟨v, hv⟩ := at_of h2 h3
    exact Round.yes (decide_eq_true h3) (Round.at hv.idx (Round.at hv.idx (Round.no (by simp) (Round.again _ ⟨(), by rw [wr_succ h2 h3 (by omega)], trivial⟩))))
  · intro _ _
    exact Round.no (by simp) (Round.done (Evt.some _))
/- spec.SameProgram -/
theorem e31 (p : Prg) (hl : (p.2.1.length : Int) ≤ 1000000) : Evt (fun n => call T C n 31 (p, p, ())) ((true, ()), ()) := Evt.next (Evt.bind (e112 p hl) (Evt.some _)) (fun n => r31 n p p)
/- impl.ValidProgram$1 -/
theorem e116 (v : Ct) : Evt (fun n => call T C n 116 (v, ())) ((!moOk v, ()), ()) := by
  refine Evt.next (Evt.bind (e117 _) ?_) (fun n => r116 n v)
  unfold moOk
  cases inR (wr .i64 v.1) 0 3 with
  | false => exact Evt.yes rfl (Evt.some _)
  | true =>
    refine Evt.no (by simp) ?_
    cases decide (v.2.1 < 1) with
    | true => exact Evt.yes rfl (Evt.some _)
    | false => exact Evt.no (by simp) (Evt.bind (e114 _) (Evt.some _))
/- slices.IndexFunc[[]impl.Motion,impl.Motion]{impl.ValidProgram$1} -/
theorem e175 (l : List Ct) (hr : RngMo l) : Evt (fun n => call T C n 175 (l, ((), ()), ())) ((fi (fun v => !moOk v) l 0, ()), ()) := by
  have hl : (l.length : Int) ≤ 140737488351232 := by have := hr.len'; omega
  refine Evt.next ?_ (fun n => r175 n l ((), ()))
  refine for_evt' 0 (l.length : Int) (fun i (_ : Unit) => (l, ((), ()), (l.length : Int), i, ())) (fun i _ => fi (fun v => !moOk v) l 0 = fi (fun v => !moOk v) (l.drop i.toNat) i) (b0 := ()) rfl (by omega) (by simp) ?_ ?_
  · intro i _ h2 h3 hp
    obtain ⟨v, hv⟩ := at_of h2 h3
    rw [hv.drop] at hp
    simp only [fi] at hp
    refine Round.yes (decide_eq_true h3) (Round.at hv.idx (Round.bind (e116 v) ?_))
    cases hb : !moOk v with
    | true =>
      simp only [hb, if_true] at hp
      rw [hp]
      exact Round.yes rfl (Round.done (Evt.some _))
    | false =>
      simp only [hb, Bool.false_eq_true, if_false] at hp
      exact Round.no (by simp) (Round.again _ ⟨(), by rw [wr_succ h2 h3 (by omega)], hp⟩)
  · intro _ hp
    rw [drop_all] at hp
    rw [hp]
    exact Round.no (by simp) (Round.done (Evt.some _))
/- slices.ContainsFunc[[]impl.Motion,impl.Motion]{impl.ValidProgram$1} -/
theorem e115 (l : List Ct) (hr : RngMo l) : Evt (fun n => call T C n 115 (l, ((), ()), ())) ((l.any (fun v => !moOk v), ()), ()) := by
  refine Evt.next (Evt.bind (e175 l hr) ((Evt.some _).of_eq fun n => ?_)) (fun n => r115 n l ((), ()))
  simp only [fi_any _ l 0 (Int.le_refl _)]
  rfl
/- (impl.Program).steps -/
theorem e118 (p : Prg) (hr : RngPg p) (hn : (p.2.1.length : Int) ≤ 24) : Evt (fun n => call T C n 118 (p, ())) ((sumM p.2.1, ()), ()) := by
  have hb := sumM_take hr.m hn
  refine Evt.next ?_ (fun n => r118 n p)
  refine for_evt' 0 (p.2.1.length : Int) (fun i (_ : Unit) => (sumM (p.2.1.take i.toNat), p.2.1, (p.2.1.length : Int), i, ())) (fun _ _ => True) (b0 := ()) (by simp [sumM]) (by omega) trivial ?_ ?_
  · intro i _ h3 h4 _
    obtain ⟨v, hv⟩ := at_of h3 h4
    have hrv := hr.m.el v hv.mem
    have hbi := hb i.toNat
    refine Round.yes (decide_eq_true h4) (Round.at hv.idx (Round.again _ ⟨(), ?_, trivial⟩))
    rw [hr.m.i2 hv.mem, wrap_id (x := sumM (p.2.1.take i.toNat) + v.2.1) (by omega) (by omega), hv.take, sumM_snoc, wr_succ h3 h4 (by omega)]
  · intro _ _
    simp only [take_all]
    exact Round.no (by simp) (Round.done (Evt.some _))
/- impl.ValidProgram -/
theorem e33 (p : Prg) (hr : RngPg p) : Evt (fun n => call T C n 33 (p, ())) ((okPg p, ()), ()) := by
  refine Evt.next (Evt.bind (e84 _ _ _) ?_) (fun n => r33 n p)
  unfold okPg
  cases h1 : inR (p.2.1.length : Int) 1 24 with
  | false => exact Evt.yes rfl (Evt.some _)
  | true =>
    have hn := inR_iff.1 h1
    refine Evt.no (by simp) (Evt.bind (e114 _) ?_)
    cases h2 : inR (wr .i64 p.1) 0 10000 with
    | false => exact Evt.yes rfl (Evt.some _)
    | true =>
      refine Evt.no (by simp) (Evt.bind (e115 p.2.1 hr.m) ?_)
      have ha : p.2.1.all moOk = !p.2.1.any (fun v => !moOk v) := by simp [List.any_eq_not_all_not]
      rw [ha]
      cases p.2.1.any (fun v => !moOk v) with
      | true => exact Evt.no (by simp) (Evt.some _)
      | false =>
        refine Evt.yes rfl (Evt.bind (e118 p hr hn.2) (Evt.bind (e93 _) ?_))
        cases k4 : inR (sumM p.2.1) 8 360 with
        | false => exact Evt.no (by simp) (Evt.some _)
        | true =>
          obtain ⟨v, hv⟩ := at_of (l := p.2.1) (i := (p.2.1.length : Int) - 1) (by omega) (by omega)
          have hl : lastT p.2.1 = v.2.2.1 := by unfold lastT; rw [hv.idx]; rfl
          refine Evt.yes rfl ?_
          simp only [wrap_id (x := (p.2.1.length : Int) - 1) (by omega) (by omega)]
          refine Evt.at hv.idx ?_
          rw [hl]
          exact Evt.some _
/- (impl.Program).profile -/
theorem e113 {p : Prg} (hr : RngPg p) (hn : (p.2.1.length : Int) ≤ 24) (ht : 0 ≤ p.1 ∧ p.1 ≤ 10000) (hi : ∀ v ∈ p.2.1, MoIn 0 10000 v) : Evt (fun n => call T C n 113 (p, ())) ((proF p.1 p.2.1, ()), ()) := by
  refine Evt.next ?_ (fun n => r113 n p)
  rw [wrap_id (x := p.1) (by omega) (by omega)]
  have hpl : ∀ i : Nat, ((proF p.1 (p.2.1.take i)).length : Int) ≤ 1000000 := fun i => by
    have h1 := proF_len (p.2.1.take i) p.1 fun v hv => (hi v (List.mem_of_mem_take hv)).n.1
    have h2 := sumM_take hr.m hn i
    omega
  refine for_evt' 0 (p.2.1.length : Int) (fun i (_ : Unit) => (proF p.1 (p.2.1.take i.toNat), toF p.1 (p.2.1.take i.toNat), p.2.1, (p.2.1.length : Int), i, ())) (fun _ _ => True) (b0 := ()) (by simp [proF, toF]) (by omega) trivial ?_ ?_
  · intro i _ h2 h3 _
    obtain ⟨v, hv⟩ := at_of h2 h3
    have hm := hi v hv.mem
    have hw := hm.w
    have hn1 := hm.n
    have htt := hm.t
    have hf := toF_in (p.2.1.take i.toNat) (f := p.1) (fun u hu => hi u (List.mem_of_mem_take hu)) ht.1 ht.2
    have hl := hpl i.toNat
    have e2 : wr .i64 v.2.1 = v.2.1 := hr.m.i2 hv.mem
    have e1 : wr .i64 v.1 = v.1 := hr.m.i1 hv.mem
    have e3 : wr .i64 v.2.2.1 = v.2.2.1 := hr.m.i3 hv.mem
    refine Round.yes (decide_eq_true h3) (Round.at hv.idx ?_)
    refine for_round' 0 v.2.1 (fun j (_ : Unit) => (proF p.1 (p.2.1.take i.toNat) ++ (seg (toF p.1 (p.2.1.take i.toNat)) v).take j.toNat, toF p.1 (p.2.1.take i.toNat), v, p.2.1, (p.2.1.length : Int), i, v.2.1, j, ())) (fun _ _ => True) (b0 := ()) (by simp [e2]) (by omega) trivial ?_ ?_
    · intro j _ h4 h5 _
      have hb := liftP_in (f := toF p.1 (p.2.1.take i.toNat)) (t := v.2.2.1) (w := v.1) (k := j) (n := v.2.1) (lo := 0) (hi := 10000) hw.1 hw.2 h4 (by omega) hn1.1 hn1.2 hf.1 hf.2 htt.1 htt.2
      have hsl := seg_len (toF p.1 (p.2.1.take i.toNat)) v
      have hlen : ((proF p.1 (p.2.1.take i.toNat) ++ (seg (toF p.1 (p.2.1.take i.toNat)) v).take j.toNat).length : Int) ≤ 1000360 := by
        rw [List.length_append, List.length_take]
        omega
      refine Round.yes (decide_eq_true h5) ?_
      simp only [e1, e2, e3]
      refine Round.bind (e123 hf.1 hf.2 htt.1 htt.2 hw.1 hw.2 h4 (by omega) hn1.1 hn1.2) (Round.chk (decide_eq_true (by simp only [List.length_cons, List.length_nil]; omega)) (Round.inr _ ⟨(), ?_, trivial⟩))
      rw [wrap16 (x := liftP (toF p.1 (p.2.1.take i.toNat)) v.2.2.1 v.1 j v.2.1) (by omega) (by omega), seg_take _ _ h4 h5, List.append_assoc, wr_succ h4 h5 (by omega)]
    · intro _ _
      have ht2 : (seg (toF p.1 (p.2.1.take i.toNat)) v).take v.2.1.toNat = seg (toF p.1 (p.2.1.take i.toNat)) v := List.take_of_length_le (by rw [seg_len]; omega)
      refine Round.no (by simp) (Round.inl _ ⟨(), ?_, trivial⟩)
      rw [hv.take, proF_snoc, toF_snoc, e3, wr_succ h2 h3 (by omega), ht2]
  · intro _ _
    simp only [take_all]
    exact Round.no (by simp) (Round.done (Evt.some _))
/- impl.MakeProfile -/
theorem e32 {p : Prg} (hr : RngPg p) (h : okPg p = true) (hi : ∀ v ∈ p.2.1, MoIn 0 10000 v) : Evt (fun n => call T C n 32 (p, ())) ((proF p.1 p.2.1, 0, ()), ()) := by
  have G := goodPg hr h
  have hv := e33 p hr
  rw [h] at hv
  refine Evt.next (Evt.bind hv ?_) (fun n => r32 n p)
  exact Evt.no (by decide) (Evt.bind (e113 hr G.n.2 G.t hi) (Evt.some _))
/- spec.l01Same -/
theorem e92 (l : List Int) (hl : (l.length : Int) ≤ 1000000) : Evt (fun n => call T C n 92 (l, l, ())) ((true, ()), ()) := by
  refine Evt.next (Evt.no (by simp) ?_) (fun n => r92 n l l)
  refine for_evt' 0 (l.length : Int) (fun i (_ : Unit) => (l, l, i, ())) (fun _ _ => True) (b0 := ()) rfl (by omega) trivial ?_ ?_
  · intro i _ h2 h3 _
    obtain ⟨v, hv⟩ := at_of h2 h3
    exact Round.yes (decide_eq_true h3) (Round.at hv.idx (Round.at hv.idx (Round.no (by simp) (Round.again _ ⟨(), by rw [wr_succ h2 h3 (by omega)], trivial⟩))))
  · intro _ _
    exact Round.no (by simp) (Round.done (Evt.some _))
/- spec.SameCam -/
theorem e18 (l : List Int) (hl : (l.length : Int) ≤ 1000000) : Evt (fun n => call T C n 18 (l, l, ())) ((true, ()), ()) := Evt.next (Evt.bind (e92 l hl) (Evt.some _)) (fun n => r18 n l l)
/- laws.a2At -/
theorem e34 {b : List Int} (hb : ∀ v ∈ b, 0 ≤ v ∧ v ≤ 255) {i m : Int} (i0 : 0 ≤ i) (m1 : 1 ≤ m) : ∃ v : Int, Evt (fun n => call T C n 34 (b, i, m, ())) ((v, ()), ()) ∧ 0 ≤ v ∧ v < m := by
  by_cases h : i < (b.length : Int)
  · obtain ⟨v, hv⟩ := at_of i0 h
    have hvb := hb v hv.mem
    have ev : wr .i64 v = v := wrap_id (by omega) (by omega)
    refine ⟨Int.tmod v m, Evt.next (Evt.no (by simp; omega) (Evt.no (by simp; omega) (Evt.at hv.idx (Evt.chk (bne_pos (by omega)) ((Evt.some _).of_eq fun n => ?_))))) (fun n => r34 n b i m), Int.tmod_nonneg m hvb.1, Int.tmod_lt_of_pos v (by omega)⟩
    rw [ev]
    rfl
  · exact ⟨0, Evt.next (Evt.yes (decide_eq_true (by omega)) (Evt.some _)) (fun n => r34 n b i m), by omega, by omega⟩
/- impl.isPlace -/
theorem e119 (a b : Int) : Evt (fun n => call T C n 119 (a, b, ())) ((inR a 0 (wr .i64 (b - 1)), ()), ()) := Evt.next (Evt.bind (e84 _ _ _) (Evt.some _)) (fun n => r119 n a b)
/- impl.FitMotion -/
theorem e35 {c : List Int} (hr : Rng c) (ok : okC c = true) {s l : Int} (s0 : 0 ≤ s) (s1 : s < (c.length : Int)) (l0 : 1 ≤ l) (l1 : l ≤ (c.length : Int)) : Evt (fun n => call T C n 35 (c, s, l, ())) (fmR c s l, ()) := by
  have hl := okC_len ok
  have hv := e89 c (by omega)
  rw [ok] at hv
  have hp := e119 s (c.length : Int)
  rw [wrap_id (x := (c.length : Int) - 1) (by omega) (by omega), show inR s 0 ((c.length : Int) - 1) = true from inR_iff.2 ⟨s0, by omega⟩] at hp
  have hi := e84 l 1 (c.length : Int)
  rw [show inR l 1 (c.length : Int) = true from inR_iff.2 ⟨l0, l1⟩] at hi
  refine Evt.next (Evt.bind hv ?_) (fun n => r35 n c s l)
  refine Evt.no (by decide) (Evt.bind hp ?_)
  refine Evt.no (by decide) (Evt.bind (e79 c) (Evt.bind hi ?_))
  refine Evt.no (by decide) (Evt.bind (e109 hr (by omega) (by omega) (okC_el ok hr) s0 (by omega) l0 (by omega)) ?_)
  by_cases h : fitL c s l < 0
  · rw [show fmR c s l = (0, 6, ()) from if_pos h]; exact Evt.yes (decide_eq_true h) (Evt.some _)
  · rw [show fmR c s l = (fitL c s l, 0, ()) from if_neg h]; exact Evt.no (by simpa using h) (Evt.some _)
/- spec.FitMotion -/
theorem e36 {c : List Int} (hr : Rng c) (ok : okC c = true) {s l : Int} (s0 : 0 ≤ s) (s1 : s < (c.length : Int)) (l0 : 1 ≤ l) (l1 : l ≤ (c.length : Int)) : Evt (fun n => call T C n 36 (c, s, l, ())) (fmR c s l, ()) := by
  have hl := okC_len ok
  have hv := e95 c (by omega)
  rw [ok] at hv
  have hp := e87 s 0 ((c.length : Int) - 1)
  rw [show inR s 0 ((c.length : Int) - 1) = true from inR_iff.2 ⟨s0, by omega⟩] at hp
  have hi := e87 l 1 (c.length : Int)
  rw [show inR l 1 (c.length : Int) = true from inR_iff.2 ⟨l0, l1⟩] at hi
  refine Evt.next (Evt.bind hv ?_) (fun n => r36 n c s l)
  refine Evt.no (by decide) ?_
  rw [wrap_id (x := (c.length : Int) - 1) (by omega) (by omega)]
  refine Evt.bind hp ?_
  refine Evt.no (by decide) (Evt.bind hi ?_)
  refine Evt.no (by decide) (Evt.bind (e111 hr (by omega) (by omega) (okC_el ok hr) s0 (by omega) l0 (by omega)) ?_)
  by_cases h : fitL c s l < 0
  · rw [show fmR c s l = (0, 6, ()) from if_pos h]; exact Evt.yes (decide_eq_true h) (Evt.some _)
  · rw [show fmR c s l = (fitL c s l, 0, ()) from if_neg h]; exact Evt.no (by simpa using h) (Evt.some _)
/- spec.l01Far -/
theorem e120 (a : Int) : Evt (fun n => call T C n 120 (a, ())) ((inR a (-1000000) 1000000, ()), ()) := Evt.next (Evt.bind (e87 _ _ _) (Evt.some _)) (fun n => r120 n a)
/- spec.LiftAt -/
theorem e37 {c : List Int} (hr : Rng c) (ok : okC c = true) {x : Int} (x0 : 0 ≤ x) (x1 : x ≤ 1000) : Evt (fun n => call T C n 37 (c, x, ())) ((cAt c x, 0, ()), ()) := by
  have hl := okC_len ok
  have hv := e95 c (by omega)
  rw [ok] at hv
  have hf := e120 x
  rw [show inR x (-1000000) 1000000 = true from inR_iff.2 ⟨by omega, by omega⟩] at hf
  refine Evt.next (Evt.bind hv ?_) (fun n => r37 n c x)
  refine Evt.no (by decide) (Evt.bind hf ?_)
  exact Evt.no (by decide) (Evt.bind (e98' hr (by omega) (by omega) (by omega) (by omega)) (Evt.some _))
/- impl.isShift -/
theorem e121 (a : Int) : Evt (fun n => call T C n 121 (a, ())) ((inR a (-1000000) 1000000, ()), ()) := Evt.next (Evt.bind (e84 _ _ _) (Evt.some _)) (fun n => r121 n a)
/- impl.LiftAt -/
theorem e38 {c : List Int} (hr : Rng c) (ok : okC c = true) {x : Int} (x0 : 0 ≤ x) (x1 : x ≤ 1000) : Evt (fun n => call T C n 38 (c, x, ())) ((cAt c x, 0, ()), ()) := by
  have hl := okC_len ok
  have hv := e89 c (by omega)
  rw [ok] at hv
  have hf := e121 x
  rw [show inR x (-1000000) 1000000 = true from inR_iff.2 ⟨by omega, by omega⟩] at hf
  refine Evt.next (Evt.bind hv ?_) (fun n => r38 n c x)
  refine Evt.no (by decide) (Evt.bind hf ?_)
  exact Evt.no (by decide) (Evt.bind (e81 hr (by omega) (by omega) (by omega) (by omega)) (Evt.some _))
/- impl.isShape -/
theorem e122 {w k n0 : Int} (w0 : 0 ≤ w) (w1 : w ≤ 3) (k0 : 0 ≤ k) (k1 : k ≤ n0) (n1 : 1 ≤ n0) (n2 : n0 ≤ 360) : Evt (fun n => call T C n 122 (w, k, n0, ())) ((true, ()), ()) := by
  have h1 := e117 w
  rw [show inR w 0 3 = true from inR_iff.2 ⟨w0, w1⟩] at h1
  have h2 := e84 n0 1 360
  rw [show inR n0 1 360 = true from inR_iff.2 ⟨n1, n2⟩] at h2
  have h3 := e84 k 0 n0
  rw [show inR k 0 n0 = true from inR_iff.2 ⟨k0, k1⟩] at h3
  refine Evt.next (Evt.bind h1 ?_) (fun n => r122 n w k n0)
  refine Evt.yes rfl (Evt.bind h2 ?_)
  exact Evt.yes rfl (Evt.bind h3 (Evt.some _))
/- impl.LiftIn -/
theorem e39 {f t w k n0 : Int} (f0 : 0 ≤ f) (f1 : f ≤ 10000) (t0 : 0 ≤ t) (t1 : t ≤ 10000) (w0 : 0 ≤ w) (w1 : w ≤ 3) (k0 : 0 ≤ k) (k1 : k ≤ n0) (n1 : 1 ≤ n0) (n2 : n0 ≤ 360) : Evt (fun n => call T C n 39 (f, t, w, k, n0, ())) ((liftP f t w k n0, 0, ()), ()) := by
  have h2 := e114 f
  rw [show inR f 0 10000 = true from inR_iff.2 ⟨f0, f1⟩] at h2
  have h3 := e114 t
  rw [show inR t 0 10000 = true from inR_iff.2 ⟨t0, t1⟩] at h3
  refine Evt.next (Evt.bind (e122 w0 w1 k0 k1 n1 n2) ?_) (fun n => r39 n f t w k n0)
  refine Evt.no (by decide) (Evt.bind h2 ?_)
  refine Evt.no (by decide) (Evt.bind h3 ?_)
  exact Evt.no (by decide) (Evt.bind (e123 f0 f1 t0 t1 w0 w1 k0 k1 n1 n2) (Evt.some _))
/- laws.FnFits -/
theorem e4 (x y : List Int) (hd : DomA (C 4).params (x, y, ())) : Evt (fun n => call T C n 4 (x, y, ())) ((true, ()), ()) := by
  have hx : ∀ v ∈ x, 0 ≤ v ∧ v ≤ 255 := byte_of hd.1
  have hy : ∀ v ∈ y, 0 ≤ v ∧ v ≤ 255 := byte_of hd.2.1
  refine Evt.next (Evt.bind (e27 x y) ?_) (fun n => r4 n x y)
  cases hlong : (decide ((x.length : Int) > 3000) || decide ((y.length : Int) > 3000)) with
  | true => exact Evt.yes rfl (Evt.some _)
  | false =>
    simp only [Bool.or_eq_false_iff, decide_eq_false_iff_not] at hlong
    obtain ⟨c, hC, S⟩ := e28 hx (show (x.length : Int) ≤ 3000 by omega)
    have hl := S.len
    have hc0 : 0 < c.length := by omega
    have cb : ∀ x, 0 ≤ cAt c x ∧ cAt c x ≤ 59 := fun x => S.el _ (cAt_mem hc0 x)
    have im := e29 c S.rng
    have sp := e30 c S.rng
    have hlen := fpR_len c
    refine Evt.no (by simp) (Evt.bind hC (Evt.bind im (Evt.bind sp (Evt.no (by simp) (Evt.bind (e31 (fpR c).1 (by omega)) (Evt.no (by simp) ?_))))))
    rcases fp_cases S with ⟨r, hr, e⟩ | ⟨L, e, hR, ok, hin, hpro⟩
    · rcases hr with rfl | rfl
      · rw [e]
        refine Evt.no (by decide) (Evt.yes (by decide) (Evt.no (by decide) ?_))
        obtain ⟨s, hS, s0, s1⟩ := e34 hy (i := 0) (m := (c.length : Int)) (by omega) (by omega)
        obtain ⟨l', hL, l0, l1⟩ := e34 hy (i := 1) (m := (c.length : Int)) (by omega) (by omega)
        have el : wr .i64 (1 + l') = 1 + l' := wrap_id (by omega) (by omega)
        refine Evt.bind hS (Evt.bind hL ?_)
        simp only [el]
        have f1 := e35 S.rng S.ok (s := s) (l := 1 + l') s0 s1 (by omega) (by omega)
        have f2 := e36 S.rng S.ok (s := s) (l := 1 + l') s0 s1 (by omega) (by omega)
        by_cases hneg : fitL c s (1 + l') < 0
        · rw [show fmR c s (1 + l') = (0, 6, ()) from if_pos hneg] at f1 f2
          refine Evt.bind f1 (Evt.bind f2 ?_)
          exact Evt.no (by simp) (Evt.no (by simp) (Evt.yes (by decide) (Evt.some _)))
        · rw [show fmR c s (1 + l') = (fitL c s (1 + l'), 0, ()) from if_neg hneg] at f1 f2
          refine Evt.bind f1 (Evt.bind f2 ?_)
          have es : wr .i64 (s + (1 + l')) = s + (1 + l') := wrap_id (by omega) (by omega)
          refine Evt.no (by simp) (Evt.no (by simp) (Evt.no (by simp) (Evt.bind (e37 S.rng S.ok (x := s) (by omega) (by omega)) ?_)))
          rw [es]
          refine Evt.bind (e37 S.rng S.ok (x := s + (1 + l')) (by omega) (by omega)) (Evt.no (by simp) (Evt.no (by simp) ?_))
          refine for_evt' 0 (1 + l' + 1) (fun k (_ : Unit) => (c, s, 1 + l', fitL c s (1 + l'), cAt c s, cAt c (s + (1 + l')), k, ())) (fun _ _ => True) (b0 := ()) rfl (by omega) trivial ?_ ?_
          · intro k _ h2 h3 _
            have ek : wr .i64 (s + k) = s + k := wrap_id (by omega) (by omega)
            have c1 := cb s
            have c2 := cb (s + (1 + l'))
            have hfit := lift_fit (c := c) (s := s) (l := 1 + l') (k := k) (by omega) (by omega) (by omega) h2 (by omega)
            have hLI := e39 (f := cAt c s) (t := cAt c (s + (1 + l'))) (w := fitL c s (1 + l')) (k := k) (n0 := 1 + l') (by omega) (by omega) (by omega) (by omega) (by omega) (fitL_bd c s (1 + l')).2 h2 (by omega) (by omega) (by omega)
            rw [hfit] at hLI
            refine Round.yes (decide_eq_true (show k ≤ 1 + l' by omega)) ?_
            simp only [ek]
            exact Round.bind (e38 S.rng S.ok (x := s + k) (by omega) (by omega)) (Round.bind hLI (Round.no (by simp) (Round.no (by simp) (Round.no (by simp) (Round.again _ ⟨(), by rw [wrap_id (x := k + 1) (by omega) (by omega)], trivial⟩)))))
          · intro _ _
            exact Round.no (by simp; omega) (Round.done (Evt.some _))
      · rw [e]
        refine Evt.no (by decide) (Evt.no (by decide) ?_)
        obtain ⟨s, hS, s0, s1⟩ := e34 hy (i := 0) (m := (c.length : Int)) (by omega) (by omega)
        obtain ⟨l', hL, l0, l1⟩ := e34 hy (i := 1) (m := (c.length : Int)) (by omega) (by omega)
        have el : wr .i64 (1 + l') = 1 + l' := wrap_id (by omega) (by omega)
        refine Evt.bind hS (Evt.bind hL ?_)
        simp only [el]
        have f1 := e35 S.rng S.ok (s := s) (l := 1 + l') s0 s1 (by omega) (by omega)
        have f2 := e36 S.rng S.ok (s := s) (l := 1 + l') s0 s1 (by omega) (by omega)
        by_cases hneg : fitL c s (1 + l') < 0
        · rw [show fmR c s (1 + l') = (0, 6, ()) from if_pos hneg] at f1 f2
          refine Evt.bind f1 (Evt.bind f2 ?_)
          exact Evt.no (by simp) (Evt.no (by simp) (Evt.yes (by decide) (Evt.some _)))
        · rw [show fmR c s (1 + l') = (fitL c s (1 + l'), 0, ()) from if_neg hneg] at f1 f2
          refine Evt.bind f1 (Evt.bind f2 ?_)
          have es : wr .i64 (s + (1 + l')) = s + (1 + l') := wrap_id (by omega) (by omega)
          refine Evt.no (by simp) (Evt.no (by simp) (Evt.no (by simp) (Evt.bind (e37 S.rng S.ok (x := s) (by omega) (by omega)) ?_)))
          rw [es]
          refine Evt.bind (e37 S.rng S.ok (x := s + (1 + l')) (by omega) (by omega)) (Evt.no (by simp) (Evt.no (by simp) ?_))
          refine for_evt' 0 (1 + l' + 1) (fun k (_ : Unit) => (c, s, 1 + l', fitL c s (1 + l'), cAt c s, cAt c (s + (1 + l')), k, ())) (fun _ _ => True) (b0 := ()) rfl (by omega) trivial ?_ ?_
          · intro k _ h2 h3 _
            have ek : wr .i64 (s + k) = s + k := wrap_id (by omega) (by omega)
            have c1 := cb s
            have c2 := cb (s + (1 + l'))
            have hfit := lift_fit (c := c) (s := s) (l := 1 + l') (k := k) (by omega) (by omega) (by omega) h2 (by omega)
            have hLI := e39 (f := cAt c s) (t := cAt c (s + (1 + l'))) (w := fitL c s (1 + l')) (k := k) (n0 := 1 + l') (by omega) (by omega) (by omega) (by omega) (by omega) (fitL_bd c s (1 + l')).2 h2 (by omega) (by omega) (by omega)
            rw [hfit] at hLI
            refine Round.yes (decide_eq_true (show k ≤ 1 + l' by omega)) ?_
            simp only [ek]
            exact Round.bind (e38 S.rng S.ok (x := s + k) (by omega) (by omega)) (Round.bind hLI (Round.no (by simp) (Round.no (by simp) (Round.no (by simp) (Round.again _ ⟨(), by rw [wrap_id (x := k + 1) (by omega) (by omega)], trivial⟩)))))
          · intro _ _
            exact Round.no (by simp; omega) (Round.done (Evt.some _))
    · have hM := e32 hR ok hin
      have hV := e33 (g c 0, L, ()) hR
      rw [ok] at hV
      rw [show proF (g c 0, L, ()).1 (g c 0, L, ()).2.1 = c from hpro] at hM
      rw [e]
      refine Evt.yes rfl (Evt.bind hM ?_)
      refine Evt.no (by simp) (Evt.bind (e18 c (by omega)) (Evt.no (by simp) (Evt.bind hV (Evt.no (by simp) ?_))))
      obtain ⟨s, hS, s0, s1⟩ := e34 hy (i := 0) (m := (c.length : Int)) (by omega) (by omega)
      obtain ⟨l', hL, l0, l1⟩ := e34 hy (i := 1) (m := (c.length : Int)) (by omega) (by omega)
      have el : wr .i64 (1 + l') = 1 + l' := wrap_id (by omega) (by omega)
      refine Evt.bind hS (Evt.bind hL ?_)
      simp only [el]
      have f1 := e35 S.rng S.ok (s := s) (l := 1 + l') s0 s1 (by omega) (by omega)
      have f2 := e36 S.rng S.ok (s := s) (l := 1 + l') s0 s1 (by omega) (by omega)
      by_cases hneg : fitL c s (1 + l') < 0
      · rw [show fmR c s (1 + l') = (0, 6, ()) from if_pos hneg] at f1 f2
        refine Evt.bind f1 (Evt.bind f2 ?_)
        exact Evt.no (by simp) (Evt.no (by simp) (Evt.yes (by decide) (Evt.some _)))
      · rw [show fmR c s (1 + l') = (fitL c s (1 + l'), 0, ()) from if_neg hneg] at f1 f2
        refine Evt.bind f1 (Evt.bind f2 ?_)
        have es : wr .i64 (s + (1 + l')) = s + (1 + l') := wrap_id (by omega) (by omega)
        refine Evt.no (by simp) (Evt.no (by simp) (Evt.no (by simp) (Evt.bind (e37 S.rng S.ok (x := s) (by omega) (by omega)) ?_)))
        rw [es]
        refine Evt.bind (e37 S.rng S.ok (x := s + (1 + l')) (by omega) (by omega)) (Evt.no (by simp) (Evt.no (by simp) ?_))
        refine for_evt' 0 (1 + l' + 1) (fun k (_ : Unit) => (c, s, 1 + l', fitL c s (1 + l'), cAt c s, cAt c (s + (1 + l')), k, ())) (fun _ _ => True) (b0 := ()) rfl (by omega) trivial ?_ ?_
        · intro k _ h2 h3 _
          have ek : wr .i64 (s + k) = s + k := wrap_id (by omega) (by omega)
          have c1 := cb s
          have c2 := cb (s + (1 + l'))
          have hfit := lift_fit (c := c) (s := s) (l := 1 + l') (k := k) (by omega) (by omega) (by omega) h2 (by omega)
          have hLI := e39 (f := cAt c s) (t := cAt c (s + (1 + l'))) (w := fitL c s (1 + l')) (k := k) (n0 := 1 + l') (by omega) (by omega) (by omega) (by omega) (by omega) (fitL_bd c s (1 + l')).2 h2 (by omega) (by omega) (by omega)
          rw [hfit] at hLI
          refine Round.yes (decide_eq_true (show k ≤ 1 + l' by omega)) ?_
          simp only [ek]
          exact Round.bind (e38 S.rng S.ok (x := s + k) (by omega) (by omega)) (Round.bind hLI (Round.no (by simp) (Round.no (by simp) (Round.no (by simp) (Round.again _ ⟨(), by rw [wrap_id (x := k + 1) (by omega) (by omega)], trivial⟩)))))
        · intro _ _
          exact Round.no (by simp; omega) (Round.done (Evt.some _))

end Go.Cams.YtgcncghbeplgnaaLFits
