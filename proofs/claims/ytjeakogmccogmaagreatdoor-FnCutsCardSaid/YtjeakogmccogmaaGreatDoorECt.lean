/- What the functions that the law reaches come to. -/
import Derived.Test.YtjeakogmccogmaaGreatDoorRCt
import Derived.Test.YtjeakogmccogmaaGreatDoorPuAll
namespace Go.Cams.YtjeakogmccogmaaGreatDoorLCt
open Go Go.Fw Go.Proofs Go.Proofs.YtjeakogmccogmaaGreatDoor.LCt
/- laws.a2Long -/
theorem e16 (a b : List Int) : Evt (fun n => call T C n 16 (a, b, ())) ((decide ((a.length : Int) > 3000) || decide ((b.length : Int) > 3000), ()), ()) := by
  refine Evt.next ?_ (fun n => r16 n a b)
  cases decide ((a.length : Int) > 3000) with
  | true => exact Evt.yes rfl (Evt.some _)
  | false => exact Evt.no (by simp) (Evt.some _)
/- spec.l00From -/
theorem e48 (a : List Int) : Evt (fun n => call T C n 48 (a, ())) (((a, 0, 0, ()), ()), ()) := Evt.next (Evt.some _) (fun n => r48 n a)
/- (*spec.l00Src).next -/
theorem e91 {k : Int} {s : Src} (h : SrcAt k s) (hk : k ≤ 1000000000000) : ∃ (v : Int) (s' : Src), Evt (fun n => call T C n 91 (s, ())) ((v, ()), (s', ())) ∧ 0 ≤ v ∧ v ≤ 255 ∧ SrcAt (k + 1) s' := by
  obtain ⟨h1, h2, h3, h4⟩ := h
  have hw : wr .i64 (s.2.1 + 1) = s.2.1 + 1 := wrap_id (by omega) (by omega)
  by_cases hp : s.2.1 < (s.1.length : Int)
  · obtain ⟨v, hv⟩ := at_of h3 hp
    have hb := h1 v hv.mem
    have ev : wr .i64 v = v := wrap_id (by omega) (by omega)
    obtain ⟨z, hz⟩ : ∃ z, z = wr .u64 ((wr .u64 ((wr .u64 (s.2.2.1 * (6364136223846793005 : Int))) + (wr .u64 (wr .i64 v)))) + (1442695040888963407 : Int)) := ⟨_, rfl⟩
    refine ⟨v, (s.1, s.2.1 + 1, z, ()), Evt.next (Evt.yes (decide_eq_true hp) (Evt.at hv.idx (Evt.yes (decide_eq_true (by rw [hw]; omega)) ((Evt.some _).of_eq fun n => ?_)))) (fun n => r91 n s), hb.1, hb.2, h1, h2, by show 0 ≤ s.2.1 + 1; omega, by show s.2.1 + 1 ≤ k + 1; omega⟩
    rw [← hz, hw, ev]
    rfl
  · obtain ⟨z, hz⟩ : ∃ z, z = wr .u64 ((wr .u64 ((wr .u64 (s.2.2.1 * (6364136223846793005 : Int))) + (wr .u64 (0 : Int)))) + (1442695040888963407 : Int)) := ⟨_, rfl⟩
    have hzb : 0 ≤ z ∧ z < 18446744073709551616 := by rw [hz]; exact wrap_u64 _
    obtain ⟨y, rfl⟩ : ∃ y : Nat, z = y := ⟨z.toNat, by omega⟩
    have hval : wr .i64 (bitsI .and .u64 (shr_ .u64 (y : Int) (40 : Int)) (255 : Int)) = ((y / 2 ^ 40 % 256 : Nat) : Int) := by
      rw [show (40 : Int) = ((40 : Nat) : Int) from rfl, shr_nat (by omega), and_255 (Nat.lt_of_le_of_lt (Nat.div_le_self _ _) (by omega))]
      have := Nat.mod_lt (y / 2 ^ 40) (show 0 < 256 by omega)
      exact wrap_id (by omega) (by omega)
    have hm := Nat.mod_lt (y / 2 ^ 40) (show 0 < 256 by omega)
    refine ⟨((y / 2 ^ 40 % 256 : Nat) : Int), (s.1, s.2.1 + 1, (y : Int), ()), Evt.next (Evt.no (by simpa using hp) (Evt.no (by rw [hw]; simp; omega) (Evt.chk rfl ((Evt.some _).of_eq fun n => ?_)))) (fun n => r91 n s), by omega, by omega, h1, h2, by show 0 ≤ s.2.1 + 1; omega, by show s.2.1 + 1 ≤ k + 1; omega⟩
    rw [← hz, hw, hval]
    rfl
/- (*spec.l00Src).pick -/
theorem e51 {k : Int} {s : Src} (h : SrcAt k s) (hk : k ≤ 999999999000) {m : Int} (m1 : 1 ≤ m) (m2 : m ≤ 1000000) : ∃ (v : Int) (s' : Src), Evt (fun n => call T C n 51 (s, m, ())) ((v, ()), (s', ())) ∧ 0 ≤ v ∧ v < m ∧ SrcAt (k + 2) s' := by
  by_cases hm : m ≤ 1
  · exact ⟨0, s, Evt.next (Evt.yes (decide_eq_true hm) (Evt.some _)) (fun n => r51 n s m), by omega, by omega, h.mono (by omega)⟩
  · obtain ⟨v, s1, hE, v0, v1, hs1⟩ := e91 h (by omega)
    by_cases hb : m > 200
    · obtain ⟨u, s2, hE2, u0, u1, hs2⟩ := e91 hs1 (by omega)
      have hx : wr .i64 (wr .i64 (v * 256) + u) = v * 256 + u := by rw [wrap_id (x := v * 256) (by omega) (by omega), wrap_id (by omega) (by omega)]
      have ht0 := Int.tmod_nonneg m (show 0 ≤ v * 256 + u by omega)
      have ht1 := Int.tmod_lt_of_pos (v * 256 + u) (show 0 < m by omega)
      refine ⟨Int.tmod (v * 256 + u) m, s2, Evt.next (Evt.no (by simpa using hm) (Evt.bind hE (Evt.yes (decide_eq_true hb) (Evt.bind hE2 (Evt.chk (bne_pos (by omega)) ((Evt.some _).of_eq fun n => ?_)))))) (fun n => r51 n s m), ht0, ht1, hs2.mono (by omega)⟩
      rw [hx]
      rfl
    · have ht0 := Int.tmod_nonneg m v0
      have ht1 := Int.tmod_lt_of_pos v (show 0 < m by omega)
      exact ⟨Int.tmod v m, s1, Evt.next (Evt.no (by simpa using hm) (Evt.bind hE (Evt.no (by simpa using hb) (Evt.chk (bne_pos (by omega)) (Evt.some _))))) (fun n => r51 n s m), ht0, ht1, hs1.mono (by omega)⟩
/- (*spec.l00Src).one -/
theorem e88 {k : Int} {s : Src} (h : SrcAt k s) (hk : k ≤ 999999999000) {m : Int} (m1 : 1 ≤ m) (m2 : m ≤ 1000000) : ∃ (b : Bool) (s' : Src), Evt (fun n => call T C n 88 (s, m, ())) ((b, ()), (s', ())) ∧ SrcAt (k + 2) s' := by
  obtain ⟨v, s1, hE, v0, v1, hs1⟩ := e51 h hk m1 m2
  exact ⟨v == 0, s1, Evt.next (Evt.bind hE (Evt.some _)) (fun n => r88 n s m), hs1⟩
/- spec.l02Drawn -/
theorem e47 {k : Int} {s : Src} (h : SrcAt k s) (hk : k ≤ 999999990000) : ∃ (p : Prg) (s' : Src), Evt (fun n => call T C n 47 (s, ())) ((p, ()), (s', ())) ∧ SmPg p ∧ SrcAt (k + 100) s' := by
  obtain ⟨t, s1, hE1, t0, t1, hs1⟩ := e51 h (by omega) (m := 30) (by omega) (by omega)
  obtain ⟨c, s2, hE2, c0, c1, hs2⟩ := e51 hs1 (by omega) (m := 4) (by omega) (by omega)
  have key : EvtX (fun n => call T C n 47 (s, ())) (fun y => SmPg y.1.1 ∧ SrcAt (k + 100) y.2.1) := by
    refine EvtX.next (EvtX.bind hE1 (EvtX.bind hE2 ?_)) (fun n => r47 n s)
    refine EvtX.loop (fun x => ∃ (src : Src) (L : List Ct) (m : Nat), x = (src, (0, [], ()), (t, L, ()), sumM L, (m : Int), ()) ∧ m ≤ 5 ∧ SrcAt (k + 4 + 8 * (5 - m)) src ∧ (∀ v ∈ L, MoSm v) ∧ (L.length : Int) + m ≤ 5 ∧ 2 ≤ (L.length : Int) + m) (fun x => x.2.2.2.2.1.toNat)
      ⟨s2, [], (2 + c).toNat, ?_, by omega, hs2.mono (by omega), by simp, by simp; omega, by simp; omega⟩ ?_
    · show (s2, _, (wr .i16 t, _, ()), _, wr .i64 (2 + c), ()) = _
      rw [wrap16 (x := t) (by omega) (by omega), wrap_id (x := 2 + c) (by omega) (by omega), show (((2 + c).toNat : Nat) : Int) = 2 + c by omega]
      rfl
    rintro x ⟨src, L, m, rfl, hm, hsrc, hL, hn1, hn2⟩
    have hsm := sumM_sm L hL
    by_cases h0 : 0 < m
    · right
      obtain ⟨a, a1, hA, a0, al, hs3⟩ := e51 hsrc (by omega) (m := 4) (by omega) (by omega)
      obtain ⟨b, b1, hB, b0, bl, hs4⟩ := e51 hs3 (by omega) (m := 9) (by omega) (by omega)
      obtain ⟨d, d1, hD, d0, dl, hs5⟩ := e51 hs4 (by omega) (m := 60) (by omega) (by omega)
      obtain ⟨o, o1, hO, hs6⟩ := e88 hs5 (by omega) (m := 3) (by omega) (by omega)
      have ea : wr .i8 a = a := wr_i8 (by omega) (by omega)
      have eb : wr .i16 (wr .i64 (1 + b)) = 1 + b := by rw [wrap_id (x := 1 + b) (by omega) (by omega), wrap16 (by omega) (by omega)]
      have ed : wr .i16 d = d := wrap16 (by omega) (by omega)
      have es : wr .i64 (sumM L + wr .i64 (1 + b)) = sumM L + (1 + b) := by rw [wrap_id (x := 1 + b) (by omega) (by omega), wrap_id (by omega) (by omega)]
      have em : wr .i64 ((m : Int) - 1) = ((m - 1 : Nat) : Int) := by rw [wrap_id (by omega) (by omega)]; omega
      have next : ∀ w, 0 ≤ w → w ≤ 59 → ∃ (src : Src) (L' : List Ct) (m' : Nat), ((o1, (0, [], ()), (t, L ++ [(a, 1 + b, w, ())], ()), sumM L + (1 + b), ((m - 1 : Nat) : Int), ()) : Src × Prg × Prg × Int × Int × Unit) = (src, (0, [], ()), (t, L', ()), sumM L', (m' : Int), ()) ∧ m' ≤ 5 ∧ SrcAt (k + 4 + 8 * (5 - m')) src ∧ (∀ v ∈ L', MoSm v) ∧ (L'.length : Int) + m' ≤ 5 ∧ 2 ≤ (L'.length : Int) + m' := fun w w0 w1 => by
        refine ⟨o1, L ++ [(a, 1 + b, w, ())], m - 1, by rw [sumM_snoc], by omega, hs6.mono (by omega), fun v hv => ?_, by simp; omega, by simp; omega⟩
        rcases List.mem_append.1 hv with hv | hv
        · exact hL v hv
        · simp at hv; rw [hv]; unfold MoSm; simp only; omega
      have hlen : ((L.length + 1) * 6 : Int) ≤ 140737488355328 := by omega
      by_cases ho : o = true ∧ 0 < L.length
      · obtain ⟨ho, hl⟩ := ho
        obtain ⟨M, v, rfl⟩ := last_split hl
        have hvm := hL v (by simp)
        have hi : wr .i64 (((M ++ [v]).length : Int) - 1) = (M.length : Int) := by rw [wrap_id (by omega) (by omega)]; simp
        have hg : (M ++ [v])[((M.length : Int)).toNat]? = some v := by simp
        refine ⟨(o1, (0, [], ()), (t, (M ++ [v]) ++ [(a, 1 + b, v.2.2.1, ())], ()), sumM (M ++ [v]) + (1 + b), ((m - 1 : Nat) : Int), ()), next _ hvm.2.2.1 hvm.2.2.2, ?_, fun y => ?_⟩
        · show ((m - 1 : Nat) : Int).toNat < (m : Int).toNat
          omega
        · refine Round.yes (decide_eq_true (show (m : Int) > 0 by omega)) (Round.bind hA (Round.bind hB (Round.bind hD (Round.bind hO (Round.yes ho (Round.yes (by simp) ?_))))))
          simp only [hi]
          refine Round.chk (decide_eq_true (by simp; omega)) (Round.at hg (Round.chk (decide_eq_true (by simp only [List.length_cons, List.length_nil]; omega)) (Round.again _ ?_)))
          rw [ea, eb, em, wrap_id (x := 1 + b) (by omega) (by omega), wrap_id (x := sumM (M ++ [v]) + (1 + b)) (by omega) (by omega)]
      · refine ⟨(o1, (0, [], ()), (t, L ++ [(a, 1 + b, d, ())], ()), sumM L + (1 + b), ((m - 1 : Nat) : Int), ()), next _ d0 (by omega), ?_, fun y => ?_⟩
        · show ((m - 1 : Nat) : Int).toNat < (m : Int).toNat
          omega
        · refine Round.yes (decide_eq_true (show (m : Int) > 0 by omega)) (Round.bind hA (Round.bind hB (Round.bind hD (Round.bind hO ?_))))
          have fin : ∀ {z}, z = ((o1, (0, [], ()), (t, L ++ [(a, 1 + b, d, ())], ()), sumM L + (1 + b), ((m - 1 : Nat) : Int), ()) : Src × Prg × Prg × Int × Int × Unit) → z = z := fun _ => rfl
          cases o with
          | true =>
            have hl : L.length = 0 := by
              apply Classical.byContradiction
              intro hx
              exact ho ⟨rfl, by omega⟩
            refine Round.yes rfl (Round.no (by simp [hl]) (Round.chk (decide_eq_true (by simp only [List.length_cons, List.length_nil]; omega)) (Round.again _ ?_)))
            rw [ea, eb, ed, em, wrap_id (x := 1 + b) (by omega) (by omega), wrap_id (x := sumM L + (1 + b)) (by omega) (by omega)]
          | false =>
            refine Round.no (by simp) (Round.chk (decide_eq_true (by simp only [List.length_cons, List.length_nil]; omega)) (Round.again _ ?_))
            rw [ea, eb, ed, em, wrap_id (x := 1 + b) (by omega) (by omega), wrap_id (x := sumM L + (1 + b)) (by omega) (by omega)]
    · left
      have hm0 : m = 0 := by omega
      subst hm0
      obtain ⟨M, v, rfl⟩ := last_split (L := L) (by omega)
      have hvm := hL v (by simp)
      obtain ⟨⟨v1, v2⟩, ⟨v3, v4⟩, v5, v6⟩ := hvm
      have hMs : ∀ u ∈ M, MoSm u := fun u hu => hL u (by simp [hu])
      have hsM := sumM_sm M hMs
      rw [sumM_snoc] at hsm
      have hlM : ((M ++ [v]).length : Int) = M.length + 1 := by simp
      have hi : wr .i64 (((M ++ [v]).length : Int) - 1) = (M.length : Int) := by rw [wrap_id (by omega) (by omega)]; simp
      have hg : (M ++ [v])[((M.length : Int)).toNat]? = some v := by simp
      have hset : ∀ u w : Ct, (M ++ [u]).set ((M.length : Int)).toNat w = M ++ [w] := fun u w => by simp
      have hg2 : ∀ u : Ct, (M ++ [u])[((M.length : Int)).toNat]? = some u := fun u => by simp
      by_cases h8 : sumM (M ++ [v]) < 8
      · refine ⟨(((t, M ++ [(v.1, v.2.1 + (8 - sumM (M ++ [v])), t, ())], ()), ()), (src, ())), ⟨?_, hsrc.mono (by omega)⟩, ?_⟩
        · rw [sumM_snoc] at h8 ⊢
          exact smPg t0 (by omega) hMs (by omega) v1 v2 (by omega) (by omega) (by omega) (by omega)
        · refine Round.no (by simp) ?_
          simp only [hi]
          refine Round.chk (decide_eq_true (show 0 ≤ (M.length : Int) ∧ (M.length : Int) < ((M ++ [v]).length : Int) by omega)) (Round.at hg (Round.yes (decide_eq_true h8) ?_))
          simp only [hset]
          refine Round.at (hg2 _) (Round.at (hg2 _) (Round.done ((Evt.some _).of_eq fun n => ?_)))
          rw [sumM_snoc] at h8 ⊢
          simp only [hset]
          rw [wrap_id (x := 8 - (sumM M + v.2.1)) (by omega) (by omega), wrap16 (x := 8 - (sumM M + v.2.1)) (by omega) (by omega), wrap16 (x := v.2.1 + (8 - (sumM M + v.2.1))) (by omega) (by omega)]
          rfl
      · refine ⟨(((t, M ++ [(v.1, v.2.1, t, ())], ()), ()), (src, ())), ⟨?_, hsrc.mono (by omega)⟩, ?_⟩
        · rw [sumM_snoc] at h8
          exact smPg t0 (by omega) hMs (by omega) v1 v2 (by omega) (by omega) (by omega) (by omega)
        · refine Round.no (by simp) ?_
          simp only [hi]
          refine Round.chk (decide_eq_true (show 0 ≤ (M.length : Int) ∧ (M.length : Int) < ((M ++ [v]).length : Int) by omega)) (Round.at hg (Round.no (by simpa using h8) (Round.done ((Evt.some _).of_eq fun n => ?_))))
          simp only [hset]
          rfl
  obtain ⟨⟨⟨p, _⟩, s', _⟩, ⟨h1, h2⟩, hE⟩ := key
  exact ⟨p, s', hE, h1, h2⟩
/- spec.l02Shape -/
theorem e122 {w k n : Int} (w0 : 0 ≤ w) (w1 : w ≤ 3) (k0 : 0 ≤ k) (k1 : k ≤ n) (n1 : n ≤ 360) : Evt (fun m => call T C m 122 (w, k, n, ())) ((shN w k n, shD w n, ()), ()) := by
  refine Evt.next ?_ (fun m => r122 m w k n)
  have W : ∀ x : Int, -9000000000000000000 ≤ x → x ≤ 9000000000000000000 → wr .i64 x = x := fun x a b => wrap_id (by omega) (by omega)
  have q2 := mulB (show 0 ≤ n by omega) n1 (show 0 ≤ n by omega) n1
  have q3 := mulB q2.1 q2.2 (show 0 ≤ n by omega) n1
  have q4 := mulB q3.1 q3.2 (show 0 ≤ n by omega) n1
  have q5 := mulB q4.1 q4.2 (show 0 ≤ n by omega) n1
  have kk := mulB (show 0 ≤ 2 * k by omega) (show 2 * k ≤ 720 by omega) k0 (show k ≤ 360 by omega)
  have dd := mulB (show 0 ≤ 2 * (n - k) by omega) (show 2 * (n - k) ≤ 720 by omega) (show 0 ≤ n - k by omega) (show n - k ≤ 360 by omega)
  have k3 := mulB (show 0 ≤ 3 * k by omega) (show 3 * k ≤ 1080 by omega) k0 (show k ≤ 360 by omega)
  have k3n := mulB k3.1 k3.2 (show 0 ≤ n by omega) n1
  have kkk := mulB kk.1 kk.2 k0 (show k ≤ 360 by omega)
  have c2 := mulB k0 (show k ≤ 360 by omega) k0 (show k ≤ 360 by omega)
  have c3 := mulB c2.1 c2.2 k0 (show k ≤ 360 by omega)
  have e1 := mulB (show 0 ≤ 10 * n by omega) (show 10 * n ≤ 3600 by omega) (show 0 ≤ n by omega) n1
  have e2 := mulB (show 0 ≤ 15 * k by omega) (show 15 * k ≤ 5400 by omega) (show 0 ≤ n by omega) n1
  have e3 := mulB (show 0 ≤ 6 * k by omega) (show 6 * k ≤ 2160 by omega) k0 (show k ≤ 360 by omega)
  have a1 : k * k * k * (-1944000) ≤ k * k * k * (10 * n * n - 15 * k * n + 6 * k * k) := Int.mul_le_mul_of_nonneg_left (by omega) c3.1
  have a2 : k * k * k * (10 * n * n - 15 * k * n + 6 * k * k) ≤ k * k * k * 2073600 := Int.mul_le_mul_of_nonneg_left (by omega) c3.1
  have one : Evt (fun _ => if decide (wr .i64 (2 * k) ≤ n) = true then some ((wr .i64 (wr .i64 (2 * k) * k), wr .i64 (n * n), ()), ()) else some ((wr .i64 (wr .i64 (n * n) - wr .i64 (wr .i64 (2 * wr .i64 (n - k)) * wr .i64 (n - k))), wr .i64 (n * n), ()), ())) ((shN 1 k n, shD 1 n, ()), ()) := by
    rw [W (2 * k) (by omega) (by omega), W (2 * k * k) (by omega) (by omega), W (n * n) (by omega) (by omega), W (n - k) (by omega) (by omega), W (2 * (n - k)) (by omega) (by omega), W (2 * (n - k) * (n - k)) (by omega) (by omega), W (n * n - 2 * (n - k) * (n - k)) (by omega) (by omega)]
    refine Evt.ite (fun h => ?_) (fun h => ?_)
    · have : shN 1 k n = 2 * k * k := by unfold shN; rw [if_pos rfl, if_pos (of_decide_eq_true h)]
      rw [this]; exact Evt.some _
    · have : shN 1 k n = n * n - 2 * (n - k) * (n - k) := by unfold shN; rw [if_pos rfl, if_neg (by simpa using h)]
      rw [this]; exact Evt.some _
  have two : Evt (fun _ => some ((wr .i64 (wr .i64 (wr .i64 (wr .i64 (3 * k) * k) * n) - wr .i64 (wr .i64 (wr .i64 (2 * k) * k) * k)), wr .i64 (wr .i64 (n * n) * n), ()), ())) ((shN 2 k n, shD 2 n, ()), ()) := by
    rw [W (3 * k) (by omega) (by omega), W (3 * k * k) (by omega) (by omega), W (3 * k * k * n) (by omega) (by omega), W (2 * k) (by omega) (by omega), W (2 * k * k) (by omega) (by omega), W (2 * k * k * k) (by omega) (by omega), W (3 * k * k * n - 2 * k * k * k) (by omega) (by omega), W (n * n) (by omega) (by omega), W (n * n * n) (by omega) (by omega)]
    exact Evt.some _
  have three : Evt (fun _ => some ((wr .i64 (wr .i64 (wr .i64 (k * k) * k) * wr .i64 (wr .i64 (wr .i64 (wr .i64 (10 * n) * n) - wr .i64 (wr .i64 (15 * k) * n)) + wr .i64 (wr .i64 (6 * k) * k))), wr .i64 (wr .i64 (wr .i64 (wr .i64 (n * n) * n) * n) * n), ()), ())) ((shN 3 k n, shD 3 n, ()), ()) := by
    rw [W (k * k) (by omega) (by omega), W (k * k * k) (by omega) (by omega), W (10 * n) (by omega) (by omega), W (10 * n * n) (by omega) (by omega), W (15 * k) (by omega) (by omega), W (15 * k * n) (by omega) (by omega), W (10 * n * n - 15 * k * n) (by omega) (by omega), W (6 * k) (by omega) (by omega), W (6 * k * k) (by omega) (by omega), W (10 * n * n - 15 * k * n + 6 * k * k) (by omega) (by omega), W (k * k * k * (10 * n * n - 15 * k * n + 6 * k * k)) (by omega) (by omega), W (n * n) (by omega) (by omega), W (n * n * n) (by omega) (by omega), W (n * n * n * n) (by omega) (by omega), W (n * n * n * n * n) (by omega) (by omega)]
    exact Evt.some _
  rcases (show w = 0 ∨ w = 1 ∨ w = 2 ∨ w = 3 by omega) with rfl | rfl | rfl | rfl
  · exact Evt.no (by decide) (Evt.no (by decide) (Evt.no (by decide) (Evt.some _)))
  · exact Evt.yes rfl one
  · exact Evt.no (by decide) (Evt.yes rfl two)
  · exact Evt.no (by decide) (Evt.no (by decide) (Evt.yes rfl three))
/- spec.l01Near -/
theorem e123 {x n : Int} (hn : 0 < n) (hn' : n ≤ 10000000000000) (h1 : -2000000000000000000 ≤ x) (h2 : x ≤ 2000000000000000000) : Evt (fun m => call T C m 123 (x, n, ())) ((nr x n, ()), ()) := by
  have hbd := ediv_bd (a := 2 * x + n) (b := 2 * n) (M := 4500000000000000000) (by omega) (by omega) (by omega) (by omega)
  have he := floorDiv_eq (a := 2 * x + n) (b := 2 * n) (by omega)
  refine Evt.next ?_ (fun m => r123 m x n)
  rw [wrap_id (x := 2 * n) (by omega) (by omega), wrap_id (x := 2 * x) (by omega) (by omega), wrap_id (x := 2 * x + n) (by omega) (by omega)]
  refine Evt.chk (bne_pos (by omega)) (Evt.chk (bne_pos (by omega)) (Evt.ite (fun h => ?_) (fun h => ?_)))
  · have h : Int.tmod (2 * x + n) (2 * n) < 0 := of_decide_eq_true h
    rw [if_pos h] at he
    refine (Evt.some _).of_eq fun m => ?_
    rw [wrap_id (x := Int.tdiv (2 * x + n) (2 * n)) (by omega) (by omega), wrap_id (by omega) (by omega), he]
    rfl
  · have h : ¬ Int.tmod (2 * x + n) (2 * n) < 0 := by simpa using h
    rw [if_neg h] at he
    refine (Evt.some _).of_eq fun m => ?_
    rw [wrap_id (x := Int.tdiv (2 * x + n) (2 * n)) (by omega) (by omega), he]
    rfl
/- spec.l02Lift -/
theorem e89 {f t w k n : Int} (f0 : 0 ≤ f) (f1 : f ≤ 10000) (t0 : 0 ≤ t) (t1 : t ≤ 10000) (w0 : 0 ≤ w) (w1 : w ≤ 3) (k0 : 0 ≤ k) (k1 : k ≤ n) (n0 : 1 ≤ n) (n1 : n ≤ 360) : Evt (fun m => call T C m 89 (f, t, w, k, n, ())) ((liftP f t w k n, ()), ()) := by
  have hd := shD_bd (w := w) n0 n1
  have hb := lift_bd (w := w) f0 f1 t0 t1 k0 k1 n0 n1
  refine Evt.next (Evt.bind (e122 w0 w1 k0 k1 n1) ?_) (fun m => r89 m f t w k n)
  show Evt (fun m => (call T C m 123 (wr .i64 (wr .i64 (f * shD w n) + wr .i64 (wr .i64 (t - f) * shN w k n)), shD w n, ())).bind _) _
  rw [wrap_id (x := f * shD w n) (by omega) (by omega), wrap_id (x := t - f) (by omega) (by omega), wrap_id (x := (t - f) * shN w k n) (by omega) (by omega), wrap_id (x := f * shD w n + (t - f) * shN w k n) (by omega) (by omega)]
  exact Evt.bind (e123 (by omega) (by omega) (by omega) (by omega)) (Evt.some _)
/- spec.l02Make -/
theorem e49 {p : Prg} (hr : RngPg p) (hn : (p.2.1.length : Int) ≤ 24) (ht : 0 ≤ p.1 ∧ p.1 ≤ 10000) (hi : ∀ v ∈ p.2.1, MoIn 0 10000 v) : Evt (fun n => call T C n 49 (p, ())) ((proF p.1 p.2.1, ()), ()) := by
  refine Evt.next ?_ (fun n => r49 n p)
  rw [wrap_id (x := p.1) (by omega) (by omega)]
  have hpl : ∀ i : Nat, ((proF p.1 (p.2.1.take i)).length : Int) ≤ 1000000 := fun i => by
    have h1 := proF_len (p.2.1.take i) p.1 fun v hv => (hi v (List.mem_of_mem_take hv)).n.1
    have h2 := sumM_take hr.m hn i
    omega
  refine for_evt' 0 (p.2.1.length : Int) (fun i (_ : Unit) => (p, proF p.1 (p.2.1.take i.toNat), toF p.1 (p.2.1.take i.toNat), i, ())) (fun _ _ => True) (b0 := ()) (by simp [proF, toF]) (by omega) trivial ?_ ?_
  · intro i _ h2 h3 _
    obtain ⟨v, hv⟩ := at_of h2 h3
    have hm := hi v hv.mem
    have hw := hm.w
    have hn1 := hm.n
    have htt := hm.t
    have hf := toF_in (p.2.1.take i.toNat) (f := p.1) (fun u hu => hi u (List.mem_of_mem_take hu)) ht.1 ht.2
    have hl := hpl i.toNat
    refine Round.yes (decide_eq_true h3) (Round.at hv.idx ?_)
    have e2 : wr .i64 v.2.1 = v.2.1 := hr.m.i2 hv.mem
    have e1 : wr .i64 v.1 = v.1 := hr.m.i1 hv.mem
    have e3 : wr .i64 v.2.2.1 = v.2.2.1 := hr.m.i3 hv.mem
    refine for_round' 0 v.2.1 (fun j (_ : Unit) => (p, proF p.1 (p.2.1.take i.toNat) ++ (seg (toF p.1 (p.2.1.take i.toNat)) v).take j.toNat, toF p.1 (p.2.1.take i.toNat), i, v, j, ())) (fun _ _ => True) (b0 := ()) (by simp) (by omega) trivial ?_ ?_
    · intro j _ h4 h5 _
      have hb := liftP_in (f := toF p.1 (p.2.1.take i.toNat)) (t := v.2.2.1) (w := v.1) (k := j) (n := v.2.1) (lo := 0) (hi := 10000) hw.1 hw.2 h4 (by omega) hn1.1 hn1.2 hf.1 hf.2 htt.1 htt.2
      have hsl := seg_len (toF p.1 (p.2.1.take i.toNat)) v
      have hlen : ((proF p.1 (p.2.1.take i.toNat) ++ (seg (toF p.1 (p.2.1.take i.toNat)) v).take j.toNat).length : Int) ≤ 1000360 := by
        rw [List.length_append, List.length_take]
        omega
      refine Round.yes (decide_eq_true (show j < wr .i64 v.2.1 by rw [e2]; exact h5)) ?_
      simp only [e1, e2, e3]
      refine Round.bind (e89 hf.1 hf.2 htt.1 htt.2 hw.1 hw.2 h4 (by omega) hn1.1 hn1.2) (Round.chk (decide_eq_true (by simp only [List.length_cons, List.length_nil]; omega)) (Round.inr _ ⟨(), ?_, trivial⟩))
      rw [wrap16 (x := liftP (toF p.1 (p.2.1.take i.toNat)) v.2.2.1 v.1 j v.2.1) (by omega) (by omega), seg_take _ _ h4 h5, List.append_assoc, wr_succ h4 h5 (by omega)]
    · intro _ _
      have ht2 : (seg (toF p.1 (p.2.1.take i.toNat)) v).take v.2.1.toNat = seg (toF p.1 (p.2.1.take i.toNat)) v := List.take_of_length_le (by rw [seg_len]; omega)
      refine Round.no (by simp [e2]) (Round.inl _ ⟨(), ?_, trivial⟩)
      rw [hv.take, proF_snoc, toF_snoc, e3, wr_succ h2 h3 (by omega), ht2]
  · intro _ _
    simp only [take_all]
    exact Round.no (by simp) (Round.done (Evt.some _))
/- spec.A2Cam -/
theorem e17 {b : List Int} (hb : ∀ v ∈ b, 0 ≤ v ∧ v ≤ 255) (hl : (b.length : Int) ≤ 3000) : ∃ c, Evt (fun n => call T C n 17 (b, ())) ((c, ()), ()) ∧ SmC c := by
  obtain ⟨p, s', hE, S, _⟩ := e47 (k := 0) (s := (b, 0, 0, ())) ⟨hb, by show (b.length : Int) ≤ _; omega, by show (0 : Int) ≤ 0; omega, by show (0 : Int) ≤ 0; omega⟩ (by omega)
  have ht := S.t
  have hn := S.n
  have hM := e49 S.rng (by omega) (by omega) (fun v hv => by
    have h := S.ins v hv
    exact ⟨h.w, h.n, by have := h.t; omega⟩)
  exact ⟨proF p.1 p.2.1, Evt.next (Evt.bind (e48 b) (Evt.bind hE (Evt.bind hM (Evt.some ((proF p.1 p.2.1, ()), ()))))) (fun n => r17 n b), S.cam⟩
/- spec.l00In -/
theorem e85 (a b c : Int) : Evt (fun n => call T C n 85 (a, b, c, ())) ((inR a b c, ()), ()) := by
  refine Evt.next ?_ (fun n => r85 n a b c)
  refine Evt.ite (fun h => ?_) (fun h => ?_)
  · refine (Evt.some _).of_eq fun n => ?_
    have h : b ≤ a := of_decide_eq_true h
    simp [inR, h]
    rfl
  · refine (Evt.some _).of_eq fun n => ?_
    have h : ¬ b ≤ a := by simpa using h
    simp [inR, h]
    rfl
/- spec.FlatCutter -/
theorem e90 {H : Nat} (hH : H ≤ 15) : Evt (fun n => call T C n 90 (((2 * H + 1 : Nat) : Int), ())) ((symK H (fun _ => 0), 0, ()), ()) := by
  have h1 : inR ((2 * H + 1 : Nat) : Int) 1 31 = true := inR_iff.2 ⟨by omega, by omega⟩
  have h2 : Int.tmod ((2 * H + 1 : Nat) : Int) 2 = 1 := by rw [show (2 : Int) = ((2 : Nat) : Int) from rfl, ← Int.ofNat_tmod]; omega
  have hE := e85 ((2 * H + 1 : Nat) : Int) 1 31
  rw [h1] at hE
  refine Evt.next (Evt.bind hE ?_) (fun n => r90 n ((2 * H + 1 : Nat) : Int))
  rw [h2]
  refine Evt.no (by decide) (Evt.chk rfl (Evt.no (by decide) (Evt.chk (decide_eq_true ⟨rfl, by omega, by omega⟩) ((Evt.some _).of_eq fun n => ?_))))
  rw [← flat_sym, Int.toNat_natCast]
  rfl
/- spec.l06Drawn -/
theorem e50 {k : Int} {s : Src} (h : SrcAt k s) (hk : k ≤ 999999990000) : ∃ (c : List Int) (s' : Src), Evt (fun n => call T C n 50 (s, ())) ((c, ()), (s', ())) ∧ SmK c ∧ SrcAt (k + 100) s' := by
  obtain ⟨o, s1, hO, hs1⟩ := e88 h (by omega) (m := 3) (by omega) (by omega)
  cases o with
  | true =>
    obtain ⟨v, s2, hV, v0, v1, hs2⟩ := e51 hs1 (by omega) (m := 3) (by omega) (by omega)
    obtain ⟨u, rfl⟩ : ∃ u : Nat, v = u := ⟨v.toNat, by omega⟩
    have hF := e90 (H := u) (by omega)
    have e1 : wr .i64 (1 + wr .i64 (2 * (u : Int))) = ((2 * u + 1 : Nat) : Int) := by rw [wrap_id (x := 2 * (u : Int)) (by omega) (by omega), wrap_id (by omega) (by omega)]; omega
    refine ⟨symK u fun _ => 0, s2, Evt.next (Evt.bind hO (Evt.yes rfl (Evt.bind hV ?_))) (fun n => r50 n s), SmK.of (flat_ris u) (by omega), hs2.mono (by omega)⟩
    rw [e1]
    exact Evt.bind hF (Evt.some _)
  | false =>
    obtain ⟨v, s2, hV, v0, v1, hs2⟩ := e51 hs1 (by omega) (m := 4) (by omega) (by omega)
    obtain ⟨H, rfl⟩ : ∃ u : Nat, v = u := ⟨v.toNat, by omega⟩
    have e1 : wr .i64 (wr .i64 (2 * (H : Int)) + 1) = ((2 * H + 1 : Nat) : Int) := by rw [wrap_id (x := 2 * (H : Int)) (by omega) (by omega), wrap_id (by omega) (by omega)]; omega
    have key : EvtX (fun n => call T C n 50 (s, ())) (fun y => SmK y.1.1 ∧ SrcAt (k + 100) y.2.1) := by
      refine EvtX.next (EvtX.bind hO (EvtX.no (by simp) (EvtX.bind hV ?_))) (fun n => r50 n s)
      simp only [e1]
      refine EvtX.chk (by simp; omega) ?_
      refine EvtX.loop (fun x => ∃ (src : Src) (h : Nat → Int) (i : Nat), x = (src, (H : Int), symK H (fun a => if a < i then h a else 0), h (i - 1), (i : Int), ()) ∧ 1 ≤ i ∧ i ≤ H + 1 ∧ SrcAt (k + 10 + 2 * i) src ∧ h 0 = 0 ∧ (∀ a b, a ≤ b → b < i → h a ≤ h b) ∧ (∀ a : Nat, a < i → h a ≤ 3 * a)) (fun x => (H + 2 - x.2.2.2.2.1.toNat : Nat))
        ⟨s2, fun _ => 0, 1, ?_, by omega, by omega, hs2.mono (by omega), rfl, fun _ _ _ _ => Int.le_refl _, fun a _ => by show (0 : Int) ≤ 3 * a; omega⟩ ?_
      · rw [Int.toNat_natCast, flat_sym]
        have : (fun a => if a < 1 then (fun _ => (0 : Int)) a else 0) = (fun _ : Nat => (0 : Int)) := by funext a; simp
        rw [this]
        rfl
      rintro x ⟨src, h, i, rfl, i1, i2, hsrc, h0, hup, hhi⟩
      by_cases hi : i ≤ H
      · right
        obtain ⟨d, s3, hD, d0, d1, hs3⟩ := e51 hsrc (by omega) (m := 4) (by omega) (by omega)
        have hp0 := hup 0 (i - 1) (by omega) (by omega)
        have hp1 := hhi (i - 1) (by omega)
        have ed : wr .i16 (h (i - 1) + wr .i16 d) = h (i - 1) + d := by rw [wrap16 (x := d) (by omega) (by omega), wrap16 (by omega) (by omega)]
        have em : wr .i64 ((H : Int) - (i : Int)) = ((H - i : Nat) : Int) := by rw [wrap_id (by omega) (by omega)]; omega
        have ep : wr .i64 ((H : Int) + (i : Int)) = ((H + i : Nat) : Int) := by rw [wrap_id (by omega) (by omega)]; omega
        have ei : wr .i64 ((i : Int) + 1) = ((i + 1 : Nat) : Int) := by rw [wrap_id (by omega) (by omega)]; omega
        have hl := symK_len H (fun a => if a < i then h a else 0)
        have g1 := g_idx (l := symK H (fun a => if a < i then h a else 0)) (i := ((H - i : Nat) : Int)) (by omega) (by omega)
        have g2 := g_idx (l := (symK H (fun a => if a < i then h a else 0)).set (H - i) (h (i - 1) + d)) (i := ((H + i : Nat) : Int)) (by omega) (by rw [List.length_set]; omega)
        have n1 := g1.get
        have n2 := g2.get
        refine ⟨(s3, (H : Int), symK H (fun a => if a < i + 1 then (if a = i then h (i - 1) + d else h a) else 0), h (i - 1) + d, ((i + 1 : Nat) : Int), ()), ⟨s3, fun a => if a = i then h (i - 1) + d else h a, i + 1, ?_, by omega, by omega, hs3.mono (by omega), ?_, fun a b hab hb => ?_, fun a ha => ?_⟩, ?_, fun y => ?_⟩
        · simp only [Nat.add_sub_cancel, if_true]
        · show (if 0 = i then _ else _) = (0 : Int)
          rw [if_neg (by omega)]; exact h0
        · show (if a = i then _ else _) ≤ (if b = i then _ else _ : Int)
          by_cases hb2 : b = i
          · rw [if_pos hb2]
            by_cases ha2 : a = i
            · rw [if_pos ha2]; exact Int.le_refl _
            · rw [if_neg ha2]
              have := hup a (i - 1) (by omega) (by omega)
              omega
          · rw [if_neg hb2, if_neg (by omega)]
            exact hup a b hab (by omega)
        · show (if a = i then _ else _) ≤ (3 * a : Int)
          by_cases ha2 : a = i
          · rw [if_pos ha2]; omega
          · rw [if_neg ha2]; exact hhi a (by omega)
        · show (H + 2 - ((i + 1 : Nat) : Int).toNat : Nat) < (H + 2 - (i : Int).toNat : Nat)
          omega
        · refine Round.yes (decide_eq_true (show (i : Int) ≤ (H : Int) by omega)) (Round.bind hD ?_)
          simp only [em, ep, ed, ei, Int.toNat_natCast]
          rw [Int.toNat_natCast] at n1 n2
          refine Round.chk (decide_eq_true ⟨by omega, by rw [hl]; omega⟩) (Round.at n1 (Round.chk (decide_eq_true ⟨by omega, by rw [List.length_set, hl]; omega⟩) (Round.at n2 (Round.again _ ?_))))
          rw [symK_step i1 hi]
      · left
        have hi2 : i = H + 1 := by omega
        have hsame : symK H (fun a => if a < i then h a else 0) = symK H h := tb_ext fun j hj => by
          have := dst_le hj
          show (if dst H j < i then _ else _) = _
          rw [if_pos (by omega)]
        refine ⟨((symK H h, ()), (src, ())), ⟨SmK.of ⟨h0, fun a b hab hb => hup a b hab (by omega), fun a ha => by have := hhi a (by omega); omega⟩ (by omega), hsrc.mono (by omega)⟩, ?_⟩
        rw [hsame]
        exact Round.no (by simp; omega) (Round.done (Evt.some _))
    obtain ⟨⟨⟨c, _⟩, s', _⟩, ⟨h1, h2⟩, hE⟩ := key
    exact ⟨c, s', hE, h1, h2⟩
/- spec.A2Cutter -/
theorem e18 {b : List Int} (hb : ∀ v ∈ b, 0 ≤ v ∧ v ≤ 255) (hl : (b.length : Int) ≤ 4000) : ∃ c, Evt (fun n => call T C n 18 (b, ())) ((c, ()), ()) ∧ SmK c := by
  obtain ⟨c, s', hE, S, _⟩ := e50 (k := 0) (s := (b, 0, 0, ())) ⟨hb, by show (b.length : Int) ≤ _; omega, by show (0 : Int) ≤ 0; omega, by show (0 : Int) ≤ 0; omega⟩ (by omega)
  exact ⟨c, Evt.next (Evt.bind (e48 b) (Evt.bind hE (Evt.some ((c, ()), ())))) (fun n => r18 n b), S⟩
/- spec.A2Cuts -/
theorem e19 {b : List Int} (hb : ∀ v ∈ b, 0 ≤ v ∧ v ≤ 255) (hl : (b.length : Int) ≤ 4000) {m : Nat} (m1 : 1 ≤ m) (m2 : m ≤ 360) : ∃ L, Evt (fun n => call T C n 19 (b, (m : Int), ())) ((L, ()), ()) ∧ OneK m L ∧ L.length ≤ 7 := by
  obtain ⟨t, s1, hE1, t0, t1, hs1⟩ := e51 (k := 0) (s := (b, 0, 0, ())) ⟨hb, by show (b.length : Int) ≤ _; omega, by show (0 : Int) ≤ 0; omega, by show (0 : Int) ≤ 0; omega⟩ (by omega) (m := 8) (by omega) (by omega)
  have key : EvtX (fun n => call T C n 19 (b, (m : Int), ())) (fun y => OneK m y.1.1 ∧ y.1.1.length ≤ 7) := by
    refine EvtX.next (EvtX.bind (e48 b) (EvtX.bind hE1 ?_)) (fun n => r19 n b (m : Int))
    refine EvtX.loop (fun x => ∃ (src : Src) (L : List Ct) (j : Nat), x = ((m : Int), src, L, (j : Int), ()) ∧ SrcAt (10 + 4 * (7 - j)) src ∧ (∀ v ∈ L, (0 ≤ v.1 ∧ v.1 < (m : Int)) ∧ (0 ≤ v.2.1 ∧ v.2.1 ≤ 10000) ∧ v.2.2.1 = 0) ∧ L.length + j ≤ 7) (fun x => x.2.2.2.1.toNat)
      ⟨s1, [], t.toNat, ?_, hs1.mono (by omega), by simp, by simp; omega⟩ ?_
    · show ((m : Int), s1, _, t, ()) = _
      rw [Int.toNat_of_nonneg t0]
    · rintro _ ⟨src, L, j, rfl, hs, hL, hj⟩
      dsimp only
      by_cases h0 : 0 < j
      · right
        obtain ⟨u, s2, hE2, u0, u1, hs2⟩ := e51 hs (by omega) (m := (m : Int)) (by omega) (by omega)
        obtain ⟨w, s3, hE3, w0, w1, hs3⟩ := e51 hs2 (by omega) (m := 60) (by omega) (by omega)
        refine ⟨_, ⟨s3, L ++ [(wr .i16 u, wr .i16 w, 0, ())], j - 1, rfl, hs3.mono (by omega), ?_, by simp; omega⟩, ?_, ?_⟩
        · intro v hv
          rcases List.mem_append.1 hv with hv | hv
          · exact hL v hv
          · rw [List.mem_singleton.1 hv, wrap16 (x := u) (by omega) (by omega), wrap16 (x := w) (by omega) (by omega)]
            exact ⟨⟨u0, u1⟩, ⟨w0, by show w ≤ 10000; omega⟩, rfl⟩
        · show (((j - 1 : Nat) : Int)).toNat < ((j : Int)).toNat
          omega
        · intro _
          refine Round.yes (decide_eq_true (by omega)) (Round.bind hE2 (Round.bind hE3 (Round.chk (decide_eq_true (by simp only [List.length_singleton]; omega)) (Round.again _ ?_))))
          rw [wrap_id (x := (j : Int) - 1) (by omega) (by omega), show (j : Int) - 1 = ((j - 1 : Nat) : Int) by omega]
      · left
        refine ⟨((L, ()), ()), ⟨⟨by show (L.length : Int) ≤ 400; omega, hL⟩, by show L.length ≤ 7; omega⟩, ?_⟩
        exact Round.no (by simp; omega) (Round.done (Evt.some _))
  obtain ⟨⟨⟨L, _⟩, _⟩, ⟨h1, h2⟩, hE⟩ := key
  exact ⟨L, hE, h1, h2⟩
/- (impl.Cam).steps -/
theorem e79 (a : List Int) : Evt (fun n => call T C n 79 (a, ())) (((a.length : Int), ()), ()) := Evt.next (Evt.some _) (fun n => r79 n a)
/- impl.inRange -/
theorem e78 (a b c : Int) : Evt (fun n => call T C n 78 (a, b, c, ())) ((inR a b c, ()), ()) := by
  refine Evt.next ?_ (fun n => r78 n a b c)
  refine Evt.ite (fun h => ?_) (fun h => ?_)
  · refine (Evt.some _).of_eq fun n => ?_
    have h : b ≤ a := of_decide_eq_true h
    simp [inR, h]
    rfl
  · refine (Evt.some _).of_eq fun n => ?_
    have h : ¬ b ≤ a := by simpa using h
    simp [inR, h]
    rfl
/- impl.isSteps -/
theorem e117 (a : Int) : Evt (fun n => call T C n 117 (a, ())) ((inR a 8 360, ()), ()) := Evt.next (Evt.bind (e78 a 8 360) (Evt.some _)) (fun n => r117 n a)
/- impl.isLift -/
theorem e69 (a : Int) : Evt (fun n => call T C n 69 (a, ())) ((inR a 0 10000, ()), ()) := Evt.next (Evt.bind (e78 a 0 10000) (Evt.some _)) (fun n => r69 n a)
/- impl.ValidCam$1 -/
theorem e119 (v : Int) : Evt (fun n => call T C n 119 (v, ())) ((!okV v, ()), ()) := Evt.next (Evt.bind (e69 _) (Evt.some _)) (fun n => r119 n v)
/- slices.IndexFunc[impl.Cam,int16]{impl.ValidCam$1} -/
theorem e149 (l : List Int) (hl : (l.length : Int) ≤ 140737488351232) : Evt (fun n => call T C n 149 (l, ((), ()), ())) ((fi (fun v => !okV v) l 0, ()), ()) := by
  refine Evt.next ?_ (fun n => r149 n l ((), ()))
  refine loop_evt (fun (x : List Int × (Unit × Unit) × Int × Int × Unit) => x.1 = l ∧ x.2.2.1 = (l.length : Int) ∧ 0 ≤ x.2.2.2.1 ∧ x.2.2.2.1 ≤ (l.length : Int) ∧ fi (fun v => !okV v) l 0 = fi (fun v => !okV v) (l.drop x.2.2.2.1.toNat) x.2.2.2.1) (fun (x : List Int × (Unit × Unit) × Int × Int × Unit) => ((l.length : Int) - x.2.2.2.1).toNat) (x := (l, ((), ()), (l.length : Int), 0, ())) ⟨rfl, rfl, Int.le_refl _, by simp, by simp⟩ ?_
  rintro ⟨x1, u, m, i, _⟩ ⟨h', hm, h0, h1, h2⟩
  simp only at h' hm h0 h1 h2
  subst h'; subst hm
  refine Round.ite (fun hlt => ?_) (fun hge => ?_)
  · have hlt : i < (x1.length : Int) := of_decide_eq_true hlt
    obtain ⟨v, hv, hv'⟩ := idx_at h0 hlt
    have hd := drop_cons hv'
    refine Round.at hv (Round.bind (e119 _) (Round.ite (fun hb => ?_) (fun hb => ?_)))
    · have hb : okV v = false := by simpa using hb
      have h3 : fi (fun v => !okV v) x1 0 = i := by rw [h2, hd]; simp [fi, hb]
      rw [h3]
      exact Round.done (Evt.some _)
    · have hb : okV v = true := by simpa using hb
      have hw : wr .i64 (i + 1) = i + 1 := wrap_id (by omega) (by omega)
      refine Round.again _ ⟨⟨rfl, rfl, ?_, ?_, ?_⟩, ?_⟩ <;> simp only [hw]
      · omega
      · omega
      · rw [h2, hd, show (i + 1).toNat = i.toNat + 1 by omega]
        simp [fi, hb]
      · omega
  · have hge : ¬ i < (x1.length : Int) := by simpa using hge
    have : x1.drop i.toNat = [] := List.drop_of_length_le (by omega)
    rw [h2, this]
    exact Round.done (Evt.some _)
/- slices.ContainsFunc[impl.Cam,int16]{impl.ValidCam$1} -/
theorem e118 (l : List Int) (hl : (l.length : Int) ≤ 140737488351232) : Evt (fun n => call T C n 118 (l, ((), ()), ())) ((l.any (fun v => !okV v), ()), ()) := by
  refine Evt.next (Evt.bind (e149 l hl) ((Evt.some _).of_eq fun n => ?_)) (fun n => r118 n l ((), ()))
  simp only [fi_any _ l 0 (Int.le_refl _)]
  rfl
/- impl.ValidCam -/
theorem e81 (l : List Int) (hl : (l.length : Int) ≤ 140737488351232) : Evt (fun n => call T C n 81 (l, ())) ((okC l, ()), ()) := by
  refine Evt.next (Evt.bind (e79 l) (Evt.bind (e117 _) ?_)) (fun n => r81 n l)
  refine Evt.ite (fun h => ?_) (fun h => ?_)
  · refine Evt.bind (e118 l hl) ((Evt.some _).of_eq fun n => ?_)
    have h : inR (l.length : Int) 8 360 = true := h
    have : okC l = !l.any (fun v => !okV v) := by simp [okC, h, List.any_eq_not_all_not]
    rw [this]
    rfl
  · refine (Evt.some _).of_eq fun n => ?_
    have h : inR (l.length : Int) 8 360 = false := by simpa using h
    simp [okC, h]
    rfl
/- impl.isCount -/
theorem e63 (K : List (List Int)) : Evt (fun n => call T C n 63 (K, ())) ((inR (K.length : Int) 1 8, ()), ()) := Evt.next (Evt.bind (e78 _ _ _) (Evt.some _)) (fun n => r63 n K)
/- impl.ValidCutter -/
theorem e104 (k : List Int) (hr : Rng k) : Evt (fun n => call T C n 104 (k, ())) ((okK k, ()), ()) := by
  have hl := hr.len'
  have hm : Int.tmod (k.length : Int) 2 = ((k.length % 2 : Nat) : Int) := by rw [show (2 : Int) = ((2 : Nat) : Int) from rfl, ← Int.ofNat_tmod]
  have hd : Int.tdiv (k.length : Int) 2 = ((k.length / 2 : Nat) : Int) := by rw [show (2 : Int) = ((2 : Nat) : Int) from rfl, ← Int.ofNat_tdiv]
  refine Evt.next (Evt.chk rfl ?_) (fun n => r104 n k)
  rw [hm, hd, wrap_id (x := ((k.length / 2 : Nat) : Int)) (by omega) (by omega)]
  refine Evt.ite (fun h => ?_) (fun h => ?_)
  · have h : k.length % 2 = 0 := by
      have h' : (k.length : Int) % 2 = 0 := by simpa using h
      omega
    have e : okK k = false := by unfold okK; rw [show decide (k.length % 2 = 1) = false from decide_eq_false (by omega)]; simp
    rw [e]; exact Evt.some _
  have h : k.length % 2 = 1 := by
    have h' : ¬ (k.length : Int) % 2 = 0 := by simpa using h
    omega
  refine Evt.ite (fun h1 => ?_) (fun h1 => ?_)
  · have h1 : (k.length : Int) > 31 := by simpa using h1
    have e : okK k = false := by
      unfold okK
      have : inR (k.length : Int) 1 31 = false := by rw [Bool.eq_false_iff]; intro hh; have := inR_iff.1 hh; omega
      rw [this]; simp
    rw [e]; exact Evt.some _
  have h1 : ¬ (k.length : Int) > 31 := by simpa using h1
  have hin : inR (k.length : Int) 1 31 = true := inR_iff.2 ⟨by omega, by omega⟩
  have e : okK k = ((g k (k.length / 2) == 0) && allTo (kOne k) (k.length / 2 + 1)) := by unfold okK; rw [hin, show decide (k.length % 2 = 1) = true from decide_eq_true h]; simp
  rw [e]
  have hmid := g_idx (l := k) (i := ((k.length / 2 : Nat) : Int)) (by omega) (by omega)
  rw [Int.toNat_natCast] at hmid
  refine Evt.chk rfl (Evt.at hmid.idx (Evt.ite (fun h0 => ?_) (fun h0 => ?_)))
  · have h0 : (g k (k.length / 2) == 0) = false := by simpa using h0
    rw [h0]; exact Evt.some _
  have h0 : (g k (k.length / 2) == 0) = true := by simpa using h0
  rw [h0]
  simp only [Bool.true_and]
  have e2 : allTo (kOne k) (k.length / 2 + 1) = allTo (kTwo k) k.length := by
    rw [Bool.eq_iff_iff]
    exact ⟨kTwo_of h, kOne_of h⟩
  rw [e2]
  refine for_evt' 0 (k.length : Int) (fun i (_ : Unit) => (k, (k.length : Int), k, (k.length : Int), i, ())) (fun i _ => allTo (kTwo k) i.toNat = true) (b0 := ()) rfl (by omega) (by rfl) ?_ ?_
  · intro i _ h2 h3 hp
    obtain ⟨a, rfl⟩ : ∃ a : Nat, i = a := ⟨i.toNat, by omega⟩
    rw [Int.toNat_natCast] at hp
    have hai := g_idx (l := k) (i := (a : Int)) (by omega) (by omega)
    have haj := g_idx (l := k) (i := (k.length : Int) - 1 - a) (by omega) (by omega)
    rw [Int.toNat_natCast] at hai
    rw [show ((k.length : Int) - 1 - a).toNat = k.length - 1 - a by omega] at haj
    have bad : kTwo k a = false → allTo (kTwo k) k.length = false := allTo_false (by omega)
    simp only [hd, wrap_id (x := ((k.length / 2 : Nat) : Int)) (by omega) (by omega), wrap_id (x := (a : Int) + 1) (by omega) (by omega), wrap_id (x := (a : Int) - 1) (by omega) (by omega), wrap_id (x := (k.length : Int) - 1) (by omega) (by omega), wrap_id (x := (k.length : Int) - 1 - (a : Int)) (by omega) (by omega)]
    refine Round.yes (decide_eq_true h3) (Round.at hai.idx (Round.bind (e69 _) (Round.ite (fun c1 => ?_) (fun c1 => ?_))))
    · have c1 : inR (wr .i64 (g k a)) 0 10000 = false := by simpa using c1
      rw [bad (by simp [kTwo, c1])]
      exact Round.done (Evt.some _)
    have c1 : inR (wr .i64 (g k a)) 0 10000 = true := by simpa using c1
    refine Round.at haj.idx (Round.ite (fun c2 => ?_) (fun c2 => ?_))
    · have c2 : (g k a == g k (k.length - 1 - a)) = false := by simpa using c2
      rw [bad (by simp [kTwo, c2])]
      exact Round.done (Evt.some _)
    have c2 : (g k a == g k (k.length - 1 - a)) = true := by simpa using c2
    have again : kTwo k a = true → ∃ b' : Unit, ((k, (k.length : Int), k, (k.length : Int), (a : Int) + 1, ()) : List Int × Int × List Int × Int × Int × Unit) = (k, (k.length : Int), k, (k.length : Int), (a : Int) + 1, ()) ∧ allTo (kTwo k) ((a : Int) + 1).toNat = true := fun h => ⟨(), rfl, by rw [show ((a : Int) + 1).toNat = a + 1 by omega, allTo_succ, hp, h]; rfl⟩
    refine Round.chk rfl (Round.ite (fun c3 => ?_) (fun c3 => ?_))
    · have c3 : (a : Int) > ((k.length / 2 : Nat) : Int) := of_decide_eq_true c3
      have hab := g_idx (l := k) (i := (a : Int) - 1) (by omega) (by omega)
      rw [show ((a : Int) - 1).toNat = a - 1 by omega] at hab
      refine Round.at hab.idx (Round.ite (fun c4 => ?_) (fun c4 => ?_))
      · have c4 : g k a < g k (a - 1) := by simpa using c4
        rw [bad (by
          have c5 : a > k.length / 2 := by omega
          simp [kTwo, c4, c5])]
        exact Round.done (Evt.some _)
      · have c4 : ¬ g k a < g k (a - 1) := by simpa using c4
        exact Round.again _ (again (by simp only [kTwo, c1, c2, decide_eq_false c4]; simp))
    · have c3 : ¬ (a : Int) > ((k.length / 2 : Nat) : Int) := by simpa using c3
      exact Round.no (by simp) (Round.again _ (again (by simp only [kTwo, c1, c2, decide_eq_false (show ¬ a > k.length / 2 by omega)]; simp)))
  · intro _ hp
    have hp : allTo (kTwo k) k.length = true := by simpa using hp
    rw [hp]
    exact Round.no (by simp) (Round.done (Evt.some _))
/- impl.areCutters$1 -/
theorem e103 (k : List Int) (hr : Rng k) : Evt (fun n => call T C n 103 (k, ())) ((!okK k, ()), ()) := Evt.next (Evt.bind (e104 k hr) (Evt.some _)) (fun n => r103 n k)
/- slices.IndexFunc[[]impl.Cutter,impl.Cutter]{impl.areCutters$1} -/
theorem e136 (K : List (List Int)) (hr : RngS K) : Evt (fun n => call T C n 136 (K, ((), ()), ())) ((fi (fun v => !okK v) K 0, ()), ()) := by
  have hl := hr.len'
  refine Evt.next ?_ (fun n => r136 n K ((), ()))
  refine for_evt' 0 (K.length : Int) (fun i (_ : Unit) => (K, ((), ()), (K.length : Int), i, ())) (fun i _ => fi (fun v => !okK v) K 0 = fi (fun v => !okK v) (K.drop i.toNat) i) (b0 := ()) rfl (by omega) (by simp) ?_ ?_
  · intro i _ h2 h3 hp
    obtain ⟨v, hv⟩ := at_of h2 h3
    rw [hv.drop] at hp
    simp only [fi] at hp
    refine Round.yes (decide_eq_true h3) (Round.at hv.idx (Round.bind (e103 v (hr.el v hv.mem)) ?_))
    cases hb : okK v with
    | false =>
      simp only [hb, Bool.not_false, if_true] at hp
      rw [hp]
      exact Round.yes rfl (Round.done (Evt.some _))
    | true =>
      simp only [hb, Bool.not_true, Bool.false_eq_true, if_false] at hp
      exact Round.no (by simp) (Round.again _ ⟨(), by rw [wr_succ h2 h3 (by omega)], hp⟩)
  · intro _ hp
    rw [drop_all] at hp
    rw [hp]
    exact Round.no (by simp) (Round.done (Evt.some _))
/- slices.ContainsFunc[[]impl.Cutter,impl.Cutter]{impl.areCutters$1} -/
theorem e102 (K : List (List Int)) (hr : RngS K) : Evt (fun n => call T C n 102 (K, ((), ()), ())) ((K.any (fun v => !okK v), ()), ()) := by
  refine Evt.next (Evt.bind (e136 K hr) ((Evt.some _).of_eq fun n => ?_)) (fun n => r102 n K ((), ()))
  simp only [fi_any _ K 0 (Int.le_refl _)]
  rfl
/- impl.areCutters -/
theorem e64 (K : List (List Int)) (hr : RngS K) : Evt (fun n => call T C n 64 (K, ())) ((okKs K, ()), ()) := by
  refine Evt.next (Evt.bind (e102 K hr) ((Evt.some _).of_eq fun n => ?_)) (fun n => r64 n K)
  have : okKs K = !K.any (fun v => !okK v) := by simp [okKs, List.any_eq_not_all_not]
  rw [this]
  rfl
/- impl.isPlace -/
theorem e68 (a b : Int) : Evt (fun n => call T C n 68 (a, b, ())) ((inR a 0 (wr .i64 (b - 1)), ()), ()) := Evt.next (Evt.bind (e78 _ _ _) (Evt.some _)) (fun n => r68 n a b)
/- impl.areCuts$1 -/
theorem e99 (v : Ct) (m : Int) : Evt (fun n => call T C n 99 (v, m, ())) ((!ctOk m v, ()), (m, ())) := by
  refine Evt.next (Evt.bind (e78 _ _ _) ?_) (fun n => r99 n v m)
  unfold ctOk
  cases inR (wr .i64 v.1) 0 359 with
  | false => exact Evt.yes rfl (Evt.some _)
  | true =>
    refine Evt.no (by simp) (Evt.bind (e69 _) ?_)
    cases inR (wr .i64 v.2.1) 0 10000 with
    | false => exact Evt.yes rfl (Evt.some _)
    | true => exact Evt.no (by simp) (Evt.bind (e68 _ _) (Evt.some _))
/- slices.IndexFunc[[]impl.Cut,impl.Cut]{impl.areCuts$1} -/
theorem e133 (l : List Ct) (m : Int) (hr : RngC l) : Evt (fun n => call T C n 133 (l, ((), m, ()), ())) ((fi (fun v => !ctOk m v) l 0, ()), (((), m, ()), ())) := by
  have hl : (l.length : Int) ≤ 140737488351232 := by have := hr.len'; omega
  refine Evt.next ?_ (fun n => r133 n l ((), m, ()))
  refine for_evt' 0 (l.length : Int) (fun i (_ : Unit) => (l, ((), m, ()), (l.length : Int), i, ())) (fun i _ => fi (fun v => !ctOk m v) l 0 = fi (fun v => !ctOk m v) (l.drop i.toNat) i) (b0 := ()) rfl (by omega) (by simp) ?_ ?_
  · intro i _ h2 h3 hp
    obtain ⟨v, hv⟩ := at_of h2 h3
    rw [hv.drop] at hp
    simp only [fi] at hp
    refine Round.yes (decide_eq_true h3) (Round.at hv.idx (Round.bind (e99 v m) ?_))
    cases hb : !ctOk m v with
    | true =>
      simp only [hb, if_true] at hp
      rw [hp]
      exact Round.yes rfl (Round.done (Evt.some _))
    | false =>
      simp only [hb, Bool.false_eq_true, if_false] at hp
      exact Round.no (by simp) (Round.again _ ⟨(), by rw [wr_succ h2 h3 (by omega)], hp⟩)
  · intro _ hp
    rw [drop_all] at hp
    rw [hp]
    exact Round.no (by simp) (Round.done (Evt.some _))
/- slices.ContainsFunc[[]impl.Cut,impl.Cut]{impl.areCuts$1} -/
theorem e98 (l : List Ct) (m : Int) (hr : RngC l) : Evt (fun n => call T C n 98 (l, ((), m, ()), ())) ((l.any (fun v => !ctOk m v), ()), (((), m, ()), ())) := by
  refine Evt.next (Evt.bind (e133 l m hr) ((Evt.some _).of_eq fun n => ?_)) (fun n => r98 n l ((), m, ()))
  simp only [fi_any _ l 0 (Int.le_refl _)]
  rfl
/- impl.areCuts -/
theorem e58 (l : List Ct) (hr : RngC l) (m : Int) : Evt (fun n => call T C n 58 (l, m, ())) ((okCt l m, ()), ()) := by
  refine Evt.next ?_ (fun n => r58 n l m)
  unfold okCt
  cases decide ((l.length : Int) ≤ 400) with
  | false => exact Evt.no (by simp) (Evt.some _)
  | true =>
    refine Evt.yes rfl (Evt.bind (e98 l m hr) ((Evt.some _).of_eq fun n => ?_))
    have : l.all (ctOk m) = !l.any (fun v => !ctOk m v) := by simp [List.any_eq_not_all_not]
    rw [this]
    rfl
/- impl.ValidCuts -/
theorem e26 (l : List Ct) (K : List (List Int)) (hk : RngS K) (hr : RngC l) : Evt (fun n => call T C n 26 (l, K, ())) ((okCuts l K, ()), ()) := by
  refine Evt.next (Evt.bind (e63 K) ?_) (fun n => r26 n l K)
  unfold okCuts
  cases inR (K.length : Int) 1 8 with
  | false => exact Evt.no (by simp) (Evt.some _)
  | true =>
    refine Evt.yes rfl (Evt.bind (e64 K hk) ?_)
    cases okKs K with
    | false => exact Evt.no (by simp) (Evt.some _)
    | true => exact Evt.yes rfl (Evt.bind (e58 l hr _) (Evt.some _))
/- impl.codeIf -/
theorem e67 (c : Bool) (v : Int) : Evt (fun n => call T C n 67 (c, v, ())) (((if c = true then v else 0), ()), ()) := by
  refine Evt.next ?_ (fun n => r67 n c v)
  cases c with
  | true => exact Evt.yes rfl (Evt.some _)
  | false => exact Evt.no (by simp) (Evt.some _)
/- impl.areOn$1 -/
theorem e124 (v : Ct) (m : Int) : Evt (fun n => call T C n 124 (v, m, ())) ((decide (wr .i64 v.1 ≥ m), ()), (m, ())) := Evt.next (Evt.some _) (fun n => r124 n v m)
/- slices.IndexFunc[[]impl.Cut,impl.Cut]{impl.areOn$1} -/
theorem e1133 (l : List Ct) (m : Int) (hr : RngC l) : Evt (fun n => call T C n 1133 (l, ((), m, ()), ())) ((fi (fun v => decide (wr .i64 v.1 ≥ m)) l 0, ()), (((), m, ()), ())) := by
  have hl : (l.length : Int) ≤ 140737488351232 := by have := hr.len'; omega
  refine Evt.next ?_ (fun n => r1133 n l ((), m, ()))
  refine for_evt' 0 (l.length : Int) (fun i (_ : Unit) => (l, ((), m, ()), (l.length : Int), i, ())) (fun i _ => fi (fun v => decide (wr .i64 v.1 ≥ m)) l 0 = fi (fun v => decide (wr .i64 v.1 ≥ m)) (l.drop i.toNat) i) (b0 := ()) rfl (by omega) (by simp) ?_ ?_
  · intro i _ h2 h3 hp
    obtain ⟨v, hv⟩ := at_of h2 h3
    rw [hv.drop] at hp
    simp only [fi] at hp
    refine Round.yes (decide_eq_true h3) (Round.at hv.idx (Round.bind (e124 v m) ?_))
    cases hb : decide (wr .i64 v.1 ≥ m) with
    | true =>
      simp only [hb, if_true] at hp
      rw [hp]
      exact Round.yes rfl (Round.done (Evt.some _))
    | false =>
      simp only [hb, Bool.false_eq_true, if_false] at hp
      exact Round.no (by simp) (Round.again _ ⟨(), by rw [wr_succ h2 h3 (by omega)], hp⟩)
  · intro _ hp
    rw [drop_all] at hp
    rw [hp]
    exact Round.no (by simp) (Round.done (Evt.some _))
/- slices.ContainsFunc[[]impl.Cut,impl.Cut]{impl.areOn$1} -/
theorem e1098 (l : List Ct) (m : Int) (hr : RngC l) : Evt (fun n => call T C n 1098 (l, ((), m, ()), ())) ((l.any (fun v => decide (wr .i64 v.1 ≥ m)), ()), (((), m, ()), ())) := by
  refine Evt.next (Evt.bind (e1133 l m hr) ((Evt.some _).of_eq fun n => ?_)) (fun n => r1098 n l ((), m, ()))
  simp only [fi_any _ l 0 (Int.le_refl _)]
  rfl
/- impl.areOn -/
theorem e92 (l : List Ct) (hr : RngC l) (m : Int) : Evt (fun n => call T C n 92 (l, m, ())) ((onCt l m, ()), ()) := by
  refine Evt.next (Evt.bind (e1098 l m hr) ((Evt.some _).of_eq fun n => ?_)) (fun n => r92 n l m)
  have : onCt l m = !l.any (fun v => decide (wr .i64 v.1 ≥ m)) := by unfold onCt; rw [List.any_eq_not_all_not]; simp
  rw [this]
  rfl
/- impl.firstCode -/
theorem e65 (l : List Int) (hl : (l.length : Int) ≤ 140737488351232) : Evt (fun n => call T C n 65 (l, ())) ((fst0 l, ()), ()) := by
  refine Evt.next ?_ (fun n => r65 n l)
  refine loop_evt (fun (x : List Int × Int × Int × Unit) => x.1 = l ∧ x.2.1 = (l.length : Int) ∧ 0 ≤ x.2.2.1 ∧ x.2.2.1 ≤ (l.length : Int) ∧ fst0 l = fst0 (l.drop x.2.2.1.toNat)) (fun (x : List Int × Int × Int × Unit) => ((l.length : Int) - x.2.2.1).toNat) (x := (l, (l.length : Int), 0, ())) ⟨rfl, rfl, Int.le_refl _, by simp, by simp⟩ ?_
  rintro ⟨x1, m, i, _⟩ ⟨h', hm, h0, h1, h2⟩
  simp only at h' hm h0 h1 h2
  subst h'; subst hm
  refine Round.ite (fun hlt => ?_) (fun hge => ?_)
  · have hlt : i < (x1.length : Int) := of_decide_eq_true hlt
    obtain ⟨v, hv, hv'⟩ := idx_at h0 hlt
    have hd := drop_cons hv'
    refine Round.at hv (Round.ite (fun hb => ?_) (fun hb => ?_))
    · have hb : v ≠ 0 := by simpa using hb
      have h3 : fst0 x1 = v := by rw [h2, hd]; simp [fst0, hb]
      rw [h3]
      exact Round.done (Evt.some _)
    · have hb : v = 0 := by simpa using hb
      have hw : wr .i64 (i + 1) = i + 1 := wrap_id (by omega) (by omega)
      refine Round.again _ ⟨⟨rfl, rfl, ?_, ?_, ?_⟩, ?_⟩ <;> simp only [hw]
      · omega
      · omega
      · rw [h2, hd, show (i + 1).toNat = i.toNat + 1 by omega]
        simp [fst0, hb]
      · omega
  · have hge : ¬ i < (x1.length : Int) := by simpa using hge
    have : x1.drop i.toNat = [] := List.drop_of_length_le (by omega)
    rw [h2, this]
    exact Round.done (Evt.some _)
/- impl.cutsCode -/
theorem e52 (c : List Int) (K : List (List Int)) (l : List Ct) (hc : Rng c) (hk : RngS K) (hr : RngC l) : Evt (fun n => call T C n 52 (c, K, l, ())) ((gvCode c K l, ()), ()) := by
  have hcl := hc.len'
  refine Evt.next (Evt.bind (e81 c (by omega)) ?_) (fun n => r52 n c K l)
  unfold gvCode
  cases okC c with
  | false =>
    refine Evt.yes rfl (Evt.bind (e67 _ _) (Evt.bind (e79 c) (Evt.bind (e92 l hr _) (Evt.bind (e67 _ _) (Evt.bind (e65 _ (by simp)) ((Evt.some _).of_eq fun n => ?_))))))
    simp [fst0]
    rfl
  | true =>
    refine Evt.no (by simp) (Evt.bind (e26 l K hk hr) (Evt.bind (e67 _ _) (Evt.bind (e79 c) (Evt.bind (e92 l hr _) (Evt.bind (e67 _ _) (Evt.bind (e65 _ (by simp)) ((Evt.some _).of_eq fun n => ?_)))))))
    cases okCuts l K <;> cases onCt l c.length <;> simp [fst0] <;> rfl
/- slices.Clone[impl.Cam,int16] -/
theorem e53 (l : List Int) (h0 : l.length ≠ 0) (hl : (l.length : Int) ≤ 1000000) : Evt (fun n => call T C n 53 (l, ())) ((l, ()), ()) :=
  Evt.next (Evt.yes (decide_eq_true h0) (Evt.chk (by simp; omega) (Evt.some _))) (fun n => r53 n l)
/- impl.floorDiv -/
theorem e137 {a b : Int} (hb : 0 < b) (h1 : -4500000000000000000 ≤ a) (h2 : a ≤ 4500000000000000000) : Evt (fun n => call T C n 137 (a, b, ())) ((a / b, ()), ()) := by
  have hbd := ediv_bd hb h1 h2 (by omega)
  have he := floorDiv_eq (a := a) hb
  refine Evt.next (Evt.chk (bne_pos hb) (Evt.chk (bne_pos hb) (Evt.ite (fun h => ?_) (fun h => ?_)))) (fun n => r137 n a b)
  · have h : Int.tmod a b < 0 := of_decide_eq_true h
    rw [if_pos h] at he
    refine (Evt.some _).of_eq fun n => ?_
    rw [wrap_id (x := Int.tdiv a b) (by omega) (by omega), wrap_id (by omega) (by omega), he]
    rfl
  · have h : ¬ Int.tmod a b < 0 := by simpa using h
    rw [if_neg h] at he
    refine (Evt.some _).of_eq fun n => ?_
    rw [wrap_id (x := Int.tdiv a b) (by omega) (by omega), he]
    rfl
/- impl.mod -/
theorem e107 {a b : Int} (hb : 0 < b) (hb' : b ≤ 1000000000000) (h1 : -1000000000000 ≤ a) (h2 : a ≤ 1000000000000) : Evt (fun n => call T C n 107 (a, b, ())) ((a % b, ()), ()) := by
  have hd := Int.emod_def a b
  have h3 := Int.emod_nonneg a (show b ≠ 0 by omega)
  have h4 := Int.emod_lt_of_pos a hb
  refine Evt.next (Evt.bind (e137 hb (by omega) (by omega)) ((Evt.some _).of_eq fun n => ?_)) (fun n => r107 n a b)
  simp only
  rw [wrap_id (x := b * (a / b)) (by omega) (by omega), ← hd, wrap_id (by omega) (by omega)]
  rfl
/- (impl.Cam).cut$1 -/
theorem e106 {o : List Int} (h0 : 0 < o.length) (h1 : o.length ≤ 1000) (ho : ∀ v ∈ o, 0 ≤ v ∧ v ≤ 10000) {x y t z : Int} (hx : -4000000 ≤ x) (hx' : x ≤ 4000000) (hy : 0 ≤ y) (hy' : y ≤ 10000) (ht : 0 ≤ t) (ht' : t ≤ 1000000) (hz : 0 ≤ z) (hz' : z ≤ 1000000) :
    Evt (fun n => call T C n 106 (x, y, o, t, z, ())) ((), (if g o (x % (o.length : Int)).toNat > t + y then o.set (x % (o.length : Int)).toNat (t + y) else o), t, (if g o (x % (o.length : Int)).toNat > t + y then z + (g o (x % (o.length : Int)).toNat - (t + y)) else z), ()) := by
  have hp := Int.emod_nonneg x (show (o.length : Int) ≠ 0 by omega)
  have hq := Int.emod_lt_of_pos x (show 0 < (o.length : Int) by omega)
  have hv := g_idx (l := o) (i := x % o.length) hp hq
  have hb := ho _ hv.mem
  refine Evt.next (Evt.bind (e79 o) (Evt.bind (e107 (a := x) (show 0 < (o.length : Int) by omega) (by omega) (by omega) (by omega)) (Evt.chk (decide_eq_true ⟨hp, hq⟩) (Evt.at hv.get ?_)))) (fun n => r106 n x y o t z)
  simp only [wrap_id (x := g o (x % (o.length : Int)).toNat) (by omega) (by omega), wrap_id (x := t + y) (by omega) (by omega)]
  refine Evt.ite (fun hc => ?_) (fun hc => ?_)
  · have hc : g o (x % (o.length : Int)).toNat > t + y := of_decide_eq_true hc
    refine Evt.chk (decide_eq_true ⟨hp, hq⟩) (Evt.at hv.get (Evt.chk (decide_eq_true ⟨hp, hq⟩) (Evt.at hv.get ?_)))
    rw [if_pos hc, if_pos hc]
    simp only [wrap_id (x := g o (x % (o.length : Int)).toNat) (by omega) (by omega), wrap_id (x := g o (x % (o.length : Int)).toNat - (t + y)) (by omega) (by omega), wrap_id (x := z + (g o (x % (o.length : Int)).toNat - (t + y))) (by omega) (by omega), wrap16 (x := t + y) (by omega) (by omega)]
    exact Evt.some _
  · have hc : ¬ g o (x % (o.length : Int)).toNat > t + y := by simpa using hc
    rw [if_neg hc, if_neg hc]
    exact Evt.some _
/- (impl.Cutter).each{(impl.Cam).cut$1} -/
theorem e105 {o k : List Int} (hk : Rng k) (hl0 : 0 < o.length) (hl1 : o.length ≤ 1000) (ho : ∀ v ∈ o, 0 ≤ v ∧ v ≤ 10000) (G : GoodK k) {s t : Int} (h0 : 0 ≤ s) (h1 : s ≤ 1000000) (t0 : 0 ≤ t) (t1 : t ≤ 1000000) : Evt (fun n => call T C n 105 (k, s, ((), o, t, 0, ()), ())) ((), (((), (cutTo k s t o k.length).1, t, (cutTo k s t o k.length).2, ()), ())) := by
  have hd : Int.tdiv (k.length : Int) 2 = ((k.length / 2 : Nat) : Int) := by rw [show (2 : Int) = ((2 : Nat) : Int) from rfl, ← Int.ofNat_tdiv]
  have hhi := G.hi
  refine Evt.next (Evt.chk rfl ?_) (fun n => r105 n k s ((), o, t, 0, ()))
  rw [hd, wrap_id (x := ((k.length / 2 : Nat) : Int)) (by omega) (by omega)]
  refine for_evt' 0 (k.length : Int) (fun i (_ : Unit) => (s, ((), ((cutTo k s t o i.toNat).1, (t, ((cutTo k s t o i.toNat).2, ())))), ((k.length / 2 : Nat) : Int), k, (k.length : Int), i, ())) (fun _ _ => True) (b0 := ()) rfl (by omega) trivial ?_ ?_
  · intro i _ h2 h3 _
    obtain ⟨a, rfl⟩ : ∃ a : Nat, i = a := ⟨i.toNat, by omega⟩
    have hai := g_idx (l := k) (i := (a : Int)) (by omega) (by omega)
    rw [Int.toNat_natCast] at hai
    have hka := G.el a (by omega)
    obtain ⟨b1, b2, b3⟩ := cutTo_bd k s hl0 t0 (fun i hi => (G.el i hi).1) ho a (by omega)
    have hlen := cutTo_len k s t o a
    simp only [Int.toNat_natCast, wr_succ h2 h3 (by omega), wrap_id (x := s + (a : Int)) (by omega) (by omega), wrap_id (x := s + (a : Int) - ((k.length / 2 : Nat) : Int)) (by omega) (by omega)]
    refine Round.yes (decide_eq_true h3) (Round.at hai.idx ?_)
    simp only [hk.id hai.mem]
    refine Round.bind (e106 (by omega) (by omega) b1 (by omega) (by omega) hka.1 hka.2 t0 t1 b2 (by omega)) (Round.again _ ⟨(), ?_, trivial⟩)
    rw [show ((a : Int) + 1).toNat = a + 1 by omega, cutTo_succ, hlen]
    show _ = (s, ((), ((if g (cutTo k s t o a).1 ((s + (a : Int) - ((k.length / 2 : Nat) : Int)) % (o.length : Int)).toNat > t + g k a then _ else _ : List Int × Int).1, (t, ((if g (cutTo k s t o a).1 ((s + (a : Int) - ((k.length / 2 : Nat) : Int)) % (o.length : Int)).toNat > t + g k a then _ else _ : List Int × Int).2, ())))), _)
    by_cases hc : g (cutTo k s t o a).1 ((s + (a : Int) - ((k.length / 2 : Nat) : Int)) % (o.length : Int)).toNat > t + g k a
    · simp only [if_pos hc]
      rfl
    · simp only [if_neg hc]
  · intro _ _
    simp only [Int.toNat_natCast]
    exact Round.no (by simp) (Round.done (Evt.some _))
/- (impl.Cam).cut -/
theorem e70 {o k : List Int} (hk : Rng k) (hl0 : 0 < o.length) (hl1 : o.length ≤ 1000) (ho : ∀ v ∈ o, 0 ≤ v ∧ v ≤ 10000) (G : GoodK k) {s t : Int} (h0 : 0 ≤ s) (h1 : s ≤ 1000000) (t0 : 0 ≤ t) (t1 : t ≤ 1000000) : Evt (fun n => call T C n 70 (o, k, s, t, ())) (((cutTo k s t o k.length).2, ()), ((cutTo k s t o k.length).1, ())) :=
  Evt.next (Evt.bind (e105 hk hl0 hl1 ho G h0 h1 t0 t1) (Evt.some (((cutTo k s t o k.length).2, ()), ((cutTo k s t o k.length).1, ())))) (fun n => r70 n o k s t)
/- (impl.Cam).do -/
theorem e54 {m : Nat} {o : List Int} {K : List (List Int)} {l : List Ct} (hk : RngS K) (hr : RngC l) (G : GoodL m K l) (S : Surf m o) {v : Ct} (hv : v ∈ l) : Evt (fun n => call T C n 54 (o, K, v, ())) (((cut1 K v o).2, ()), ((cut1 K v o).1, ())) := by
  obtain ⟨g1, g2, g3⟩ := G.el v hv
  obtain ⟨k, hk'⟩ := at_of (l := K) g3.1 g3.2
  have e : kOf K v = k := getD_at hk'
  have m0 := G.m0
  have m1 := G.m1
  have hol := S.len
  refine Evt.next (Evt.at hk'.idx ?_) (fun n => r54 n o K v)
  simp only [hr.i1 hv, hr.i2 hv]
  have e2 : cut1 K v o = cutTo k v.1 v.2.1 o k.length := by unfold cut1; rw [e]
  rw [e2]
  exact Evt.bind (e70 (hk.el k hk'.mem) (by omega) (by omega) S.el ((goodKs hk G.hk).el k hk'.mem) g1.1 (by omega) g2.1 (by omega)) (Evt.some _)
/- impl.DoCuts -/
theorem e20 (c : List Int) (K : List (List Int)) (l : List Ct) (hc : Rng c) (hk : RngS K) (hr : RngC l) : Evt (fun n => call T C n 20 (c, K, l, ())) (doR c K l, ()) := by
  refine Evt.next (Evt.bind (e52 c K l hc hk hr) ?_) (fun n => r20 n c K l)
  unfold doR
  refine Evt.ite (fun h => ?_) (fun h => ?_)
  · rw [if_pos (by simpa using h)]; exact Evt.some _
  have h : gvCode c K l = 0 := by simpa using h
  rw [if_neg (by simpa using h)]
  have G := goodG hr h
  have hcl := okC_len G.hc
  have S := okC_surf hc G.hc
  have GL := G.toL
  have hl := G.l
  refine Evt.bind (e53 c (by omega) (by omega)) ?_
  refine for_evt' 0 (l.length : Int) (fun i (_ : Unit) => (K, (doF K (l.take i.toNat) c).1, (doF K (l.take i.toNat) c).2, l, (l.length : Int), i, ())) (fun _ _ => True) (b0 := ()) (by simp [doF]) (by omega) trivial ?_ ?_
  · intro i _ h2 h3 _
    obtain ⟨v, hv⟩ := at_of h2 h3
    obtain ⟨S1, b1, b2, _⟩ := doF_surf hk GL S i.toNat
    obtain ⟨S2, c1, c2, _⟩ := cut1_surf hk GL hv.mem S1
    refine Round.yes (decide_eq_true h3) (Round.at hv.idx (Round.bind (e54 hk hr GL S1 hv.mem) (Round.again _ ⟨(), ?_, trivial⟩)))
    rw [hv.take, doF_snoc, wr_succ h2 h3 (by omega), wrap_id (x := (doF K (l.take i.toNat) c).2 + (cut1 K v (doF K (l.take i.toNat) c).1).2) (by omega) (by omega)]
  · intro _ _
    simp only [take_all]
    exact Round.no (by simp) (Round.done (Evt.some _))
/- spec.l01Steps -/
theorem e110 (a : Int) : Evt (fun n => call T C n 110 (a, ())) ((inR a 8 360, ()), ()) := Evt.next (Evt.bind (e85 a 8 360) (Evt.some _)) (fun n => r110 n a)
/- spec.l01Lift -/
theorem e108 (a : Int) : Evt (fun n => call T C n 108 (a, ())) ((inR a 0 10000, ()), ()) := Evt.next (Evt.bind (e85 a 0 10000) (Evt.some _)) (fun n => r108 n a)
/- spec.l01Ok -/
theorem e73 (l : List Int) (hl : (l.length : Int) ≤ 140737488351232) : Evt (fun n => call T C n 73 (l, ())) ((okC l, ()), ()) := by
  refine Evt.next ?_ (fun n => r73 n l)
  refine Evt.bind (e110 _) ?_
  refine Evt.ite (fun h => ?_) (fun h => ?_)
  · refine (Evt.some _).of_eq fun n => ?_
    have h : inR (l.length : Int) 8 360 = false := by simpa using h
    simp [okC, h]
    rfl
  · have h : inR (l.length : Int) 8 360 = true := by simpa using h
    have he : okC l = l.all okV := by simp [okC, h]
    rw [he]
    refine loop_evt (fun (x : List Int × Int × Unit) => x.1 = l ∧ 0 ≤ x.2.1 ∧ x.2.1 ≤ (l.length : Int) ∧ l.all okV = (l.drop x.2.1.toNat).all okV) (fun (x : List Int × Int × Unit) => ((l.length : Int) - x.2.1).toNat) (x := (l, 0, ())) ⟨rfl, Int.le_refl _, by simp, by simp⟩ ?_
    rintro ⟨x1, i, _⟩ ⟨h', h0, h1, h2⟩
    simp only at h' h0 h1 h2
    subst h'
    refine Round.ite (fun hlt => ?_) (fun hge => ?_)
    · have hlt : i < (x1.length : Int) := of_decide_eq_true hlt
      obtain ⟨v, hv, hv'⟩ := idx_at h0 hlt
      have hd := drop_cons hv'
      refine Round.at hv (Round.bind (e108 _) (Round.ite (fun hb => ?_) (fun hb => ?_)))
      · have hb : okV v = false := by simpa [okV] using hb
        have h3 : x1.all okV = false := by rw [h2, hd]; simp [hb]
        rw [h3]
        exact Round.done (Evt.some _)
      · have hb : okV v = true := by simpa [okV] using hb
        have hw : wr .i64 (i + 1) = i + 1 := wrap_id (by omega) (by omega)
        refine Round.again _ ⟨⟨rfl, ?_, ?_, ?_⟩, ?_⟩ <;> simp only [hw]
        · omega
        · omega
        · rw [h2, hd, show (i + 1).toNat = i.toNat + 1 by omega]
          simp [hb]
        · omega
    · have hge : ¬ i < (x1.length : Int) := by simpa using hge
      have : x1.drop i.toNat = [] := List.drop_of_length_le (by omega)
      rw [h2, this]
      exact Round.done (Evt.some _)
/- spec.l06Some -/
theorem e125 (K : List (List Int)) : Evt (fun n => call T C n 125 (K, ())) ((inR (K.length : Int) 1 8, ()), ()) := Evt.next (Evt.bind (e85 _ _ _) (Evt.some _)) (fun n => r125 n K)
/- spec.l06Ok -/
theorem e151 (k : List Int) (hr : Rng k) : Evt (fun n => call T C n 151 (k, ())) ((okK k, ()), ()) := by
  have hl := hr.len'
  refine Evt.next (Evt.bind (e85 _ _ _) ?_) (fun n => r151 n k)
  unfold okK
  cases h1 : inR (k.length : Int) 1 31 with
  | false => exact Evt.yes rfl (Evt.some _)
  | true =>
    have hb := inR_iff.1 h1
    have hm : Int.tmod (k.length : Int) 2 = ((k.length % 2 : Nat) : Int) := by rw [show (2 : Int) = ((2 : Nat) : Int) from rfl, ← Int.ofNat_tmod]
    have hd : Int.tdiv (k.length : Int) 2 = ((k.length / 2 : Nat) : Int) := by rw [show (2 : Int) = ((2 : Nat) : Int) from rfl, ← Int.ofNat_tdiv]
    rw [hm, hd, wrap_id (x := ((k.length / 2 : Nat) : Int)) (by omega) (by omega)]
    refine Evt.no (by simp) (Evt.chk rfl (Evt.ite (fun h => ?_) (fun h => ?_)))
    · have h : k.length % 2 = 0 := by
        have h' : (k.length : Int) % 2 = 0 := by simpa using h
        omega
      have e : decide (k.length % 2 = 1) = false := decide_eq_false (by omega)
      rw [e]; exact Evt.some _
    · have h : k.length % 2 = 1 := by
        have h' : ¬ (k.length : Int) % 2 = 0 := by simpa using h
        omega
      have e : decide (k.length % 2 = 1) = true := decide_eq_true h
      rw [e]
      have hmid := g_idx (l := k) (i := ((k.length / 2 : Nat) : Int)) (by omega) (by omega)
      rw [Int.toNat_natCast] at hmid
      refine Evt.chk rfl (Evt.at hmid.idx (Evt.ite (fun h0 => ?_) (fun h0 => ?_)))
      · have h0 : (g k (k.length / 2) == 0) = false := by simpa using h0
        rw [h0]; exact Evt.some _
      · have h0 : (g k (k.length / 2) == 0) = true := by simpa using h0
        rw [h0]
        simp only [Bool.true_and]
        refine for_evt' 0 (((k.length / 2 : Nat) : Int) + 1) (fun i (_ : Unit) => (k, (k.length : Int), i, ())) (fun i _ => allTo (kOne k) i.toNat = true) (b0 := ()) rfl (by omega) (by rfl) ?_ ?_
        · intro i _ h2 h3 hp
          obtain ⟨a, rfl⟩ : ∃ a : Nat, i = a := ⟨i.toNat, by omega⟩
          rw [Int.toNat_natCast] at hp
          have h3' : a < k.length / 2 + 1 := by omega
          have hai := g_idx (l := k) (i := (a : Int)) (by omega) (by omega)
          have haj := g_idx (l := k) (i := (k.length : Int) - 1 - a) (by omega) (by omega)
          rw [Int.toNat_natCast] at hai
          rw [show ((k.length : Int) - 1 - a).toNat = k.length - 1 - a by omega] at haj
          have bad : kOne k a = false → allTo (kOne k) (k.length / 2 + 1) = false := allTo_false h3'
          simp only [hd, wrap_id (x := ((k.length / 2 : Nat) : Int)) (by omega) (by omega), wrap_id (x := (a : Int) + 1) (by omega) (by omega), wrap_id (x := (a : Int) - 1) (by omega) (by omega), wrap_id (x := (k.length : Int) - 1) (by omega) (by omega), wrap_id (x := (k.length : Int) - 1 - (a : Int)) (by omega) (by omega)]
          refine Round.chk rfl (Round.yes (decide_eq_true (by omega)) (Round.at hai.idx (Round.bind (e108 _) (Round.ite (fun c1 => ?_) (fun c1 => ?_)))))
          · have c1 : inR (wr .i64 (g k a)) 0 10000 = false := by simpa using c1
            rw [bad (by simp [kOne, c1])]
            exact Round.done (Evt.some _)
          have c1 : inR (wr .i64 (g k a)) 0 10000 = true := by simpa using c1
          refine Round.at haj.idx (Round.at hai.idx (Round.ite (fun c2 => ?_) (fun c2 => ?_)))
          · have c2 : (g k (k.length - 1 - a) == g k a) = false := by simpa using c2
            rw [bad (by simp [kOne, c2])]
            exact Round.done (Evt.some _)
          have c2 : (g k (k.length - 1 - a) == g k a) = true := by simpa using c2
          have again : kOne k a = true → ∃ b' : Unit, ((k, (k.length : Int), (a : Int) + 1, ()) : List Int × Int × Int × Unit) = (k, (k.length : Int), (a : Int) + 1, ()) ∧ allTo (kOne k) ((a : Int) + 1).toNat = true := fun h => ⟨(), rfl, by rw [show ((a : Int) + 1).toNat = a + 1 by omega, allTo_succ, hp, h]; rfl⟩
          refine Round.ite (fun c3 => ?_) (fun c3 => ?_)
          · have c3 : (a : Int) > 0 := of_decide_eq_true c3
            have hab := g_idx (l := k) (i := (a : Int) - 1) (by omega) (by omega)
            rw [show ((a : Int) - 1).toNat = a - 1 by omega] at hab
            refine Round.at hab.idx (Round.at hai.idx (Round.ite (fun c4 => ?_) (fun c4 => ?_)))
            · have c4 : g k (a - 1) < g k a := by simpa using c4
              rw [bad (by simp [kOne, c4]; omega)]
              exact Round.done (Evt.some _)
            · have c4 : ¬ g k (a - 1) < g k a := by simpa using c4
              exact Round.again _ (again (by simp only [kOne, c1, c2]; simp; omega))
          · have c3 : ¬ (a : Int) > 0 := by simpa using c3
            exact Round.no (by simp) (Round.again _ (again (by simp only [kOne, c1, c2]; simp; omega)))
        · intro _ hp
          have hp : allTo (kOne k) (k.length / 2 + 1) = true := by
            rw [show (((k.length / 2 : Nat) : Int) + 1).toNat = k.length / 2 + 1 by omega] at hp; exact hp
          rw [hp]
          simp only [hd, wrap_id (x := ((k.length / 2 : Nat) : Int)) (by omega) (by omega)]
          exact Round.chk rfl (Round.no (by simp; omega) (Round.done (Evt.some _)))
/- spec.l06Cutters -/
theorem e126 (K : List (List Int)) (hr : RngS K) : Evt (fun n => call T C n 126 (K, ())) ((okKs K, ()), ()) := by
  have hl := hr.len'
  refine Evt.next ?_ (fun n => r126 n K)
  refine for_evt' 0 (K.length : Int) (fun i (_ : Unit) => (K, i, ())) (fun i _ => okKs K = (K.drop i.toNat).all okK) (b0 := ()) rfl (by omega) (by simp [okKs]) ?_ ?_
  · intro i _ h2 h3 hp
    obtain ⟨v, hv⟩ := at_of h2 h3
    rw [hv.drop, List.all_cons] at hp
    refine Round.yes (decide_eq_true h3) (Round.at hv.idx (Round.bind (e151 v (hr.el v hv.mem)) ?_))
    cases hb : okK v with
    | false => rw [hp, hb]; exact Round.yes rfl (Round.done (Evt.some _))
    | true =>
      rw [hb, Bool.true_and] at hp
      exact Round.no (by simp) (Round.again _ ⟨(), by rw [wr_succ h2 h3 (by omega)], hp⟩)
  · intro _ hp
    rw [drop_all] at hp
    rw [hp]
    exact Round.no (by simp) (Round.done (Evt.some _))
/- spec.l06Plain -/
theorem e127 (l : List Ct) (m : Int) : Evt (fun n => call T C n 127 (l, m, ())) ((okCt l m, ()), ()) := by
  refine Evt.next ?_ (fun n => r127 n l m)
  unfold okCt
  refine Evt.ite (fun h => ?_) (fun h => ?_)
  · have h : (l.length : Int) > 400 := of_decide_eq_true h
    rw [decide_eq_false (show ¬ (l.length : Int) ≤ 400 by omega)]
    exact Evt.some _
  have h : ¬ (l.length : Int) > 400 := by simpa using h
  rw [decide_eq_true (show (l.length : Int) ≤ 400 by omega)]
  simp only [Bool.true_and]
  refine for_evt' 0 (l.length : Int) (fun i (_ : Unit) => (l, m, i, ())) (fun i _ => l.all (ctOk m) = (l.drop i.toNat).all (ctOk m)) (b0 := ()) rfl (by omega) (by simp) ?_ ?_
  · intro i _ h2 h3 hp
    obtain ⟨v, hv⟩ := at_of h2 h3
    have bad : ctOk m v = false → l.all (ctOk m) = false := all_false hv.mem
    rw [hv.drop, List.all_cons] at hp
    refine Round.yes (decide_eq_true h3) (Round.at hv.idx (Round.bind (e85 _ _ _) ?_))
    cases c1 : inR (wr .i64 v.1) 0 359 with
    | false => rw [bad (by simp [ctOk, c1])]; exact Round.yes rfl (Round.done (Evt.some _))
    | true =>
      refine Round.no (by simp) (Round.bind (e108 _) ?_)
      cases c2 : inR (wr .i64 v.2.1) 0 10000 with
      | false => rw [bad (by simp [ctOk, c2])]; exact Round.yes rfl (Round.done (Evt.some _))
      | true =>
        refine Round.no (by simp) (Round.bind (e85 _ _ _) ?_)
        cases c3 : inR (wr .i64 v.2.2.1) 0 (wr .i64 (m - 1)) with
        | false => rw [bad (by simp [ctOk, c3])]; exact Round.yes rfl (Round.done (Evt.some _))
        | true =>
          have : ctOk m v = true := by simp [ctOk, c1, c2, c3]
          rw [this, Bool.true_and] at hp
          exact Round.no (by simp) (Round.again _ ⟨(), by rw [wr_succ h2 h3 (by omega)], hp⟩)
  · intro _ hp
    rw [drop_all] at hp
    rw [hp]
    exact Round.no (by simp) (Round.done (Evt.some _))
/- spec.l06Cuts -/
theorem e93 (l : List Ct) (K : List (List Int)) (hk : RngS K) : Evt (fun n => call T C n 93 (l, K, ())) ((okCuts l K, ()), ()) := by
  refine Evt.next (Evt.bind (e125 K) ?_) (fun n => r93 n l K)
  unfold okCuts
  cases inR (K.length : Int) 1 8 with
  | false => exact Evt.no (by simp) (Evt.some _)
  | true =>
    refine Evt.yes rfl (Evt.bind (e126 K hk) ?_)
    cases okKs K with
    | false => exact Evt.no (by simp) (Evt.some _)
    | true => exact Evt.yes rfl (Evt.bind (e127 l _) (Evt.some _))
/- spec.l06On -/
theorem e94 (l : List Ct) (hr : RngC l) (m : Int) : Evt (fun n => call T C n 94 (l, m, ())) ((onCt l m, ()), ()) := by
  have hl := hr.len'
  refine Evt.next ?_ (fun n => r94 n l m)
  refine for_evt' 0 (l.length : Int) (fun i (_ : Unit) => (l, m, i, ())) (fun i _ => onCt l m = onCt (l.drop i.toNat) m) (b0 := ()) rfl (by omega) (by simp) ?_ ?_
  · intro i _ h2 h3 hp
    obtain ⟨v, hv⟩ := at_of h2 h3
    rw [hv.drop] at hp
    simp only [onCt, List.all_cons] at hp
    refine Round.yes (decide_eq_true h3) (Round.at hv.idx (Round.ite (fun hb => ?_) (fun hb => ?_)))
    · have e : onCt l m = false := by unfold onCt; rw [hp, hb]; rfl
      rw [e]; exact Round.done (Evt.some _)
    · have hb : decide (wr .i64 v.1 ≥ m) = false := by simpa using hb
      refine Round.again _ ⟨(), by rw [wr_succ h2 h3 (by omega)], ?_⟩
      unfold onCt
      rw [hp, hb]; rfl
  · intro _ hp
    rw [drop_all] at hp
    rw [hp]
    exact Round.no (by simp) (Round.done (Evt.some _))
/- spec.l06Given -/
theorem e55 (c : List Int) (K : List (List Int)) (l : List Ct) (hc : Rng c) (hk : RngS K) (hr : RngC l) : Evt (fun n => call T C n 55 (c, K, l, ())) ((gvCode c K l, ()), ()) := by
  have hcl := hc.len'
  refine Evt.next (Evt.bind (e73 c (by omega)) ?_) (fun n => r55 n c K l)
  unfold gvCode
  cases okC c with
  | false => exact Evt.yes rfl (Evt.some _)
  | true =>
    refine Evt.no (by simp) (Evt.bind (e93 l K hk) ?_)
    cases okCuts l K with
    | false => exact Evt.yes rfl (Evt.some _)
    | true =>
      refine Evt.no (by simp) (Evt.bind (e94 l hr _) ?_)
      cases onCt l c.length with
      | false => exact Evt.yes rfl (Evt.some _)
      | true => exact Evt.no (by simp) (Evt.some _)
/- spec.l06Cut -/
theorem e95 {o k : List Int} (hk : Rng k) (hl0 : 0 < o.length) (hl1 : o.length ≤ 1000) (ho : ∀ v ∈ o, 0 ≤ v ∧ v ≤ 10000) (G : GoodK k) {s t : Int} (h0 : 0 ≤ s) (h1 : s ≤ 1000000) (t0 : 0 ≤ t) (t1 : t ≤ 1000000) : Evt (fun n => call T C n 95 (o, k, s, t, ())) (((cutTo k s t o k.length).1, (cutTo k s t o k.length).2, ()), ()) := by
  have hd : Int.tdiv (k.length : Int) 2 = ((k.length / 2 : Nat) : Int) := by rw [show (2 : Int) = ((2 : Nat) : Int) from rfl, ← Int.ofNat_tdiv]
  have hlo := G.lo
  have hhi := G.hi
  have hodd := G.odd
  refine Evt.next (Evt.chk (by simp; omega) (Evt.chk rfl ?_)) (fun n => r95 n o k s t)
  rw [hd, wrap_id (x := ((k.length / 2 : Nat) : Int)) (by omega) (by omega), wrap_id (x := 0 - ((k.length / 2 : Nat) : Int)) (by omega) (by omega)]
  refine for_evt' 0 (k.length : Int) (fun i (_ : Unit) => (k, s, t, (cutTo k s t o i.toNat).1, (o.length : Int), ((k.length / 2 : Nat) : Int), (cutTo k s t o i.toNat).2, i - ((k.length / 2 : Nat) : Int), ())) (fun _ _ => True) (b0 := ()) (by simp [cutTo]) (by omega) trivial ?_ ?_
  · intro i _ h2 h3 _
    obtain ⟨a, rfl⟩ : ∃ a : Nat, i = a := ⟨i.toNat, by omega⟩
    have hai := g_idx (l := k) (i := (a : Int)) (by omega) (by omega)
    rw [Int.toNat_natCast] at hai
    have hka := G.el a (by omega)
    obtain ⟨b1, b2, b3⟩ := cutTo_bd k s hl0 t0 (fun i hi => (G.el i hi).1) ho a (by omega)
    have hlen := cutTo_len k s t o a
    have hpl := place_lt k s hl0 a
    have hplace : ((place k s o.length a : Nat) : Int) = (s + (a : Int) - ((k.length / 2 : Nat) : Int)) % (o.length : Int) := by
      have := Int.emod_nonneg (s + (a : Int) - ((k.length / 2 : Nat) : Int)) (show (o.length : Int) ≠ 0 by omega)
      unfold place half
      omega
    have hat := g_idx (l := (cutTo k s t o a).1) (i := ((place k s o.length a : Nat) : Int)) (by omega) (by omega)
    rw [Int.toNat_natCast] at hat
    have hv := b1 _ (g_mem (l := (cutTo k s t o a).1) (i := place k s o.length a) (by omega))
    have hget : (cutTo k s t o a).1[place k s o.length a]? = some (g (cutTo k s t o a).1 (place k s o.length a)) := by have := hat.get; rwa [Int.toNat_natCast] at this
    have hat2 : Int.tmod (wr .i64 (Int.tmod (s + (a : Int) - ((k.length / 2 : Nat) : Int)) (o.length : Int) + (o.length : Int))) (o.length : Int) = ((place k s o.length a : Nat) : Int) := by
      rw [hplace]; exact turn_at (by omega) (by omega) (by omega) (by omega)
    simp only [Int.toNat_natCast, wrap_id (x := s + (a : Int) - ((k.length / 2 : Nat) : Int)) (by omega) (by omega), wrap_id (x := s + ((a : Int) - ((k.length / 2 : Nat) : Int))) (by omega) (by omega), show s + ((a : Int) - ((k.length / 2 : Nat) : Int)) = s + (a : Int) - ((k.length / 2 : Nat) : Int) by omega, hat2, show ((k.length / 2 : Nat) : Int) + ((a : Int) - ((k.length / 2 : Nat) : Int)) = a by omega, wrap_id (x := (a : Int)) (by omega) (by omega), wrap_id (x := (a : Int) - ((k.length / 2 : Nat) : Int) + 1) (by omega) (by omega)]
    refine Round.yes (decide_eq_true (by omega)) (Round.chk (bne_pos (by omega)) (Round.chk (bne_pos (by omega)) (Round.at hai.idx ?_)))
    simp only [hk.id (g_mem (l := k) (i := a) (by omega)), wrap_id (x := t + g k a) (by omega) (by omega)]
    refine Round.chk (decide_eq_true ⟨by omega, by omega⟩) (Round.at hget ?_)
    simp only [wrap_id (x := g (cutTo k s t o a).1 (place k s o.length a)) (by omega) (by omega)]
    refine Round.ite (fun hc => ?_) (fun hc => ?_)
    · have hc : g (cutTo k s t o a).1 (place k s o.length a) > t + g k a := of_decide_eq_true hc
      refine Round.chk (decide_eq_true ⟨by omega, by omega⟩) (Round.at hget (Round.chk (decide_eq_true ⟨by omega, by omega⟩) (Round.at hget (Round.again _ ⟨(), ?_, trivial⟩))))
      rw [show ((a : Int) + 1).toNat = a + 1 by omega, cutTo_succ, if_pos hc, wrap16 (x := t + g k a) (by omega) (by omega), wrap_id (x := g (cutTo k s t o a).1 (place k s o.length a)) (by omega) (by omega), wrap_id (x := g (cutTo k s t o a).1 (place k s o.length a) - (t + g k a)) (by omega) (by omega), wrap_id (x := (cutTo k s t o a).2 + (g (cutTo k s t o a).1 (place k s o.length a) - (t + g k a))) (by omega) (by omega)]
      rw [show (a : Int) - ((k.length / 2 : Nat) : Int) + 1 = (a : Int) + 1 - ((k.length / 2 : Nat) : Int) by omega]
    · have hc : ¬ g (cutTo k s t o a).1 (place k s o.length a) > t + g k a := by simpa using hc
      refine Round.again _ ⟨(), ?_, trivial⟩
      rw [show ((a : Int) + 1).toNat = a + 1 by omega, cutTo_succ, if_neg hc]
      rw [show (a : Int) - ((k.length / 2 : Nat) : Int) + 1 = (a : Int) + 1 - ((k.length / 2 : Nat) : Int) by omega]
  · intro _ _
    simp only [Int.toNat_natCast]
    exact Round.no (by simp; omega) (Round.done (Evt.some _))
/- spec.l06Do -/
theorem e56 {m : Nat} {o : List Int} {K : List (List Int)} {l : List Ct} (hk : RngS K) (hr : RngC l) (G : GoodL m K l) (S : Surf m o) : Evt (fun n => call T C n 56 (o, K, l, ())) (((doF K l o).1, (doF K l o).2, ()), ()) := by
  have m0 := G.m0
  have m1 := G.m1
  have hl := G.l
  have hol := S.len
  refine Evt.next (Evt.chk (by simp; omega) ?_) (fun n => r56 n o K l)
  refine for_evt' 0 (l.length : Int) (fun i (_ : Unit) => (K, l, (doF K (l.take i.toNat) o).1, (doF K (l.take i.toNat) o).2, i, ())) (fun _ _ => True) (b0 := ()) (by simp [doF]) (by omega) trivial ?_ ?_
  · intro i _ h2 h3 _
    obtain ⟨v, hv⟩ := at_of h2 h3
    obtain ⟨g1, g2, g3⟩ := G.el v hv.mem
    obtain ⟨k, hk'⟩ := at_of (l := K) g3.1 g3.2
    have e : kOf K v = k := getD_at hk'
    obtain ⟨S1, b1, b2, _⟩ := doF_surf hk G S i.toNat
    obtain ⟨S2, c1, c2, _⟩ := cut1_surf hk G hv.mem S1
    refine Round.yes (decide_eq_true h3) (Round.at hv.idx (Round.at hk'.idx (Round.at hv.idx (Round.at hv.idx ?_))))
    simp only [hr.i1 hv.mem, hr.i2 hv.mem]
    have hl1 := S1.len
    refine Round.bind (e95 (hk.el k hk'.mem) (by omega) (by omega) S1.el ((goodKs hk G.hk).el k hk'.mem) g1.1 (by omega) g2.1 (by omega)) (Round.again _ ⟨(), ?_, trivial⟩)
    have e2 : cutTo k v.1 v.2.1 (doF K (l.take i.toNat) o).1 k.length = cut1 K v (doF K (l.take i.toNat) o).1 := by unfold cut1; rw [e]
    rw [e2, hv.take, doF_snoc, wr_succ h2 h3 (by omega), wrap_id (x := (doF K (l.take i.toNat) o).2 + (cut1 K v (doF K (l.take i.toNat) o).1).2) (by omega) (by omega)]
  · intro _ _
    simp only [take_all]
    exact Round.no (by simp) (Round.done (Evt.some _))
/- spec.DoCuts -/
theorem e21 (c : List Int) (K : List (List Int)) (l : List Ct) (hc : Rng c) (hk : RngS K) (hr : RngC l) : Evt (fun n => call T C n 21 (c, K, l, ())) (doR c K l, ()) := by
  refine Evt.next (Evt.bind (e55 c K l hc hk hr) ?_) (fun n => r21 n c K l)
  unfold doR
  refine Evt.ite (fun h => ?_) (fun h => ?_)
  · rw [if_pos (by simpa using h)]; exact Evt.some _
  have h : gvCode c K l = 0 := by simpa using h
  rw [if_neg (by simpa using h)]
  have G := goodG hr h
  exact Evt.bind (e56 hk hr G.toL (okC_surf hc G.hc)) (Evt.some _)
/- strconv.FormatInt -/
theorem e101 (u : Nat) (h : u ≤ 9223372036854775807) : Evt (fun n => call T C n 101 ((u : Int), 10, ())) ((tx (Lib.decDigits u), ()), ()) := by
  refine Evt.next ?_ (fun n => r101 n u 10)
  dsimp only
  rw [if_pos ⟨rfl, by omega, by omega⟩, Lib.itoa_nonneg]
  exact Evt.some _
theorem e101_2 (v : Int) (h0 : -9223372036854775808 ≤ v) (h1 : v ≤ 9223372036854775807) : Evt (fun n => call T C n 101 (v, 10, ())) ((tx (Lib.itoa v), ()), ()) := by
  refine Evt.next ?_ (fun n => r101 n v 10)
  dsimp only
  rw [if_pos ⟨rfl, h0, h1⟩]
  exact Evt.some _
/- impl.decimal -/
theorem e60 (u : Nat) (h : u ≤ 9223372036854775807) : Evt (fun n => call T C n 60 ((u : Int), ())) ((tx (Lib.decDigits u), ()), ()) :=
  Evt.next (Evt.bind (e101 u h) (Evt.some _)) (fun n => r60 n u)
theorem e60_2 (v : Int) (h0 : -9223372036854775808 ≤ v) (h1 : v ≤ 9223372036854775807) : Evt (fun n => call T C n 60 (v, ())) ((tx (Lib.itoa v), ()), ()) :=
  Evt.next (Evt.bind (e101_2 v h0 h1) (Evt.some _)) (fun n => r60 n v)
/- (*strings.Builder).WriteString -/
theorem e59 (x s : List UInt8) (h : x.length + s.length ≤ 1000000000) : Evt (fun n => call T C n 59 (tx x, tx s, ())) ((((s.length : Nat) : Int), false, ()), (tx (x ++ s), ())) := by
  refine Evt.next ?_ (fun n => r59 n (tx x) (tx s))
  dsimp only
  rw [if_pos (by rw [tx_size, tx_size]; omega), tx_app, tx_size]
  exact Evt.some _
/- (*strings.Builder).String -/
theorem e61 (x : ByteArray) : Evt (fun n => call T C n 61 (x, ())) ((x, ()), ()) :=
  Evt.next (Evt.some _) (fun n => r61 n x)
/- impl.CutsText -/
theorem e23 {m : Nat} {L : List Ct} (h : OneK m L) (hm : m ≤ 360) : Evt (fun n => call T C n 23 (L, ())) ((tx (ctT L), ()), ()) := by
  have ha := e58 L (h.rng hm) 8
  rw [h.okCt hm] at ha
  have hln := h.l
  have c32 : (⟨#[32]⟩ : ByteArray) = tx [32] := rfl
  have c10 : (⟨#[10]⟩ : ByteArray) = tx [10] := rfl
  refine Evt.next (Evt.bind ha (Evt.no (by simp) ?_)) (fun n => r23 n L)
  refine for_evt' 0 (L.length : Int) (fun i (_ : Unit) => (tx (ctT (L.take i.toNat)), L, (L.length : Int), i, ())) (fun _ _ => True) (b0 := ()) rfl (by omega) trivial ?_ ?_
  · intro i _ i0 i1 _
    obtain ⟨s, hs⟩ := at_of i0 i1
    have hel := h.el s hs.mem
    obtain ⟨a, ea⟩ : ∃ a : Nat, s.1 = a := ⟨s.1.toNat, by omega⟩
    obtain ⟨b, eb⟩ : ∃ b : Nat, s.2.1 = b := ⟨s.2.1.toNat, by omega⟩
    obtain ⟨p, ep⟩ : ∃ p : Nat, s.2.2.1 = p := ⟨s.2.2.1.toNat, by omega⟩
    have hA := e60 a (by omega)
    have hB := e60 b (by omega)
    have hP := e60 p (by omega)
    have z1 := dec_len (u := a) (by omega)
    have z2 := dec_len (u := b) (by omega)
    have z3 := dec_len (u := p) (by omega)
    have zt := ctT_len hm (L := L.take i.toNat) (h.sub (by rw [List.length_take]; omega) fun v hv => List.mem_of_mem_take hv)
    have zl : (L.take i.toNat).length ≤ 400 := by rw [List.length_take]; omega
    dsimp only
    refine Round.yes (decide_eq_true i1) (Round.at hs.idx ?_)
    rw [wrap_id (x := s.1) (by omega) (by omega), wrap_id (x := s.2.1) (by omega) (by omega), wrap_id (x := s.2.2.1) (by omega) (by omega), ea, eb, ep]
    refine Round.bind hA ?_
    simp only [c32, c10, tx_app]
    refine Round.chk (szT (by omega) (by simp)) (Round.bind hB ?_)
    simp only [tx_app]
    refine Round.chk (szT (by simp; omega) (by omega)) (Round.chk (szT (by simp; omega) (by simp)) (Round.bind hP ?_))
    simp only [tx_app]
    refine Round.chk (szT (by simp; omega) (by omega)) (Round.chk (szT (by simp; omega) (by simp)) (Round.bind (e59 _ _ (by simp; omega)) (Round.again _ ⟨(), ?_, trivial⟩)))
    rw [hs.take, ctT_snoc, wr_succ i0 i1 (by omega)]
    unfold liT
    rw [ea, eb, ep, Int.toNat_natCast, Int.toNat_natCast, Int.toNat_natCast]
    simp
  · intro _ _
    dsimp only
    rw [take_all]
    exact Round.no (by simp) (Round.bind (e61 _) (Round.done (Evt.some _)))
/- strings.TrimSuffix -/
theorem e33 (l s : List UInt8) (hl : l.length ≤ 10000000) : Evt (fun n => call T C n 33 (tx l, tx s, ())) ((tx (Lib.trimSuffix l s), ()), ()) := by
  refine Evt.next ?_ (fun n => r33 n (tx l) (tx s))
  dsimp only
  rw [if_pos (by rw [tx_size]; omega)]
  exact Evt.some _
/- strings.Split -/
theorem e42 {c : UInt8} {w : List UInt8} {ws : List (List UInt8)} (h : c ∉ w) (hs : ∀ v ∈ ws, c ∉ v) (hl : (Lib.join (w :: ws) [c]).length ≤ 1000000) : Evt (fun n => call T C n 42 (tx (Lib.join (w :: ws) [c]), tx [c], ())) (((w :: ws).map tx, ()), ()) := by
  refine Evt.next ?_ (fun n => r42 n (tx (Lib.join (w :: ws) [c])) (tx [c]))
  dsimp only
  rw [if_pos ⟨by rw [tx_size]; omega, by rw [tx_size]; simp⟩, split_tx h hs]
  exact Evt.some _
theorem e42_2 (c : UInt8) (l : List UInt8) (hl : l.length ≤ 10000000) : Evt (fun n => call T C n 42 (tx l, tx [c], ())) (((splitC c l).map tx, ()), ()) := by
  refine Evt.next ?_ (fun n => r42 n (tx l) (tx [c]))
  dsimp only
  rw [if_pos ⟨by rw [tx_size]; omega, by rw [tx_size]; simp⟩, split_all]
  exact Evt.some _
/- strconv.ParseInt -/
theorem e57 {u : Nat} (h : u ≤ 9223372036854775807) : Evt (fun n => call T C n 57 (tx (Lib.decDigits u), 10, 64, ())) (((u : Int), false, ()), ()) := by
  have l1 := dec_len h
  refine Evt.next ?_ (fun n => r57 n (tx (Lib.decDigits u)) 10 64)
  dsimp only
  rw [if_pos ⟨by rw [tx_size]; omega, rfl, rfl⟩, tx_list, parse_int h]
  exact Evt.some _
/- impl.number -/
theorem e77 {u : Nat} (h : u ≤ 9223372036854775807) : Evt (fun n => call T C n 77 (tx (Lib.decDigits u), ())) (((u : Int), true, ()), ()) := by
  refine Evt.next (Evt.bind (e57 h) (Evt.chk rfl (Evt.yes rfl (Evt.bind (e60 u h) ?_)))) (fun n => r77 n (tx (Lib.decDigits u)))
  simp only [beq_self_eq_true, cond_true]
  exact Evt.some _
theorem e77_2 (l : List UInt8) (hl : l.length ≤ 10000000) : Evt (fun n => call T C n 77 (tx l, ())) (((numI l).1, (numI l).2, ()), ()) := by
  have hP : Evt (fun n => call T C n 57 (tx l, 10, 64, ())) (((numI l).1, (match Lib.parseIntB 64 l with | .ok _ => false | _ => true), ()), ()) := by
    refine Evt.next ?_ (fun n => r57 n (tx l) 10 64)
    dsimp only
    rw [if_pos ⟨by rw [tx_size]; omega, rfl, rfl⟩, tx_list]
    unfold numI
    cases Lib.parseIntB 64 l <;> exact Evt.some _
  have hb := numI_bd l
  refine Evt.next (Evt.bind hP (Evt.chk rfl ?_)) (fun n => r77 n (tx l))
  have hd := e60_2 (numI l).1 hb.1 hb.2
  revert hd
  rcases h : Lib.parseIntB 64 l with v | _ | _
  · intro hd
    refine Evt.yes rfl (Evt.bind hd ?_)
    simp only [tx_toList, cond_true]
    have e1 : (numI l).2 = (Lib.itoa (numI l).1 == l) := by unfold numI; rw [h]
    rw [e1]
    exact Evt.some _
  · intro _
    have e1 : (numI l).2 = false := by unfold numI; rw [h]
    rw [e1]
    exact Evt.no (by simp) (Evt.some _)
  · intro _
    have e1 : (numI l).2 = false := by unfold numI; rw [h]
    rw [e1]
    exact Evt.no (by simp) (Evt.some _)
/- impl.short -/
theorem e43 (l : List UInt8) (hl : l.length ≤ 10000000) : Evt (fun n => call T C n 43 (tx l, ())) ((shortI l, ()), ()) := by
  refine Evt.next (Evt.bind (e77_2 l hl) ?_) (fun n => r43 n (tx l))
  unfold shortI
  by_cases h : wr .i64 (wr .i16 (numI l).1) = (numI l).1
  · rw [if_pos h]
    exact Evt.no (by simpa using h) (Evt.some _)
  · rw [if_neg h]
    exact Evt.yes (by simpa using h) (Evt.some _)
/- impl.ReadCuts -/
theorem e22 {m : Nat} {L : List Ct} (h : OneK m L) (hm : m ≤ 360) (h7 : L.length ≤ 7) : Evt (fun n => call T C n 22 (tx (ctT L), ())) ((L, 0, ()), ()) := by
  have hP : Evt (fun n => call T C n 57 (tx [48], 10, 8, ())) (((0 : Int), false, ()), ()) := by
    refine Evt.next ?_ (fun n => r57 n (tx [48]) 10 8)
    dsimp only
    rw [if_neg (fun h => absurd h.2.2 (by decide)), if_pos ⟨by rw [tx_size]; simp, rfl, rfl⟩, tx_list, show Lib.parseIntB 8 [48] = .ok 0 from by decide]
    exact Evt.some _
  have hlen := ctT_len hm h
  have ha := e58 L (h.rng hm) 8
  rw [h.okCt hm] at ha
  have hT := e23 h hm
  have htl : (Lib.trimSuffix (ctT L) [10]).length ≤ (ctT L).length := by
    unfold Lib.trimSuffix
    split
    · rw [List.length_take]; omega
    · exact Nat.le_refl _
  refine Evt.next (Evt.bind (e33 (ctT L) [10] (by omega)) (Evt.bind (e42_2 10 (Lib.trimSuffix (ctT L) [10]) (by omega)) ?_)) (fun n => r22 n (tx (ctT L)))
  by_cases h0 : L = []
  · subst h0
    have e1 : splitC 10 (Lib.trimSuffix (ctT []) [10]) = [[]] := by decide
    have e2 : ctT [] = [] := rfl
    rw [e1]
    rw [e2] at hT ⊢
    refine loop_evt (fun x => x = (tx [], ([] : List Ct), [tx []], (1 : Int), (0 : Int), ())) (fun _ => 0) (x := (tx [], ([] : List Ct), [tx []], (1 : Int), (0 : Int), ())) rfl ?_
    rintro _ rfl
    dsimp only
    refine Round.yes rfl (Round.at (v := tx []) rfl (Round.bind (e42_2 32 [] (by simp)) (Round.yes (beq_self_eq_true (tx []).toList) (Round.bind ha (Round.no (by simp) (Round.bind hT (Round.no ?_ (Round.done (Evt.some _)))))))))
    simp
  have e1 := ctT_split h0
  rw [e1]
  have hlm : (((L.map liT).map tx).length : Int) = (L.length : Int) := by simp
  refine for_evt' 0 (L.length : Int) (fun i (_ : Unit) => (tx (ctT L), L.take i.toNat, (L.map liT).map tx, (((L.map liT).map tx).length : Int), i, ())) (fun _ _ => True) (b0 := ()) rfl (by omega) trivial ?_ ?_
  · intro i _ i0 i1 _
    obtain ⟨s, hs⟩ := at_of i0 i1
    have hel := h.el s hs.mem
    have hsl := liT_len h hm hs.mem
    have hvi : idx ((L.map liT).map tx) i = some (tx (liT s)) := by
      have := hs.idx
      unfold idx at this ⊢
      rw [if_pos i0] at this ⊢
      rw [List.getElem?_map, List.getElem?_map, this]; rfl
    have hS := e42_2 32 (liT s) (by omega)
    rw [liT_split] at hS
    obtain ⟨a, b, p, u⟩ := s
    simp only at hel
    obtain ⟨⟨a0, a1⟩, ⟨b0, b1⟩, rfl⟩ := hel
    obtain ⟨a, rfl⟩ := Int.eq_ofNat_of_zero_le a0
    obtain ⟨b, rfl⟩ := Int.eq_ofNat_of_zero_le b0
    have d0 : Lib.decDigits (Int.toNat 0) = [48] := by unfold Lib.decDigits; rfl
    simp only [Int.toNat_natCast, d0] at hS
    have z1 := dec_len (u := a) (by omega)
    have z2 := dec_len (u := b) (by omega)
    have hA := e43 (Lib.decDigits a) (by omega)
    have hB := e43 (Lib.decDigits b) (by omega)
    rw [shortI_dec (by omega)] at hA hB
    dsimp only
    refine Round.yes (decide_eq_true (by rw [hlm]; exact i1)) (Round.at hvi (Round.bind hS (Round.no ?_ (Round.no (by simp) (Round.no ?_ (Round.chk rfl (Round.at (v := tx [48]) rfl (Round.bind hP (Round.chk rfl (Round.no (by simp) ?_))))))))))
    · show ¬ (((tx (ctT L)).toList == (tx []).toList) = true)
      rw [tx_toList, tx_toList, beq_iff_eq]
      exact ctT_ne h0
    · simp
      omega
    refine Round.chk rfl (Round.at (v := tx (Lib.decDigits a)) rfl (Round.bind hA (Round.chk rfl (Round.at (v := tx (Lib.decDigits b)) rfl (Round.bind hB (Round.chk (decide_eq_true (by simp only [List.length_singleton, List.length_take]; omega)) (Round.again _ ⟨(), ?_, trivial⟩)))))))
    rw [hs.take, wr_succ i0 i1 (by omega)]
    rfl
  · intro _ _
    dsimp only
    rw [take_all]
    refine Round.no (by rw [hlm]; simp) (Round.bind ha (Round.no (by simp) (Round.bind hT (Round.no (by simp) (Round.done (Evt.some _))))))
/- spec.l01Same -/
theorem e62 (l : List Int) (hl : (l.length : Int) ≤ 1000000) : Evt (fun n => call T C n 62 (l, l, ())) ((true, ()), ()) := by
  refine Evt.next (Evt.no (by simp) ?_) (fun n => r62 n l l)
  refine for_evt' 0 (l.length : Int) (fun i (_ : Unit) => (l, l, i, ())) (fun _ _ => True) (b0 := ()) rfl (by omega) trivial ?_ ?_
  · intro i _ h2 h3 _
    obtain ⟨v, hv⟩ := at_of h2 h3
    exact Round.yes (decide_eq_true h3) (Round.at hv.idx (Round.at hv.idx (Round.no (by simp) (Round.again _ ⟨(), by rw [wr_succ h2 h3 (by omega)], trivial⟩))))
  · intro _ _
    exact Round.no (by simp) (Round.done (Evt.some _))
theorem e62_2 (a b : List Int) (hl : (a.length : Int) ≤ 1000000) : Evt (fun n => call T C n 62 (a, b, ())) ((decide (a = b), ()), ()) := by
  by_cases hlen : a.length = b.length
  · refine Evt.next (Evt.no (by simp [hlen]) ?_) (fun n => r62 n a b)
    refine for_evt' 0 (a.length : Int) (fun i (_ : Unit) => (a, b, i, ())) (fun i _ => a.take i.toNat = b.take i.toNat) (b0 := ()) rfl (by omega) (by simp) ?_ ?_
    · intro i _ h2 h3 he
      obtain ⟨u, hu⟩ := at_of h2 h3
      obtain ⟨v, hv⟩ := at_of (l := b) h2 (by omega)
      refine Round.yes (decide_eq_true h3) (Round.at hu.idx (Round.at hv.idx (Round.ite (fun h => ?_) (fun h => ?_))))
      · have h : u ≠ v := by simpa using h
        have : a ≠ b := fun e => by
          subst e
          have := hu.get.symm.trans hv.get
          exact h (Option.some.inj this)
        rw [decide_eq_false this]
        exact Round.done (Evt.some _)
      · have h : u = v := by simpa using h
        exact Round.again _ ⟨(), by rw [wr_succ h2 h3 (by omega)], by rw [hu.take, hv.take, he, h]⟩
    · intro _ he
      have he : a = b := by rwa [take_all, hlen, take_all] at he
      rw [decide_eq_true he]
      exact Round.no (by simp) (Round.done (Evt.some _))
  · have : a ≠ b := fun e => hlen (by rw [e])
    rw [decide_eq_false this]
    exact Evt.next (Evt.yes (by simp; omega) (Evt.some _)) (fun n => r62 n a b)
/- spec.SameCam -/
theorem e24 (l : List Int) (hl : (l.length : Int) ≤ 1000000) : Evt (fun n => call T C n 24 (l, l, ())) ((true, ()), ()) := Evt.next (Evt.bind (e62 l hl) (Evt.some _)) (fun n => r24 n l l)
theorem e24_2 (a b : List Int) (hl : (a.length : Int) ≤ 1000000) : Evt (fun n => call T C n 24 (a, b, ())) ((decide (a = b), ()), ()) := Evt.next (Evt.bind (e62_2 a b hl) (Evt.some _)) (fun n => r24 n a b)
/- spec.A2SameCuts -/
theorem e25 (l : List Ct) (hl : (l.length : Int) ≤ 1000000) : Evt (fun n => call T C n 25 (l, l, ())) ((true, ()), ()) := by
  refine Evt.next (Evt.no (by simp) ?_) (fun n => r25 n l l)
  refine for_evt' 0 (l.length : Int) (fun i (_ : Unit) => (l, l, i, ())) (fun _ _ => True) (b0 := ()) rfl (by omega) trivial ?_ ?_
  · intro i _ h2 h3 _
    obtain ⟨v, hv⟩ := at_of h2 h3
    exact Round.yes (decide_eq_true h3) (Round.at hv.idx (Round.at hv.idx (Round.no (by simp) (Round.again _ ⟨(), by rw [wr_succ h2 h3 (by omega)], trivial⟩))))
  · intro _ _
    exact Round.no (by simp) (Round.done (Evt.some _))
/- impl.cutterCode -/
theorem e66 (c k : List Int) (hc : Rng c) (hk : Rng k) : Evt (fun n => call T C n 66 (c, k, ())) ((cutCode c k, ()), ()) := by
  have hl := hc.len'
  refine Evt.next (Evt.bind (e81 c (by omega)) ?_) (fun n => r66 n c k)
  unfold cutCode
  cases okC c with
  | false => exact Evt.yes rfl (Evt.bind (e67 _ _) (Evt.some _))
  | true =>
    refine Evt.no (by simp) (Evt.bind (e104 k hk) (Evt.bind (e67 _ _) ?_))
    cases okK k with
    | false => exact Evt.some _
    | true => exact Evt.some _
/- impl.CutAt -/
theorem e27 {m : Nat} {o k : List Int} (S : Surf m o) (m8 : 8 ≤ m) (hm : m ≤ 360) (hk : Rng k) (ok : okK k = true) {s t : Int} (s0 : 0 ≤ s) (s1 : s < (m : Int)) (t0 : 0 ≤ t) (t1 : t ≤ 10000) : Evt (fun n => call T C n 27 (o, k, s, t, ())) (((cutTo k s t o k.length).1, (cutTo k s t o k.length).2, 0, ()), ()) := by
  have hl := S.len
  have hcode : cutCode o k = 0 := by unfold cutCode; rw [surf_okC S m8 hm, ok]; rfl
  have hC := e66 o k (surf_rng S hm) hk
  rw [hcode] at hC
  have hc := e70 (o := o) hk (by omega) (by omega) S.el (goodK hk ok) (s := s) (t := t) s0 (by omega) t0 (by omega)
  have hp := e68 s (o.length : Int)
  rw [show inR s 0 (wr .i64 ((o.length : Int) - 1)) = true from by rw [wrap_id (by omega) (by omega)]; exact inR_iff.2 ⟨s0, by omega⟩] at hp
  have hL := e69 t
  rw [inR_iff.2 ⟨t0, t1⟩] at hL
  have hF := e65 [0, 0] (by simp)
  rw [show fst0 [0, 0] = 0 from rfl] at hF
  have hN := e67 false 2
  rw [if_neg (by simp)] at hN
  refine Evt.next (Evt.bind hC (Evt.bind hp (Evt.no (by simp) (Evt.bind hL (Evt.bind hN (Evt.bind hF (Evt.no (by simp) (Evt.bind (e53 o (by omega) (by omega)) (Evt.bind hc ?_))))))))) (fun n => r27 n o k s t)
  exact Evt.some _
/- laws.FnCuts -/
theorem e5 (x y : List Int) (hd : DomA (C 5).params (x, y, ())) : Evt (fun n => call T C n 5 (x, y, ())) ((true, ()), ()) := by
  have hx : ∀ v ∈ x, 0 ≤ v ∧ v ≤ 255 := byte_of hd.1
  have hy : ∀ v ∈ y, 0 ≤ v ∧ v ≤ 255 := byte_of hd.2.1
  refine Evt.next (Evt.bind (e16 x y) ?_) (fun n => r5 n x y)
  cases hlong : (decide ((x.length : Int) > 3000) || decide ((y.length : Int) > 3000)) with
  | true => exact Evt.yes rfl (Evt.some _)
  | false =>
    simp only [Bool.or_eq_false_iff, decide_eq_false_iff_not] at hlong
    obtain ⟨c, hC, S⟩ : ∃ c : List Int, Evt (fun n => call T C n 17 (x, ())) ((c, ()), ()) ∧ SmC c := e17 hx (by omega)
    obtain ⟨k, hK, SK⟩ : ∃ k : List Int, Evt (fun n => call T C n 18 (y, ())) ((k, ()), ()) ∧ SmK k := e18 hy (by omega)
    have hl := S.len
    obtain ⟨m, hm⟩ : ∃ m, c.length = m := ⟨_, rfl⟩
    have hlm : (c.length : Int) = (m : Int) := by rw [hm]
    have m360 : m ≤ 360 := by have := okC_len S.ok; omega
    have m8 : 8 ≤ m := by have := okC_len S.ok; omega
    obtain ⟨L, hQ, O, h7⟩ : ∃ L : List Ct, Evt (fun n => call T C n 19 (y, (m : Int), ())) ((L, ()), ()) ∧ OneK m L ∧ L.length ≤ 7 := e19 hy (by omega) (m := m) (by omega) (by omega)
    have hRK : RngS [k] := ⟨by simp, fun u hu => by simp at hu; rw [hu]; exact SK.rng⟩
    have S0 : Surf m c := ⟨hm, okC_el S.ok S.rng⟩
    have hz : ∀ v ∈ L, v.2.2.1 = 0 := fun v hv => (O.el v hv).2.2
    have OR : OneK m L.reverse := O.sub (by simp) fun v hv => List.mem_reverse.1 hv
    have doE : ∀ {o : List Int} {M : List Ct}, Surf m o → OneK m M → doR o [k] M = ((doF [k] M o).1, (doF [k] M o).2, 0, ()) := fun {o M} So OM => by
      have : gvCode o [k] M = 0 := OneK.code (by rw [So.len]; exact OM) (surf_okC So m8 m360) SK.ok
      unfold doR
      rw [if_neg (by rw [this]; simp)]
    have SF : ∀ i, Surf m (doF [k] (L.take i) c).1 := fun i => (doF_surf hRK (O.toL (by omega) m360 SK.ok) S0 i).1
    have hle := fun p hp => (doF_surf hRK (O.toL (by omega) m360 SK.ok) S0 L.length).2.2.2 p hp
    have hsm := doF_sum (k := k) (by omega) hm hz L.length (Nat.le_refl _)
    have SD := SF L.length
    have hrev := doF_same (k := k) (by omega) hm hz (M := L.reverse) fun v => List.mem_reverse
    have hag := doF_again (k := k) (by omega) hm hz
    rw [List.take_length] at SD hle hsm
    have hI := e20 c [k] L S.rng hRK (O.rng m360)
    have hS := e21 c [k] L S.rng hRK (O.rng m360)
    have hR := e20 c [k] L.reverse S.rng hRK (OR.rng m360)
    have hA := e20 (doF [k] L c).1 [k] L (surf_rng SD m360) hRK (O.rng m360)
    rw [doE S0 O] at hI hS
    rw [doE S0 OR, hrev] at hR
    rw [doE SD O, hag] at hA
    have hlast : (doF [k] (L.take L.length) c).1 = (doF [k] L c).1 := by rw [List.take_length]
    have hT := e23 O m360
    have hB := e22 O m360 h7
    have hsame := e25 L (by omega)
    have hV := e26 L [k] hRK (O.rng m360)
    rw [O.cuts m360 SK.ok] at hV
    have hq := e24 (doF [k] L c).1 (by have := SD.len; omega)
    rw [← hlm] at hQ
    obtain ⟨d, hdd⟩ : ∃ d, d = (doF [k] L c).1 := ⟨_, rfl⟩
    rw [← hdd] at hq hA hR hag hsm SD hle hlast hI hS
    rw [hsm] at hI hS
    have cs := sum_bd S0.el
    have ds := sum_bd SD.el
    have hdl := SD.len
    have stuck : ∀ {a b : List Int} {i : Nat}, Surf m a → Surf m b → i ≤ m → -3600000 ≤ (a.take i).sum - (b.take i).sum ∧ (a.take i).sum - (b.take i).sum ≤ 3600000 := fun {a b i} Sa Sb hi => by
      have h1 := sum_bd (l := a.take i) fun v hv => Sa.el v (List.mem_of_mem_take hv)
      have h2 := sum_bd (l := b.take i) fun v hv => Sb.el v (List.mem_of_mem_take hv)
      have h3 : (a.take i).length ≤ 360 := by rw [List.length_take]; omega
      have h4 : (b.take i).length ≤ 360 := by rw [List.length_take]; omega
      omega
    refine Evt.no (by simp) (Evt.bind hC (Evt.bind hK (Evt.bind hQ (Evt.bind hI (Evt.bind hS (Evt.bind hT (Evt.bind hB (Evt.no (by simp) (Evt.no (by simp) (Evt.bind hq (Evt.no (by simp) (Evt.no (by simp) (Evt.no (by simp) (Evt.bind hsame (Evt.no (by simp) (Evt.bind hV (Evt.no (by simp) ?_)))))))))))))))))
    refine for_evt' 0 (m : Int) (fun i (_ : Unit) => (c, k, L, [k], d, c.sum - d.sum, (c.take i.toNat).sum - (d.take i.toNat).sum, i, ())) (fun _ _ => True) (b0 := ()) rfl (by omega) trivial ?_ ?_
    · intro i _ i0 i1 _
      obtain ⟨i, rfl⟩ := Int.eq_ofNat_of_zero_le i0
      have hc1 : idx c (i : Int) = some (g c i) := (g_idx (l := c) (i := (i : Int)) (by omega) (by omega)).idx
      have hd1 : idx d (i : Int) = some (g d i) := (g_idx (l := d) (i := (i : Int)) (by omega) (by omega)).idx
      have hp := hle i (by omega)
      have e1 := S0.el _ (g_mem (l := c) (i := i) (by omega))
      have e2 := SD.el _ (g_mem (l := d) (i := i) (by omega))
      have b1 := stuck (i := i) S0 SD (by omega)
      have b2 := stuck (i := i + 1) S0 SD (by omega)
      have t1 := take_sum (l := c) (i := i) (by omega)
      have t2 := take_sum (l := d) (i := i) (by omega)
      dsimp only
      refine Round.yes (decide_eq_true (by omega)) (Round.at hd1 (Round.at hc1 (Round.no (by simp; omega) (Round.at hc1 (Round.at hd1 (Round.again _ ⟨(), ?_, trivial⟩))))))
      rw [wr_succ i0 i1 (by omega), Int.toNat_natCast, show ((i : Int) + 1).toNat = i + 1 by omega, wrap_id (x := g c i) (by omega) (by omega), wrap_id (x := g d i) (by omega) (by omega), wrap_id (x := g c i - g d i) (by omega) (by omega), wrap_id (by omega) (by omega), t1, t2]
      rw [show (c.take i).sum - (d.take i).sum + (g c i - g d i) = (c.take i).sum + g c i - ((d.take i).sum + g d i) by omega]
    intro _ _
    rw [Int.toNat_natCast, ← hm, List.take_length, hm, ← hdl, List.take_length, hdl]
    dsimp only
    refine Round.no (by simp) (Round.done ?_)
    refine for_evt' 0 (L.length : Int) (fun i (_ : Unit) => (c, k, L, [k], d, c.sum - d.sum, c.sum - d.sum, (doF [k] (L.take i.toNat) c).1, L.reverse.take i.toNat, i, ())) (fun _ _ => True) (b0 := ()) rfl (by omega) trivial ?_ ?_
    · intro i _ i0 i1 _
      obtain ⟨v, hv⟩ := at_of i0 i1
      obtain ⟨i, rfl⟩ := Int.eq_ofNat_of_zero_le i0
      have hel := O.el v hv.mem
      have hv' : L[i]? = some v := by have := hv.idx; unfold idx at this; rwa [if_pos i0, Int.toNat_natCast] at this
      have hst := doF_take k L c hv' hel.2.2
      have hcut := e27 (SF i) m8 m360 SK.rng SK.ok hel.1.1 hel.1.2 hel.2.1.1 hel.2.1.2
      have hnn := (cutTo_none k v.1 v.2.1 (o := (doF [k] (L.take i) c).1) k.length).1
      obtain ⟨u, hu⟩ : ∃ u, L.reverse[i]? = some u := ⟨_, List.getElem?_eq_getElem (by rw [List.length_reverse]; omega)⟩
      have hu' : idx L (wr .i64 (wr .i64 ((L.length : Int) - 1) - (i : Int))) = some u := by
        rw [wrap_id (x := (L.length : Int) - 1) (by omega) (by omega), wrap_id (by omega) (by omega)]
        unfold idx
        rw [if_pos (by omega), ← hu, List.getElem?_reverse (by omega)]
        congr 1
        omega
      have htk : (L.reverse.take i).length ≤ 7 := by rw [List.length_take, List.length_reverse]; omega
      dsimp only
      rw [Int.toNat_natCast]
      refine Round.yes (decide_eq_true i1) (Round.at hv.idx (Round.at hv.idx ?_))
      rw [wrap_id (x := v.1) (by omega) (by omega), wrap_id (x := v.2.1) (by omega) (by omega)]
      refine Round.bind hcut (Round.no (by simp) (Round.no (by simp; omega) (Round.at hu' (Round.chk (decide_eq_true (by simp only [List.length_singleton]; omega)) (Round.again _ ⟨(), ?_, trivial⟩)))))
      rw [wr_succ i0 i1 (by omega), show ((i : Int) + 1).toNat = i + 1 by omega, hst, List.take_add_one, hu]
      rfl
    intro _ _
    rw [Int.toNat_natCast, hlast, List.take_of_length_le (by simp)]
    dsimp only
    exact Round.no (by simp) (Round.bind hR (Round.bind hA (Round.yes (by simp) (Round.bind hq (Round.yes rfl (Round.yes rfl (Round.bind hq (Round.yes rfl (Round.yes rfl (Round.yes rfl (Round.bind hq (Round.done (Evt.some _)))))))))))))

end Go.Cams.YtjeakogmccogmaaGreatDoorLCt
