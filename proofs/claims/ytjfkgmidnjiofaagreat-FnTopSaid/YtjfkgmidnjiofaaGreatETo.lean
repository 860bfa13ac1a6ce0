/- What the functions that the law reaches come to. -/
import Derived.Test.YtjfkgmidnjiofaaGreatRTo
import Derived.Test.YtjfkgmidnjiofaaGreatPuAll
namespace Go.Cams.YtjfkgmidnjiofaaGreatLTo
open Go Go.Fw Go.Proofs Go.Proofs.YtjfkgmidnjiofaaGreat.LTo
/- laws.a2Long -/
theorem e4 (a b : List Int) : Evt (fun n => call T C n 4 (a, b, ())) ((decide ((a.length : Int) > 3000) || decide ((b.length : Int) > 3000), ()), ()) := by
  refine Evt.next ?_ (fun n => r4 n a b)
  cases decide ((a.length : Int) > 3000) with
  | true => exact Evt.yes rfl (Evt.some _)
  | false => exact Evt.no (by simp) (Evt.some _)
/- spec.l00From -/
theorem e27 (a : List Int) : Evt (fun n => call T C n 27 (a, ())) (((a, 0, 0, ()), ()), ()) := Evt.next (Evt.some _) (fun n => r27 n a)
/- (*spec.l00Src).next -/
theorem e99 {k : Int} {s : Src} (h : SrcAt k s) (hk : k ≤ 1000000000000) : ∃ (v : Int) (s' : Src), Evt (fun n => call T C n 99 (s, ())) ((v, ()), (s', ())) ∧ 0 ≤ v ∧ v ≤ 255 ∧ SrcAt (k + 1) s' := by
  obtain ⟨h1, h2, h3, h4⟩ := h
  have hw : wr .i64 (s.2.1 + 1) = s.2.1 + 1 := wrap_id (by omega) (by omega)
  by_cases hp : s.2.1 < (s.1.length : Int)
  · obtain ⟨v, hv⟩ := at_of h3 hp
    have hb := h1 v hv.mem
    have ev : wr .i64 v = v := wrap_id (by omega) (by omega)
    obtain ⟨z, hz⟩ : ∃ z, z = wr .u64 ((wr .u64 ((wr .u64 (s.2.2.1 * (6364136223846793005 : Int))) + (wr .u64 (wr .i64 v)))) + (1442695040888963407 : Int)) := ⟨_, rfl⟩
    refine ⟨v, (s.1, s.2.1 + 1, z, ()), Evt.next (Evt.yes (decide_eq_true hp) (Evt.at hv.idx (Evt.yes (decide_eq_true (by rw [hw]; omega)) ((Evt.some _).of_eq fun n => ?_)))) (fun n => r99 n s), hb.1, hb.2, h1, h2, by show 0 ≤ s.2.1 + 1; omega, by show s.2.1 + 1 ≤ k + 1; omega⟩
    rw [← hz, hw, ev]
    rfl
  · obtain ⟨z, hz⟩ : ∃ z, z = wr .u64 ((wr .u64 ((wr .u64 (s.2.2.1 * (6364136223846793005 : Int))) + (wr .u64 (0 : Int)))) + (1442695040888963407 : Int)) := ⟨_, rfl⟩
    have hzb : 0 ≤ z ∧ z < 18446744073709551616 := by rw [hz]; exact wrap_u64 _
    obtain ⟨y, rfl⟩ : ∃ y : Nat, z = y := ⟨z.toNat, by omega⟩
    have hval : wr .i64 (bitsI .and .u64 (shr_ .u64 (y : Int) (40 : Int)) (255 : Int)) = ((y / 2 ^ 40 % 256 : Nat) : Int) := by
      rw [show (40 : Int) = ((40 : Nat) : Int) from rfl, shr_nat (by omega), and_255 (Nat.lt_of_le_of_lt (Nat.div_le_self _ _) (by omega))]
      have := Nat.mod_lt (y / 2 ^ 40) (show 0 < 256 by omega)
      exact wrap_id (by omega) (by omega)
    have hm := Nat.mod_lt (y / 2 ^ 40) (show 0 < 256 by omega)
    refine ⟨((y / 2 ^ 40 % 256 : Nat) : Int), (s.1, s.2.1 + 1, (y : Int), ()), Evt.next (Evt.no (by simpa using hp) (Evt.no (by rw [hw]; simp; omega) (Evt.chk rfl ((Evt.some _).of_eq fun n => ?_)))) (fun n => r99 n s), by omega, by omega, h1, h2, by show 0 ≤ s.2.1 + 1; omega, by show s.2.1 + 1 ≤ k + 1; omega⟩
    rw [← hz, hw, hval]
    rfl
/- (*spec.l00Src).pick -/
theorem e52 {k : Int} {s : Src} (h : SrcAt k s) (hk : k ≤ 999999999000) {m : Int} (m1 : 1 ≤ m) (m2 : m ≤ 1000000) : ∃ (v : Int) (s' : Src), Evt (fun n => call T C n 52 (s, m, ())) ((v, ()), (s', ())) ∧ 0 ≤ v ∧ v < m ∧ SrcAt (k + 2) s' := by
  by_cases hm : m ≤ 1
  · exact ⟨0, s, Evt.next (Evt.yes (decide_eq_true hm) (Evt.some _)) (fun n => r52 n s m), by omega, by omega, h.mono (by omega)⟩
  · obtain ⟨v, s1, hE, v0, v1, hs1⟩ := e99 h (by omega)
    by_cases hb : m > 200
    · obtain ⟨u, s2, hE2, u0, u1, hs2⟩ := e99 hs1 (by omega)
      have hx : wr .i64 (wr .i64 (v * 256) + u) = v * 256 + u := by rw [wrap_id (x := v * 256) (by omega) (by omega), wrap_id (by omega) (by omega)]
      have ht0 := Int.tmod_nonneg m (show 0 ≤ v * 256 + u by omega)
      have ht1 := Int.tmod_lt_of_pos (v * 256 + u) (show 0 < m by omega)
      refine ⟨Int.tmod (v * 256 + u) m, s2, Evt.next (Evt.no (by simpa using hm) (Evt.bind hE (Evt.yes (decide_eq_true hb) (Evt.bind hE2 (Evt.chk (bne_pos (by omega)) ((Evt.some _).of_eq fun n => ?_)))))) (fun n => r52 n s m), ht0, ht1, hs2.mono (by omega)⟩
      rw [hx]
      rfl
    · have ht0 := Int.tmod_nonneg m v0
      have ht1 := Int.tmod_lt_of_pos v (show 0 < m by omega)
      exact ⟨Int.tmod v m, s1, Evt.next (Evt.no (by simpa using hm) (Evt.bind hE (Evt.no (by simpa using hb) (Evt.chk (bne_pos (by omega)) (Evt.some _))))) (fun n => r52 n s m), ht0, ht1, hs1.mono (by omega)⟩
/- (*spec.l00Src).one -/
theorem e68 {k : Int} {s : Src} (h : SrcAt k s) (hk : k ≤ 999999999000) {m : Int} (m1 : 1 ≤ m) (m2 : m ≤ 1000000) : ∃ (b : Bool) (s' : Src), Evt (fun n => call T C n 68 (s, m, ())) ((b, ()), (s', ())) ∧ SrcAt (k + 2) s' := by
  obtain ⟨v, s1, hE, v0, v1, hs1⟩ := e52 h hk m1 m2
  exact ⟨v == 0, s1, Evt.next (Evt.bind hE (Evt.some _)) (fun n => r68 n s m), hs1⟩
/- spec.l02Drawn -/
theorem e26 {k : Int} {s : Src} (h : SrcAt k s) (hk : k ≤ 999999990000) : ∃ (p : Prg) (s' : Src), Evt (fun n => call T C n 26 (s, ())) ((p, ()), (s', ())) ∧ SmPg p ∧ SrcAt (k + 100) s' := by
  obtain ⟨t, s1, hE1, t0, t1, hs1⟩ := e52 h (by omega) (m := 30) (by omega) (by omega)
  obtain ⟨c, s2, hE2, c0, c1, hs2⟩ := e52 hs1 (by omega) (m := 4) (by omega) (by omega)
  have key : EvtX (fun n => call T C n 26 (s, ())) (fun y => SmPg y.1.1 ∧ SrcAt (k + 100) y.2.1) := by
    refine EvtX.next (EvtX.bind hE1 (EvtX.bind hE2 ?_)) (fun n => r26 n s)
    refine EvtX.loop (fun x => ∃ (src : Src) (L : List Ct) (m : Nat), x = (src, (0, [], ()), (t, L, ()), sumM L, (m : Int), ()) ∧ m ≤ 5 ∧ SrcAt (k + 4 + 8 * (5 - m)) src ∧ (∀ v ∈ L, MoSm v) ∧ (L.length : Int) + m ≤ 5 ∧ 2 ≤ (L.length : Int) + m) (fun x => x.2.2.2.2.1.toNat)
      ⟨s2, [], (2 + c).toNat, ?_, by omega, hs2.mono (by omega), by simp, by simp; omega, by simp; omega⟩ ?_
    · show (s2, _, (wr .i16 t, _, ()), _, wr .i64 (2 + c), ()) = _
      rw [wrap16 (x := t) (by omega) (by omega), wrap_id (x := 2 + c) (by omega) (by omega), show (((2 + c).toNat : Nat) : Int) = 2 + c by omega]
      rfl
    rintro x ⟨src, L, m, rfl, hm, hsrc, hL, hn1, hn2⟩
    have hsm := sumM_sm L hL
    by_cases h0 : 0 < m
    · right
      obtain ⟨a, a1, hA, a0, al, hs3⟩ := e52 hsrc (by omega) (m := 4) (by omega) (by omega)
      obtain ⟨b, b1, hB, b0, bl, hs4⟩ := e52 hs3 (by omega) (m := 9) (by omega) (by omega)
      obtain ⟨d, d1, hD, d0, dl, hs5⟩ := e52 hs4 (by omega) (m := 60) (by omega) (by omega)
      obtain ⟨o, o1, hO, hs6⟩ := e68 hs5 (by omega) (m := 3) (by omega) (by omega)
      have ea : wr .i8 a = a := wr_i8 (by omega) (by omega)
      have eb : wr .i16 (wr .i64 (1 + b)) = 1 + b := by rw [wrap_id (x := 1 + b) (by omega) (by omega), wrap16 (by omega) (by omega)]
      have ed : wr .i16 d = d := wrap16 (by omega) (by omega)
      have es : wr .i64 (sumM L + wr .i64 (1 + b)) = sumM L + (1 + b) := by rw [wrap_id (x := 1 + b) (by omega) (by omega), wrap_id (by omega) (by omega)]
      have em : wr .i64 ((m : Int) - 1) = ((m - 1 : Nat) : Int) := by rw [wrap_id (by omega) (by omega)]; omega
      have next : ∀ w, 0 ≤ w → w ≤ 59 → ∃ (src : Src) (L' : List Ct) (m' : Nat), ((o1, (0, [], ()), (t, L ++ [(a, 1 + b, w, ())], ()), sumM L + (1 + b), ((m - 1 : Nat) : Int), ()) : Src × Prg × Prg × Int × Int × Unit) = (src, (0, [], ()), (t, L', ()), sumM L', (m' : Int), ()) ∧ m' ≤ 5 ∧ SrcAt (k + 4 + 8 * (5 - m')) src ∧ (∀ v ∈ L', MoSm v) ∧ (L'.length : Int) + m' ≤ 5 ∧ 2 ≤ (L'.length : Int) + m' := fun w w0 w1 => by
        refine ⟨o1, L ++ [(a, 1 + b, w, ())], m - 1, by rw [sumM_snoc], by omega, hs6.mono (by omega), fun v hv => ?_, by simp; omega, by simp; omega⟩
        rcases List.mem_append.1 hv with hv | hv
        · exact hL v hv
        · simp at hv; rw [hv]; unfold MoSm; simp only; omega
      have hlen : ((L.length + 1) * 6 : Int) ≤ 140737488355328 := by omega
      by_cases ho : o = true ∧ 0 < L.length
      · obtain ⟨ho, hl⟩ := ho
        obtain ⟨M, v, rfl⟩ := last_split hl
        have hvm := hL v (by simp)
        have hi : wr .i64 (((M ++ [v]).length : Int) - 1) = (M.length : Int) := by rw [wrap_id (by omega) (by omega)]; simp
        have hg : (M ++ [v])[((M.length : Int)).toNat]? = some v := by simp
        refine ⟨(o1, (0, [], ()), (t, (M ++ [v]) ++ [(a, 1 + b, v.2.2.1, ())], ()), sumM (M ++ [v]) + (1 + b), ((m - 1 : Nat) : Int), ()), next _ hvm.2.2.1 hvm.2.2.2, ?_, fun y => ?_⟩
        · show ((m - 1 : Nat) : Int).toNat < (m : Int).toNat
          omega
        · refine Round.yes (decide_eq_true (show (m : Int) > 0 by omega)) (Round.bind hA (Round.bind hB (Round.bind hD (Round.bind hO (Round.yes ho (Round.yes (by simp) ?_))))))
          simp only [hi]
          refine Round.chk (decide_eq_true (by simp; omega)) (Round.at hg (Round.chk (decide_eq_true (by simp only [List.length_cons, List.length_nil]; omega)) (Round.again _ ?_)))
          rw [ea, eb, em, wrap_id (x := 1 + b) (by omega) (by omega), wrap_id (x := sumM (M ++ [v]) + (1 + b)) (by omega) (by omega)]
      · refine ⟨(o1, (0, [], ()), (t, L ++ [(a, 1 + b, d, ())], ()), sumM L + (1 + b), ((m - 1 : Nat) : Int), ()), next _ d0 (by omega), ?_, fun y => ?_⟩
        · show ((m - 1 : Nat) : Int).toNat < (m : Int).toNat
          omega
        · refine Round.yes (decide_eq_true (show (m : Int) > 0 by omega)) (Round.bind hA (Round.bind hB (Round.bind hD (Round.bind hO ?_))))
          have fin : ∀ {z}, z = ((o1, (0, [], ()), (t, L ++ [(a, 1 + b, d, ())], ()), sumM L + (1 + b), ((m - 1 : Nat) : Int), ()) : Src × Prg × Prg × Int × Int × Unit) → z = z := fun _ => rfl
          cases o with
          | true =>
            have hl : L.length = 0 := by
              apply Classical.byContradiction
              intro hx
              exact ho ⟨rfl, by omega⟩
            refine Round.yes rfl (Round.no (by simp [hl]) (Round.chk (decide_eq_true (by simp only [List.length_cons, List.length_nil]; omega)) (Round.again _ ?_)))
            rw [ea, eb, ed, em, wrap_id (x := 1 + b) (by omega) (by omega), wrap_id (x := sumM L + (1 + b)) (by omega) (by omega)]
          | false =>
            refine Round.no (by simp) (Round.chk (decide_eq_true (by simp only [List.length_cons, List.length_nil]; omega)) (Round.again _ ?_))
            rw [ea, eb, ed, em, wrap_id (x := 1 + b) (by omega) (by omega), wrap_id (x := sumM L + (1 + b)) (by omega) (by omega)]
    · left
      have hm0 : m = 0 := by omega
      subst hm0
      obtain ⟨M, v, rfl⟩ := last_split (L := L) (by omega)
      have hvm := hL v (by simp)
      obtain ⟨⟨v1, v2⟩, ⟨v3, v4⟩, v5, v6⟩ := hvm
      have hMs : ∀ u ∈ M, MoSm u := fun u hu => hL u (by simp [hu])
      have hsM := sumM_sm M hMs
      rw [sumM_snoc] at hsm
      have hlM : ((M ++ [v]).length : Int) = M.length + 1 := by simp
      have hi : wr .i64 (((M ++ [v]).length : Int) - 1) = (M.length : Int) := by rw [wrap_id (by omega) (by omega)]; simp
      have hg : (M ++ [v])[((M.length : Int)).toNat]? = some v := by simp
      have hset : ∀ u w : Ct, (M ++ [u]).set ((M.length : Int)).toNat w = M ++ [w] := fun u w => by simp
      have hg2 : ∀ u : Ct, (M ++ [u])[((M.length : Int)).toNat]? = some u := fun u => by simp
      by_cases h8 : sumM (M ++ [v]) < 8
      · refine ⟨(((t, M ++ [(v.1, v.2.1 + (8 - sumM (M ++ [v])), t, ())], ()), ()), (src, ())), ⟨?_, hsrc.mono (by omega)⟩, ?_⟩
        · rw [sumM_snoc] at h8 ⊢
          exact smPg t0 (by omega) hMs (by omega) v1 v2 (by omega) (by omega) (by omega) (by omega)
        · refine Round.no (by simp) ?_
          simp only [hi]
          refine Round.chk (decide_eq_true (show 0 ≤ (M.length : Int) ∧ (M.length : Int) < ((M ++ [v]).length : Int) by omega)) (Round.at hg (Round.yes (decide_eq_true h8) ?_))
          simp only [hset]
          refine Round.at (hg2 _) (Round.at (hg2 _) (Round.done ((Evt.some _).of_eq fun n => ?_)))
          rw [sumM_snoc] at h8 ⊢
          simp only [hset]
          rw [wrap_id (x := 8 - (sumM M + v.2.1)) (by omega) (by omega), wrap16 (x := 8 - (sumM M + v.2.1)) (by omega) (by omega), wrap16 (x := v.2.1 + (8 - (sumM M + v.2.1))) (by omega) (by omega)]
          rfl
      · refine ⟨(((t, M ++ [(v.1, v.2.1, t, ())], ()), ()), (src, ())), ⟨?_, hsrc.mono (by omega)⟩, ?_⟩
        · rw [sumM_snoc] at h8
          exact smPg t0 (by omega) hMs (by omega) v1 v2 (by omega) (by omega) (by omega) (by omega)
        · refine Round.no (by simp) ?_
          simp only [hi]
          refine Round.chk (decide_eq_true (show 0 ≤ (M.length : Int) ∧ (M.length : Int) < ((M ++ [v]).length : Int) by omega)) (Round.at hg (Round.no (by simpa using h8) (Round.done ((Evt.some _).of_eq fun n => ?_))))
          simp only [hset]
          rfl
  obtain ⟨⟨⟨p, _⟩, s', _⟩, ⟨h1, h2⟩, hE⟩ := key
  exact ⟨p, s', hE, h1, h2⟩
/- spec.A2Program -/
theorem e5 {b : List Int} (hb : ∀ v ∈ b, 0 ≤ v ∧ v ≤ 255) (hl : (b.length : Int) ≤ 3000) : ∃ p : Prg, Evt (fun n => call T C n 5 (b, ())) ((p, ()), ()) ∧ SmPg p := by
  obtain ⟨p, s', hE, S, _⟩ := e26 (k := 0) (s := (b, 0, 0, ())) ⟨hb, by show (b.length : Int) ≤ _; omega, by show (0 : Int) ≤ 0; omega, by show (0 : Int) ≤ 0; omega⟩ (by omega)
  exact ⟨p, Evt.next (Evt.bind (e27 b) (Evt.bind hE (Evt.some ((p, ()), ())))) (fun n => r5 n b), S⟩
/- impl.inRange -/
theorem e45 (a b c : Int) : Evt (fun n => call T C n 45 (a, b, c, ())) ((inR a b c, ()), ()) := by
  refine Evt.next ?_ (fun n => r45 n a b c)
  refine Evt.ite (fun h => ?_) (fun h => ?_)
  · refine (Evt.some _).of_eq fun n => ?_
    have h : b ≤ a := of_decide_eq_true h
    simp [inR, h]
    rfl
  · refine (Evt.some _).of_eq fun n => ?_
    have h : ¬ b ≤ a := by simpa using h
    simp [inR, h]
    rfl
/- impl.isLift -/
theorem e69 (a : Int) : Evt (fun n => call T C n 69 (a, ())) ((inR a 0 10000, ()), ()) := Evt.next (Evt.bind (e45 a 0 10000) (Evt.some _)) (fun n => r69 n a)
/- impl.isLaw -/
theorem e72 (w : Int) : Evt (fun n => call T C n 72 (w, ())) ((inR w 0 3, ()), ()) := Evt.next (Evt.bind (e45 _ _ _) (Evt.some _)) (fun n => r72 n w)
/- impl.ValidProgram$1 -/
theorem e71 (v : Ct) : Evt (fun n => call T C n 71 (v, ())) ((!moOk v, ()), ()) := by
  refine Evt.next (Evt.bind (e72 _) ?_) (fun n => r71 n v)
  unfold moOk
  cases inR (wr .i64 v.1) 0 3 with
  | false => exact Evt.yes rfl (Evt.some _)
  | true =>
    refine Evt.no (by simp) ?_
    cases decide (v.2.1 < 1) with
    | true => exact Evt.yes rfl (Evt.some _)
    | false => exact Evt.no (by simp) (Evt.bind (e69 _) (Evt.some _))
/- slices.IndexFunc[[]impl.Motion,impl.Motion]{impl.ValidProgram$1} -/
theorem e118 (l : List Ct) (hr : RngMo l) : Evt (fun n => call T C n 118 (l, ((), ()), ())) ((fi (fun v => !moOk v) l 0, ()), ()) := by
  have hl : (l.length : Int) ≤ 140737488351232 := by have := hr.len'; omega
  refine Evt.next ?_ (fun n => r118 n l ((), ()))
  refine for_evt' 0 (l.length : Int) (fun i (_ : Unit) => (l, ((), ()), (l.length : Int), i, ())) (fun i _ => fi (fun v => !moOk v) l 0 = fi (fun v => !moOk v) (l.drop i.toNat) i) (b0 := ()) rfl (by omega) (by simp) ?_ ?_
  · intro i _ h2 h3 hp
    obtain ⟨v, hv⟩ := at_of h2 h3
    rw [hv.drop] at hp
    simp only [fi] at hp
    refine Round.yes (decide_eq_true h3) (Round.at hv.idx (Round.bind (e71 v) ?_))
    cases hb : !moOk v with
    | true =>
      simp only [hb, if_true] at hp
      rw [hp]
      exact Round.yes rfl (Round.done (Evt.some _))
    | false =>
      simp only [hb, Bool.false_eq_true, if_false] at hp
      exact Round.no (by simp) (Round.again _ ⟨(), by rw [wr_succ h2 h3 (by omega)], hp⟩)
  · intro _ hp
    rw [drop_all] at hp
    rw [hp]
    exact Round.no (by simp) (Round.done (Evt.some _))
/- slices.ContainsFunc[[]impl.Motion,impl.Motion]{impl.ValidProgram$1} -/
theorem e70 (l : List Ct) (hr : RngMo l) : Evt (fun n => call T C n 70 (l, ((), ()), ())) ((l.any (fun v => !moOk v), ()), ()) := by
  refine Evt.next (Evt.bind (e118 l hr) ((Evt.some _).of_eq fun n => ?_)) (fun n => r70 n l ((), ()))
  simp only [fi_any _ l 0 (Int.le_refl _)]
  rfl
/- (impl.Program).steps -/
theorem e74 (p : Prg) (hr : RngPg p) (hn : (p.2.1.length : Int) ≤ 24) : Evt (fun n => call T C n 74 (p, ())) ((sumM p.2.1, ()), ()) := by
  have hb := sumM_take hr.m hn
  refine Evt.next ?_ (fun n => r74 n p)
  refine for_evt' 0 (p.2.1.length : Int) (fun i (_ : Unit) => (sumM (p.2.1.take i.toNat), p.2.1, (p.2.1.length : Int), i, ())) (fun _ _ => True) (b0 := ()) (by simp [sumM]) (by omega) trivial ?_ ?_
  · intro i _ h3 h4 _
    obtain ⟨v, hv⟩ := at_of h3 h4
    have hrv := hr.m.el v hv.mem
    have hbi := hb i.toNat
    refine Round.yes (decide_eq_true h4) (Round.at hv.idx (Round.again _ ⟨(), ?_, trivial⟩))
    rw [hr.m.i2 hv.mem, wrap_id (x := sumM (p.2.1.take i.toNat) + v.2.1) (by omega) (by omega), hv.take, sumM_snoc, wr_succ h3 h4 (by omega)]
  · intro _ _
    simp only [take_all]
    exact Round.no (by simp) (Round.done (Evt.some _))
/- impl.isSteps -/
theorem e73 (a : Int) : Evt (fun n => call T C n 73 (a, ())) ((inR a 8 360, ()), ()) := Evt.next (Evt.bind (e45 a 8 360) (Evt.some _)) (fun n => r73 n a)
/- impl.ValidProgram -/
theorem e28 (p : Prg) (hr : RngPg p) : Evt (fun n => call T C n 28 (p, ())) ((okPg p, ()), ()) := by
  refine Evt.next (Evt.bind (e45 _ _ _) ?_) (fun n => r28 n p)
  unfold okPg
  cases h1 : inR (p.2.1.length : Int) 1 24 with
  | false => exact Evt.yes rfl (Evt.some _)
  | true =>
    have hn := inR_iff.1 h1
    refine Evt.no (by simp) (Evt.bind (e69 _) ?_)
    cases h2 : inR (wr .i64 p.1) 0 10000 with
    | false => exact Evt.yes rfl (Evt.some _)
    | true =>
      refine Evt.no (by simp) (Evt.bind (e70 p.2.1 hr.m) ?_)
      have ha : p.2.1.all moOk = !p.2.1.any (fun v => !moOk v) := by simp [List.any_eq_not_all_not]
      rw [ha]
      cases p.2.1.any (fun v => !moOk v) with
      | true => exact Evt.no (by simp) (Evt.some _)
      | false =>
        refine Evt.yes rfl (Evt.bind (e74 p hr hn.2) (Evt.bind (e73 _) ?_))
        cases k4 : inR (sumM p.2.1) 8 360 with
        | false => exact Evt.no (by simp) (Evt.some _)
        | true =>
          obtain ⟨v, hv⟩ := at_of (l := p.2.1) (i := (p.2.1.length : Int) - 1) (by omega) (by omega)
          have hl : lastT p.2.1 = v.2.2.1 := by unfold lastT; rw [hv.idx]; rfl
          refine Evt.yes rfl ?_
          simp only [wrap_id (x := (p.2.1.length : Int) - 1) (by omega) (by omega)]
          refine Evt.at hv.idx ?_
          rw [hl]
          exact Evt.some _
/- impl.shape -/
theorem e119 {w k n : Int} (w0 : 0 ≤ w) (w1 : w ≤ 3) (k0 : 0 ≤ k) (k1 : k ≤ n) (n1 : n ≤ 360) : Evt (fun m => call T C m 119 (w, k, n, ())) ((shN w k n, shD w n, ()), ()) := by
  refine Evt.next ?_ (fun m => r119 m w k n)
  have W : ∀ x : Int, -9000000000000000000 ≤ x → x ≤ 9000000000000000000 → wr .i64 x = x := fun x a b => wrap_id (by omega) (by omega)
  have q2 := mulB (show 0 ≤ n by omega) n1 (show 0 ≤ n by omega) n1
  have q3 := mulB q2.1 q2.2 (show 0 ≤ n by omega) n1
  have q4 := mulB q3.1 q3.2 (show 0 ≤ n by omega) n1
  have q5 := mulB q4.1 q4.2 (show 0 ≤ n by omega) n1
  have kk := mulB (show 0 ≤ 2 * k by omega) (show 2 * k ≤ 720 by omega) k0 (show k ≤ 360 by omega)
  have dd := mulB (show 0 ≤ 2 * (n - k) by omega) (show 2 * (n - k) ≤ 720 by omega) (show 0 ≤ n - k by omega) (show n - k ≤ 360 by omega)
  have k3 := mulB (show 0 ≤ 3 * k by omega) (show 3 * k ≤ 1080 by omega) k0 (show k ≤ 360 by omega)
  have k3n := mulB k3.1 k3.2 (show 0 ≤ n by omega) n1
  have kkk := mulB kk.1 kk.2 k0 (show k ≤ 360 by omega)
  have c2 := mulB k0 (show k ≤ 360 by omega) k0 (show k ≤ 360 by omega)
  have c3 := mulB c2.1 c2.2 k0 (show k ≤ 360 by omega)
  have e1 := mulB (show 0 ≤ 10 * n by omega) (show 10 * n ≤ 3600 by omega) (show 0 ≤ n by omega) n1
  have e2 := mulB (show 0 ≤ 15 * k by omega) (show 15 * k ≤ 5400 by omega) (show 0 ≤ n by omega) n1
  have e3 := mulB (show 0 ≤ 6 * k by omega) (show 6 * k ≤ 2160 by omega) k0 (show k ≤ 360 by omega)
  have a1 : k * k * k * (-1944000) ≤ k * k * k * (10 * n * n - 15 * k * n + 6 * k * k) := Int.mul_le_mul_of_nonneg_left (by omega) c3.1
  have a2 : k * k * k * (10 * n * n - 15 * k * n + 6 * k * k) ≤ k * k * k * 2073600 := Int.mul_le_mul_of_nonneg_left (by omega) c3.1
  have one : Evt (fun _ => if decide (wr .i64 (2 * k) ≤ n) = true then some ((wr .i64 (wr .i64 (2 * k) * k), wr .i64 (n * n), ()), ()) else some ((wr .i64 (wr .i64 (n * n) - wr .i64 (wr .i64 (2 * wr .i64 (n - k)) * wr .i64 (n - k))), wr .i64 (n * n), ()), ())) ((shN 1 k n, shD 1 n, ()), ()) := by
    rw [W (2 * k) (by omega) (by omega), W (2 * k * k) (by omega) (by omega), W (n * n) (by omega) (by omega), W (n - k) (by omega) (by omega), W (2 * (n - k)) (by omega) (by omega), W (2 * (n - k) * (n - k)) (by omega) (by omega), W (n * n - 2 * (n - k) * (n - k)) (by omega) (by omega)]
    refine Evt.ite (fun h => ?_) (fun h => ?_)
    · have : shN 1 k n = 2 * k * k := by unfold shN; rw [if_pos rfl, if_pos (of_decide_eq_true h)]
      rw [this]; exact Evt.some _
    · have : shN 1 k n = n * n - 2 * (n - k) * (n - k) := by unfold shN; rw [if_pos rfl, if_neg (by simpa using h)]
      rw [this]; exact Evt.some _
  have two : Evt (fun _ => some ((wr .i64 (wr .i64 (wr .i64 (wr .i64 (3 * k) * k) * n) - wr .i64 (wr .i64 (wr .i64 (2 * k) * k) * k)), wr .i64 (wr .i64 (n * n) * n), ()), ())) ((shN 2 k n, shD 2 n, ()), ()) := by
    rw [W (3 * k) (by omega) (by omega), W (3 * k * k) (by omega) (by omega), W (3 * k * k * n) (by omega) (by omega), W (2 * k) (by omega) (by omega), W (2 * k * k) (by omega) (by omega), W (2 * k * k * k) (by omega) (by omega), W (3 * k * k * n - 2 * k * k * k) (by omega) (by omega), W (n * n) (by omega) (by omega), W (n * n * n) (by omega) (by omega)]
    exact Evt.some _
  have three : Evt (fun _ => some ((wr .i64 (wr .i64 (wr .i64 (k * k) * k) * wr .i64 (wr .i64 (wr .i64 (wr .i64 (10 * n) * n) - wr .i64 (wr .i64 (15 * k) * n)) + wr .i64 (wr .i64 (6 * k) * k))), wr .i64 (wr .i64 (wr .i64 (wr .i64 (n * n) * n) * n) * n), ()), ())) ((shN 3 k n, shD 3 n, ()), ()) := by
    rw [W (k * k) (by omega) (by omega), W (k * k * k) (by omega) (by omega), W (10 * n) (by omega) (by omega), W (10 * n * n) (by omega) (by omega), W (15 * k) (by omega) (by omega), W (15 * k * n) (by omega) (by omega), W (10 * n * n - 15 * k * n) (by omega) (by omega), W (6 * k) (by omega) (by omega), W (6 * k * k) (by omega) (by omega), W (10 * n * n - 15 * k * n + 6 * k * k) (by omega) (by omega), W (k * k * k * (10 * n * n - 15 * k * n + 6 * k * k)) (by omega) (by omega), W (n * n) (by omega) (by omega), W (n * n * n) (by omega) (by omega), W (n * n * n * n) (by omega) (by omega), W (n * n * n * n * n) (by omega) (by omega)]
    exact Evt.some _
  rcases (show w = 0 ∨ w = 1 ∨ w = 2 ∨ w = 3 by omega) with rfl | rfl | rfl | rfl
  · exact Evt.yes rfl (Evt.some _)
  · exact Evt.no (by decide) (Evt.yes rfl one)
  · exact Evt.no (by decide) (Evt.no (by decide) (Evt.yes rfl two))
  · exact Evt.no (by decide) (Evt.no (by decide) (Evt.no (by decide) three))
/- impl.floorDiv -/
theorem e127 {a b : Int} (hb : 0 < b) (h1 : -4500000000000000000 ≤ a) (h2 : a ≤ 4500000000000000000) : Evt (fun n => call T C n 127 (a, b, ())) ((a / b, ()), ()) := by
  have hbd := ediv_bd hb h1 h2 (by omega)
  have he := floorDiv_eq (a := a) hb
  refine Evt.next (Evt.chk (bne_pos hb) (Evt.chk (bne_pos hb) (Evt.ite (fun h => ?_) (fun h => ?_)))) (fun n => r127 n a b)
  · have h : Int.tmod a b < 0 := of_decide_eq_true h
    rw [if_pos h] at he
    refine (Evt.some _).of_eq fun n => ?_
    rw [wrap_id (x := Int.tdiv a b) (by omega) (by omega), wrap_id (by omega) (by omega), he]
    rfl
  · have h : ¬ Int.tmod a b < 0 := by simpa using h
    rw [if_neg h] at he
    refine (Evt.some _).of_eq fun n => ?_
    rw [wrap_id (x := Int.tdiv a b) (by omega) (by omega), he]
    rfl
/- impl.nearest -/
theorem e120 {x n : Int} (hn : 0 < n) (hn' : n ≤ 10000000000000) (h1 : -2000000000000000000 ≤ x) (h2 : x ≤ 2000000000000000000) : Evt (fun m => call T C m 120 (x, n, ())) ((nr x n, ()), ()) := by
  refine Evt.next ?_ (fun m => r120 m x n)
  rw [wrap_id (x := 2 * n) (by omega) (by omega), wrap_id (x := 2 * x) (by omega) (by omega), wrap_id (x := 2 * x + n) (by omega) (by omega)]
  exact Evt.bind (e127 (by omega) (by omega) (by omega)) (Evt.some _)
/- impl.liftIn -/
theorem e75 {f t w k n : Int} (f0 : 0 ≤ f) (f1 : f ≤ 10000) (t0 : 0 ≤ t) (t1 : t ≤ 10000) (w0 : 0 ≤ w) (w1 : w ≤ 3) (k0 : 0 ≤ k) (k1 : k ≤ n) (n0 : 1 ≤ n) (n1 : n ≤ 360) : Evt (fun m => call T C m 75 (f, t, w, k, n, ())) ((liftP f t w k n, ()), ()) := by
  have hd := shD_bd (w := w) n0 n1
  have hb := lift_bd (w := w) f0 f1 t0 t1 k0 k1 n0 n1
  refine Evt.next (Evt.bind (e119 w0 w1 k0 k1 n1) ?_) (fun m => r75 m f t w k n)
  show Evt (fun m => (call T C m 120 (wr .i64 (wr .i64 (f * shD w n) + wr .i64 (wr .i64 (t - f) * shN w k n)), shD w n, ())).bind _) _
  rw [wrap_id (x := f * shD w n) (by omega) (by omega), wrap_id (x := t - f) (by omega) (by omega), wrap_id (x := (t - f) * shN w k n) (by omega) (by omega), wrap_id (x := f * shD w n + (t - f) * shN w k n) (by omega) (by omega)]
  exact Evt.bind (e120 (by omega) (by omega) (by omega) (by omega)) (Evt.some _)
/- (impl.Program).profile -/
theorem e29 {p : Prg} (hr : RngPg p) (hn : (p.2.1.length : Int) ≤ 24) (ht : 0 ≤ p.1 ∧ p.1 ≤ 10000) (hi : ∀ v ∈ p.2.1, MoIn 0 10000 v) : Evt (fun n => call T C n 29 (p, ())) ((proF p.1 p.2.1, ()), ()) := by
  refine Evt.next ?_ (fun n => r29 n p)
  rw [wrap_id (x := p.1) (by omega) (by omega)]
  have hpl : ∀ i : Nat, ((proF p.1 (p.2.1.take i)).length : Int) ≤ 1000000 := fun i => by
    have h1 := proF_len (p.2.1.take i) p.1 fun v hv => (hi v (List.mem_of_mem_take hv)).n.1
    have h2 := sumM_take hr.m hn i
    omega
  refine for_evt' 0 (p.2.1.length : Int) (fun i (_ : Unit) => (proF p.1 (p.2.1.take i.toNat), toF p.1 (p.2.1.take i.toNat), p.2.1, (p.2.1.length : Int), i, ())) (fun _ _ => True) (b0 := ()) (by simp [proF, toF]) (by omega) trivial ?_ ?_
  · intro i _ h2 h3 _
    obtain ⟨v, hv⟩ := at_of h2 h3
    have hm := hi v hv.mem
    have hw := hm.w
    have hn1 := hm.n
    have htt := hm.t
    have hf := toF_in (p.2.1.take i.toNat) (f := p.1) (fun u hu => hi u (List.mem_of_mem_take hu)) ht.1 ht.2
    have hl := hpl i.toNat
    have e2 : wr .i64 v.2.1 = v.2.1 := hr.m.i2 hv.mem
    have e1 : wr .i64 v.1 = v.1 := hr.m.i1 hv.mem
    have e3 : wr .i64 v.2.2.1 = v.2.2.1 := hr.m.i3 hv.mem
    refine Round.yes (decide_eq_true h3) (Round.at hv.idx ?_)
    refine for_round' 0 v.2.1 (fun j (_ : Unit) => (proF p.1 (p.2.1.take i.toNat) ++ (seg (toF p.1 (p.2.1.take i.toNat)) v).take j.toNat, toF p.1 (p.2.1.take i.toNat), v, p.2.1, (p.2.1.length : Int), i, v.2.1, j, ())) (fun _ _ => True) (b0 := ()) (by simp [e2]) (by omega) trivial ?_ ?_
    · intro j _ h4 h5 _
      have hb := liftP_in (f := toF p.1 (p.2.1.take i.toNat)) (t := v.2.2.1) (w := v.1) (k := j) (n := v.2.1) (lo := 0) (hi := 10000) hw.1 hw.2 h4 (by omega) hn1.1 hn1.2 hf.1 hf.2 htt.1 htt.2
      have hsl := seg_len (toF p.1 (p.2.1.take i.toNat)) v
      have hlen : ((proF p.1 (p.2.1.take i.toNat) ++ (seg (toF p.1 (p.2.1.take i.toNat)) v).take j.toNat).length : Int) ≤ 1000360 := by
        rw [List.length_append, List.length_take]
        omega
      refine Round.yes (decide_eq_true h5) ?_
      simp only [e1, e2, e3]
      refine Round.bind (e75 hf.1 hf.2 htt.1 htt.2 hw.1 hw.2 h4 (by omega) hn1.1 hn1.2) (Round.chk (decide_eq_true (by simp only [List.length_cons, List.length_nil]; omega)) (Round.inr _ ⟨(), ?_, trivial⟩))
      rw [wrap16 (x := liftP (toF p.1 (p.2.1.take i.toNat)) v.2.2.1 v.1 j v.2.1) (by omega) (by omega), seg_take _ _ h4 h5, List.append_assoc, wr_succ h4 h5 (by omega)]
    · intro _ _
      have ht2 : (seg (toF p.1 (p.2.1.take i.toNat)) v).take v.2.1.toNat = seg (toF p.1 (p.2.1.take i.toNat)) v := List.take_of_length_le (by rw [seg_len]; omega)
      refine Round.no (by simp) (Round.inl _ ⟨(), ?_, trivial⟩)
      rw [hv.take, proF_snoc, toF_snoc, e3, wr_succ h2 h3 (by omega), ht2]
  · intro _ _
    simp only [take_all]
    exact Round.no (by simp) (Round.done (Evt.some _))
/- impl.MakeProfile -/
theorem e6 {p : Prg} (hr : RngPg p) (h : okPg p = true) (hi : ∀ v ∈ p.2.1, MoIn 0 10000 v) : Evt (fun n => call T C n 6 (p, ())) ((proF p.1 p.2.1, 0, ()), ()) := by
  have G := goodPg hr h
  have hv := e28 p hr
  rw [h] at hv
  refine Evt.next (Evt.bind hv ?_) (fun n => r6 n p)
  exact Evt.no (by decide) (Evt.bind (e29 hr G.n.2 G.t hi) (Evt.some _))
/- spec.l00In -/
theorem e76 (a b c : Int) : Evt (fun n => call T C n 76 (a, b, c, ())) ((inR a b c, ()), ()) := by
  refine Evt.next ?_ (fun n => r76 n a b c)
  refine Evt.ite (fun h => ?_) (fun h => ?_)
  · refine (Evt.some _).of_eq fun n => ?_
    have h : b ≤ a := of_decide_eq_true h
    simp [inR, h]
    rfl
  · refine (Evt.some _).of_eq fun n => ?_
    have h : ¬ b ≤ a := by simpa using h
    simp [inR, h]
    rfl
/- spec.l01Lift -/
theorem e77 (a : Int) : Evt (fun n => call T C n 77 (a, ())) ((inR a 0 10000, ()), ()) := Evt.next (Evt.bind (e76 a 0 10000) (Evt.some _)) (fun n => r77 n a)
/- spec.l02Law -/
theorem e78 (a : Int) : Evt (fun n => call T C n 78 (a, ())) ((inR a 0 3, ()), ()) := Evt.next (Evt.bind (e76 a 0 3) (Evt.some _)) (fun n => r78 n a)
/- spec.l01Steps -/
theorem e79 (a : Int) : Evt (fun n => call T C n 79 (a, ())) ((inR a 8 360, ()), ()) := Evt.next (Evt.bind (e76 a 8 360) (Evt.some _)) (fun n => r79 n a)
/- spec.l02Ok -/
theorem e30 (p : Prg) (hr : RngPg p) : Evt (fun n => call T C n 30 (p, ())) ((okPg p, ()), ()) := by
  refine Evt.next (Evt.bind (e76 _ _ _) ?_) (fun n => r30 n p)
  unfold okPg
  cases h1 : inR (p.2.1.length : Int) 1 24 with
  | false => exact Evt.yes rfl (Evt.some _)
  | true =>
    have hn := inR_iff.1 h1
    refine Evt.no (by simp) (Evt.bind (e77 _) ?_)
    cases h2 : inR (wr .i64 p.1) 0 10000 with
    | false => exact Evt.yes rfl (Evt.some _)
    | true =>
      refine Evt.no (by simp) ?_
      have hb := sumM_take hr.m hn.2
      refine for_evt' 0 (p.2.1.length : Int) (fun i (_ : Unit) => (p, (p.2.1.length : Int), sumM (p.2.1.take i.toNat), i, ())) (fun i _ => p.2.1.all moOk = (p.2.1.drop i.toNat).all moOk) (b0 := ()) (by simp [sumM]) (by omega) (by simp) ?_ ?_
      · intro i _ h3 h4 hp
        obtain ⟨v, hv⟩ := at_of h3 h4
        have hrv := hr.m.el v hv.mem
        have hbi := hb i.toNat
        rw [hv.drop] at hp
        simp only [List.all_cons] at hp
        have bad : moOk v = false → (true && true && p.2.1.all moOk && inR (sumM p.2.1) 8 360 && (lastT p.2.1 == p.1)) = false := fun h => by rw [hp, h]; simp
        refine Round.yes (decide_eq_true h4) (Round.at hv.idx (Round.bind (e78 _) ?_))
        cases k1 : inR (wr .i64 v.1) 0 3 with
        | false =>
          rw [bad (by unfold moOk; rw [k1]; rfl)]
          exact Round.yes rfl (Round.done (Evt.some _))
        | true =>
          refine Round.no (by simp) ?_
          cases k2 : decide (v.2.1 < 1) with
          | true =>
            rw [bad (by unfold moOk; rw [k1, k2]; rfl)]
            exact Round.yes rfl (Round.done (Evt.some _))
          | false =>
            refine Round.no (by simp) (Round.bind (e77 _) ?_)
            cases k3 : inR (wr .i64 v.2.2.1) 0 10000 with
            | false =>
              rw [bad (by unfold moOk; rw [k1, k2, k3]; rfl)]
              exact Round.yes rfl (Round.done (Evt.some _))
            | true =>
              have hm : moOk v = true := by unfold moOk; rw [k1, k2, k3]; rfl
              rw [hm, Bool.true_and] at hp
              refine Round.no (by simp) (Round.again _ ⟨(), ?_, hp⟩)
              rw [hr.m.i2 hv.mem, wrap_id (x := sumM (p.2.1.take i.toNat) + v.2.1) (by omega) (by omega), hv.take, sumM_snoc, wr_succ h3 h4 (by omega)]
      · intro _ hp
        rw [drop_all] at hp
        have hp : p.2.1.all moOk = true := by rw [hp]; rfl
        rw [hp]
        simp only [take_all]
        refine Round.no (by simp) (Round.done (Evt.bind (e79 _) ?_))
        cases k4 : inR (sumM p.2.1) 8 360 with
        | false => exact Evt.no (by simp) (Evt.some _)
        | true =>
          obtain ⟨v, hv⟩ := at_of (l := p.2.1) (i := (p.2.1.length : Int) - 1) (by omega) (by omega)
          have hl : lastT p.2.1 = v.2.2.1 := by unfold lastT; rw [hv.idx]; rfl
          refine Evt.yes rfl ?_
          simp only [wrap_id (x := (p.2.1.length : Int) - 1) (by omega) (by omega)]
          refine Evt.at hv.idx ?_
          rw [hl]
          exact Evt.some _
/- spec.l02Shape -/
theorem e121 {w k n : Int} (w0 : 0 ≤ w) (w1 : w ≤ 3) (k0 : 0 ≤ k) (k1 : k ≤ n) (n1 : n ≤ 360) : Evt (fun m => call T C m 121 (w, k, n, ())) ((shN w k n, shD w n, ()), ()) := by
  refine Evt.next ?_ (fun m => r121 m w k n)
  have W : ∀ x : Int, -9000000000000000000 ≤ x → x ≤ 9000000000000000000 → wr .i64 x = x := fun x a b => wrap_id (by omega) (by omega)
  have q2 := mulB (show 0 ≤ n by omega) n1 (show 0 ≤ n by omega) n1
  have q3 := mulB q2.1 q2.2 (show 0 ≤ n by omega) n1
  have q4 := mulB q3.1 q3.2 (show 0 ≤ n by omega) n1
  have q5 := mulB q4.1 q4.2 (show 0 ≤ n by omega) n1
  have kk := mulB (show 0 ≤ 2 * k by omega) (show 2 * k ≤ 720 by omega) k0 (show k ≤ 360 by omega)
  have dd := mulB (show 0 ≤ 2 * (n - k) by omega) (show 2 * (n - k) ≤ 720 by omega) (show 0 ≤ n - k by omega) (show n - k ≤ 360 by omega)
  have k3 := mulB (show 0 ≤ 3 * k by omega) (show 3 * k ≤ 1080 by omega) k0 (show k ≤ 360 by omega)
  have k3n := mulB k3.1 k3.2 (show 0 ≤ n by omega) n1
  have kkk := mulB kk.1 kk.2 k0 (show k ≤ 360 by omega)
  have c2 := mulB k0 (show k ≤ 360 by omega) k0 (show k ≤ 360 by omega)
  have c3 := mulB c2.1 c2.2 k0 (show k ≤ 360 by omega)
  have e1 := mulB (show 0 ≤ 10 * n by omega) (show 10 * n ≤ 3600 by omega) (show 0 ≤ n by omega) n1
  have e2 := mulB (show 0 ≤ 15 * k by omega) (show 15 * k ≤ 5400 by omega) (show 0 ≤ n by omega) n1
  have e3 := mulB (show 0 ≤ 6 * k by omega) (show 6 * k ≤ 2160 by omega) k0 (show k ≤ 360 by omega)
  have a1 : k * k * k * (-1944000) ≤ k * k * k * (10 * n * n - 15 * k * n + 6 * k * k) := Int.mul_le_mul_of_nonneg_left (by omega) c3.1
  have a2 : k * k * k * (10 * n * n - 15 * k * n + 6 * k * k) ≤ k * k * k * 2073600 := Int.mul_le_mul_of_nonneg_left (by omega) c3.1
  have one : Evt (fun _ => if decide (wr .i64 (2 * k) ≤ n) = true then some ((wr .i64 (wr .i64 (2 * k) * k), wr .i64 (n * n), ()), ()) else some ((wr .i64 (wr .i64 (n * n) - wr .i64 (wr .i64 (2 * wr .i64 (n - k)) * wr .i64 (n - k))), wr .i64 (n * n), ()), ())) ((shN 1 k n, shD 1 n, ()), ()) := by
    rw [W (2 * k) (by omega) (by omega), W (2 * k * k) (by omega) (by omega), W (n * n) (by omega) (by omega), W (n - k) (by omega) (by omega), W (2 * (n - k)) (by omega) (by omega), W (2 * (n - k) * (n - k)) (by omega) (by omega), W (n * n - 2 * (n - k) * (n - k)) (by omega) (by omega)]
    refine Evt.ite (fun h => ?_) (fun h => ?_)
    · have : shN 1 k n = 2 * k * k := by unfold shN; rw [if_pos rfl, if_pos (of_decide_eq_true h)]
      rw [this]; exact Evt.some _
    · have : shN 1 k n = n * n - 2 * (n - k) * (n - k) := by unfold shN; rw [if_pos rfl, if_neg (by simpa using h)]
      rw [this]; exact Evt.some _
  have two : Evt (fun _ => some ((wr .i64 (wr .i64 (wr .i64 (wr .i64 (3 * k) * k) * n) - wr .i64 (wr .i64 (wr .i64 (2 * k) * k) * k)), wr .i64 (wr .i64 (n * n) * n), ()), ())) ((shN 2 k n, shD 2 n, ()), ()) := by
    rw [W (3 * k) (by omega) (by omega), W (3 * k * k) (by omega) (by omega), W (3 * k * k * n) (by omega) (by omega), W (2 * k) (by omega) (by omega), W (2 * k * k) (by omega) (by omega), W (2 * k * k * k) (by omega) (by omega), W (3 * k * k * n - 2 * k * k * k) (by omega) (by omega), W (n * n) (by omega) (by omega), W (n * n * n) (by omega) (by omega)]
    exact Evt.some _
  have three : Evt (fun _ => some ((wr .i64 (wr .i64 (wr .i64 (k * k) * k) * wr .i64 (wr .i64 (wr .i64 (wr .i64 (10 * n) * n) - wr .i64 (wr .i64 (15 * k) * n)) + wr .i64 (wr .i64 (6 * k) * k))), wr .i64 (wr .i64 (wr .i64 (wr .i64 (n * n) * n) * n) * n), ()), ())) ((shN 3 k n, shD 3 n, ()), ()) := by
    rw [W (k * k) (by omega) (by omega), W (k * k * k) (by omega) (by omega), W (10 * n) (by omega) (by omega), W (10 * n * n) (by omega) (by omega), W (15 * k) (by omega) (by omega), W (15 * k * n) (by omega) (by omega), W (10 * n * n - 15 * k * n) (by omega) (by omega), W (6 * k) (by omega) (by omega), W (6 * k * k) (by omega) (by omega), W (10 * n * n - 15 * k * n + 6 * k * k) (by omega) (by omega), W (k * k * k * (10 * n * n - 15 * k * n + 6 * k * k)) (by omega) (by omega), W (n * n) (by omega) (by omega), W (n * n * n) (by omega) (by omega), W (n * n * n * n) (by omega) (by omega), W (n * n * n * n * n) (by omega) (by omega)]
    exact Evt.some _
  rcases (show w = 0 ∨ w = 1 ∨ w = 2 ∨ w = 3 by omega) with rfl | rfl | rfl | rfl
  · exact Evt.no (by decide) (Evt.no (by decide) (Evt.no (by decide) (Evt.some _)))
  · exact Evt.yes rfl one
  · exact Evt.no (by decide) (Evt.yes rfl two)
  · exact Evt.no (by decide) (Evt.no (by decide) (Evt.yes rfl three))
/- spec.l01Near -/
theorem e122 {x n : Int} (hn : 0 < n) (hn' : n ≤ 10000000000000) (h1 : -2000000000000000000 ≤ x) (h2 : x ≤ 2000000000000000000) : Evt (fun m => call T C m 122 (x, n, ())) ((nr x n, ()), ()) := by
  have hbd := ediv_bd (a := 2 * x + n) (b := 2 * n) (M := 4500000000000000000) (by omega) (by omega) (by omega) (by omega)
  have he := floorDiv_eq (a := 2 * x + n) (b := 2 * n) (by omega)
  refine Evt.next ?_ (fun m => r122 m x n)
  rw [wrap_id (x := 2 * n) (by omega) (by omega), wrap_id (x := 2 * x) (by omega) (by omega), wrap_id (x := 2 * x + n) (by omega) (by omega)]
  refine Evt.chk (bne_pos (by omega)) (Evt.chk (bne_pos (by omega)) (Evt.ite (fun h => ?_) (fun h => ?_)))
  · have h : Int.tmod (2 * x + n) (2 * n) < 0 := of_decide_eq_true h
    rw [if_pos h] at he
    refine (Evt.some _).of_eq fun m => ?_
    rw [wrap_id (x := Int.tdiv (2 * x + n) (2 * n)) (by omega) (by omega), wrap_id (by omega) (by omega), he]
    rfl
  · have h : ¬ Int.tmod (2 * x + n) (2 * n) < 0 := by simpa using h
    rw [if_neg h] at he
    refine (Evt.some _).of_eq fun m => ?_
    rw [wrap_id (x := Int.tdiv (2 * x + n) (2 * n)) (by omega) (by omega), he]
    rfl
/- spec.l02Lift -/
theorem e80 {f t w k n : Int} (f0 : 0 ≤ f) (f1 : f ≤ 10000) (t0 : 0 ≤ t) (t1 : t ≤ 10000) (w0 : 0 ≤ w) (w1 : w ≤ 3) (k0 : 0 ≤ k) (k1 : k ≤ n) (n0 : 1 ≤ n) (n1 : n ≤ 360) : Evt (fun m => call T C m 80 (f, t, w, k, n, ())) ((liftP f t w k n, ()), ()) := by
  have hd := shD_bd (w := w) n0 n1
  have hb := lift_bd (w := w) f0 f1 t0 t1 k0 k1 n0 n1
  refine Evt.next (Evt.bind (e121 w0 w1 k0 k1 n1) ?_) (fun m => r80 m f t w k n)
  show Evt (fun m => (call T C m 122 (wr .i64 (wr .i64 (f * shD w n) + wr .i64 (wr .i64 (t - f) * shN w k n)), shD w n, ())).bind _) _
  rw [wrap_id (x := f * shD w n) (by omega) (by omega), wrap_id (x := t - f) (by omega) (by omega), wrap_id (x := (t - f) * shN w k n) (by omega) (by omega), wrap_id (x := f * shD w n + (t - f) * shN w k n) (by omega) (by omega)]
  exact Evt.bind (e122 (by omega) (by omega) (by omega) (by omega)) (Evt.some _)
/- spec.l02Make -/
theorem e31 {p : Prg} (hr : RngPg p) (hn : (p.2.1.length : Int) ≤ 24) (ht : 0 ≤ p.1 ∧ p.1 ≤ 10000) (hi : ∀ v ∈ p.2.1, MoIn 0 10000 v) : Evt (fun n => call T C n 31 (p, ())) ((proF p.1 p.2.1, ()), ()) := by
  refine Evt.next ?_ (fun n => r31 n p)
  rw [wrap_id (x := p.1) (by omega) (by omega)]
  have hpl : ∀ i : Nat, ((proF p.1 (p.2.1.take i)).length : Int) ≤ 1000000 := fun i => by
    have h1 := proF_len (p.2.1.take i) p.1 fun v hv => (hi v (List.mem_of_mem_take hv)).n.1
    have h2 := sumM_take hr.m hn i
    omega
  refine for_evt' 0 (p.2.1.length : Int) (fun i (_ : Unit) => (p, proF p.1 (p.2.1.take i.toNat), toF p.1 (p.2.1.take i.toNat), i, ())) (fun _ _ => True) (b0 := ()) (by simp [proF, toF]) (by omega) trivial ?_ ?_
  · intro i _ h2 h3 _
    obtain ⟨v, hv⟩ := at_of h2 h3
    have hm := hi v hv.mem
    have hw := hm.w
    have hn1 := hm.n
    have htt := hm.t
    have hf := toF_in (p.2.1.take i.toNat) (f := p.1) (fun u hu => hi u (List.mem_of_mem_take hu)) ht.1 ht.2
    have hl := hpl i.toNat
    refine Round.yes (decide_eq_true h3) (Round.at hv.idx ?_)
    have e2 : wr .i64 v.2.1 = v.2.1 := hr.m.i2 hv.mem
    have e1 : wr .i64 v.1 = v.1 := hr.m.i1 hv.mem
    have e3 : wr .i64 v.2.2.1 = v.2.2.1 := hr.m.i3 hv.mem
    refine for_round' 0 v.2.1 (fun j (_ : Unit) => (p, proF p.1 (p.2.1.take i.toNat) ++ (seg (toF p.1 (p.2.1.take i.toNat)) v).take j.toNat, toF p.1 (p.2.1.take i.toNat), i, v, j, ())) (fun _ _ => True) (b0 := ()) (by simp) (by omega) trivial ?_ ?_
    · intro j _ h4 h5 _
      have hb := liftP_in (f := toF p.1 (p.2.1.take i.toNat)) (t := v.2.2.1) (w := v.1) (k := j) (n := v.2.1) (lo := 0) (hi := 10000) hw.1 hw.2 h4 (by omega) hn1.1 hn1.2 hf.1 hf.2 htt.1 htt.2
      have hsl := seg_len (toF p.1 (p.2.1.take i.toNat)) v
      have hlen : ((proF p.1 (p.2.1.take i.toNat) ++ (seg (toF p.1 (p.2.1.take i.toNat)) v).take j.toNat).length : Int) ≤ 1000360 := by
        rw [List.length_append, List.length_take]
        omega
      refine Round.yes (decide_eq_true (show j < wr .i64 v.2.1 by rw [e2]; exact h5)) ?_
      simp only [e1, e2, e3]
      refine Round.bind (e80 hf.1 hf.2 htt.1 htt.2 hw.1 hw.2 h4 (by omega) hn1.1 hn1.2) (Round.chk (decide_eq_true (by simp only [List.length_cons, List.length_nil]; omega)) (Round.inr _ ⟨(), ?_, trivial⟩))
      rw [wrap16 (x := liftP (toF p.1 (p.2.1.take i.toNat)) v.2.2.1 v.1 j v.2.1) (by omega) (by omega), seg_take _ _ h4 h5, List.append_assoc, wr_succ h4 h5 (by omega)]
    · intro _ _
      have ht2 : (seg (toF p.1 (p.2.1.take i.toNat)) v).take v.2.1.toNat = seg (toF p.1 (p.2.1.take i.toNat)) v := List.take_of_length_le (by rw [seg_len]; omega)
      refine Round.no (by simp [e2]) (Round.inl _ ⟨(), ?_, trivial⟩)
      rw [hv.take, proF_snoc, toF_snoc, e3, wr_succ h2 h3 (by omega), ht2]
  · intro _ _
    simp only [take_all]
    exact Round.no (by simp) (Round.done (Evt.some _))
/- spec.MakeProfile -/
theorem e7 {p : Prg} (S : SmPg p) : Evt (fun n => call T C n 7 (p, ())) ((proF p.1 p.2.1, 0, ()), ()) := by
  have ho := e30 p S.rng
  rw [S.ok] at ho
  have ht := S.t
  have hn := S.n
  refine Evt.next (Evt.bind ho (Evt.no (by simp) ?_)) (fun n => r7 n p)
  exact Evt.bind (e31 S.rng (by omega) (by omega) (fun v hv => by
    have h := S.ins v hv
    exact ⟨h.w, h.n, by have := h.t; omega⟩)) (Evt.some _)
/- (impl.Cam).steps -/
theorem e43 (a : List Int) : Evt (fun n => call T C n 43 (a, ())) (((a.length : Int), ()), ()) := Evt.next (Evt.some _) (fun n => r43 n a)
/- impl.ValidCam$1 -/
theorem e82 (v : Int) : Evt (fun n => call T C n 82 (v, ())) ((!okV v, ()), ()) := Evt.next (Evt.bind (e69 _) (Evt.some _)) (fun n => r82 n v)
/- slices.IndexFunc[impl.Cam,int16]{impl.ValidCam$1} -/
theorem e123 (l : List Int) (hl : (l.length : Int) ≤ 140737488351232) : Evt (fun n => call T C n 123 (l, ((), ()), ())) ((fi (fun v => !okV v) l 0, ()), ()) := by
  refine Evt.next ?_ (fun n => r123 n l ((), ()))
  refine loop_evt (fun (x : List Int × (Unit × Unit) × Int × Int × Unit) => x.1 = l ∧ x.2.2.1 = (l.length : Int) ∧ 0 ≤ x.2.2.2.1 ∧ x.2.2.2.1 ≤ (l.length : Int) ∧ fi (fun v => !okV v) l 0 = fi (fun v => !okV v) (l.drop x.2.2.2.1.toNat) x.2.2.2.1) (fun (x : List Int × (Unit × Unit) × Int × Int × Unit) => ((l.length : Int) - x.2.2.2.1).toNat) (x := (l, ((), ()), (l.length : Int), 0, ())) ⟨rfl, rfl, Int.le_refl _, by simp, by simp⟩ ?_
  rintro ⟨x1, u, m, i, _⟩ ⟨h', hm, h0, h1, h2⟩
  simp only at h' hm h0 h1 h2
  subst h'; subst hm
  refine Round.ite (fun hlt => ?_) (fun hge => ?_)
  · have hlt : i < (x1.length : Int) := of_decide_eq_true hlt
    obtain ⟨v, hv, hv'⟩ := idx_at h0 hlt
    have hd := drop_cons hv'
    refine Round.at hv (Round.bind (e82 _) (Round.ite (fun hb => ?_) (fun hb => ?_)))
    · have hb : okV v = false := by simpa using hb
      have h3 : fi (fun v => !okV v) x1 0 = i := by rw [h2, hd]; simp [fi, hb]
      rw [h3]
      exact Round.done (Evt.some _)
    · have hb : okV v = true := by simpa using hb
      have hw : wr .i64 (i + 1) = i + 1 := wrap_id (by omega) (by omega)
      refine Round.again _ ⟨⟨rfl, rfl, ?_, ?_, ?_⟩, ?_⟩ <;> simp only [hw]
      · omega
      · omega
      · rw [h2, hd, show (i + 1).toNat = i.toNat + 1 by omega]
        simp [fi, hb]
      · omega
  · have hge : ¬ i < (x1.length : Int) := by simpa using hge
    have : x1.drop i.toNat = [] := List.drop_of_length_le (by omega)
    rw [h2, this]
    exact Round.done (Evt.some _)
/- slices.ContainsFunc[impl.Cam,int16]{impl.ValidCam$1} -/
theorem e81 (l : List Int) (hl : (l.length : Int) ≤ 140737488351232) : Evt (fun n => call T C n 81 (l, ((), ()), ())) ((l.any (fun v => !okV v), ()), ()) := by
  refine Evt.next (Evt.bind (e123 l hl) ((Evt.some _).of_eq fun n => ?_)) (fun n => r81 n l ((), ()))
  simp only [fi_any _ l 0 (Int.le_refl _)]
  rfl
/- impl.ValidCam -/
theorem e32 (l : List Int) (hl : (l.length : Int) ≤ 140737488351232) : Evt (fun n => call T C n 32 (l, ())) ((okC l, ()), ()) := by
  refine Evt.next (Evt.bind (e43 l) (Evt.bind (e73 _) ?_)) (fun n => r32 n l)
  refine Evt.ite (fun h => ?_) (fun h => ?_)
  · refine Evt.bind (e81 l hl) ((Evt.some _).of_eq fun n => ?_)
    have h : inR (l.length : Int) 8 360 = true := h
    have : okC l = !l.any (fun v => !okV v) := by simp [okC, h, List.any_eq_not_all_not]
    rw [this]
    rfl
  · refine (Evt.some _).of_eq fun n => ?_
    have h : inR (l.length : Int) 8 360 = false := by simpa using h
    simp [okC, h]
    rfl
/- impl.mod -/
theorem e94 {a b : Int} (hb : 0 < b) (hb' : b ≤ 1000000000000) (h1 : -1000000000000 ≤ a) (h2 : a ≤ 1000000000000) : Evt (fun n => call T C n 94 (a, b, ())) ((a % b, ()), ()) := by
  have hd := Int.emod_def a b
  have h3 := Int.emod_nonneg a (show b ≠ 0 by omega)
  have h4 := Int.emod_lt_of_pos a hb
  refine Evt.next (Evt.bind (e127 hb (by omega) (by omega)) ((Evt.some _).of_eq fun n => ?_)) (fun n => r94 n a b)
  simp only
  rw [wrap_id (x := b * (a / b)) (by omega) (by omega), ← hd, wrap_id (by omega) (by omega)]
  rfl
/- (impl.Cam).at -/
theorem e86 {l : List Int} (hr : Rng l) (h0 : 0 < (l.length : Int)) (h1 : (l.length : Int) ≤ 1000000) {x : Int} (hx : -4000000 ≤ x) (hx' : x ≤ 4000000) : Evt (fun n => call T C n 86 (l, x, ())) ((cAt l x, ()), ()) := by
  have hp := Int.emod_nonneg x (show (l.length : Int) ≠ 0 by omega)
  have hq := Int.emod_lt_of_pos x h0
  have hv := g_idx (l := l) hp hq
  refine Evt.next (Evt.bind (e43 l) (Evt.bind (e94 (a := x) h0 (by omega) (by omega) (by omega)) (Evt.at hv.idx ((Evt.some _).of_eq fun n => ?_)))) (fun n => r86 n l x)
  rw [hr.id hv.mem]
  rfl
/- (impl.Cam).change -/
theorem e83 {c : List Int} (hr : Rng c) (h0 : 0 < c.length) (h1 : c.length ≤ 1000) {x : Int} (x0 : -1000000 ≤ x) (x1 : x ≤ 1000000) : Evt (fun n => call T C n 83 (c, x, ())) ((cAt c (x + 1) - cAt c x, ()), ()) := by
  have b1 := hr.el _ (cAt_mem h0 (x + 1))
  have b2 := hr.el _ (cAt_mem h0 x)
  refine Evt.next ?_ (fun n => r83 n c x)
  rw [wrap_id (x := x + 1) (by omega) (by omega)]
  refine Evt.bind (e86 hr (by omega) (by omega) (by omega) (by omega)) (Evt.bind (e86 hr (by omega) (by omega) (by omega) (by omega)) ((Evt.some _).of_eq fun n => ?_))
  show some ((wr .i64 (cAt c (x + 1) - cAt c x), ()), ()) = _
  rw [wrap_id (x := cAt c (x + 1) - cAt c x) (by omega) (by omega)]
  rfl
/- (impl.Cam).bend -/
theorem e35 {c : List Int} (hr : Rng c) (h0 : 0 < c.length) (h1 : c.length ≤ 1000) {x : Int} (x0 : -100000 ≤ x) (x1 : x ≤ 100000) : Evt (fun n => call T C n 35 (c, x, ())) ((bendP c x, ()), ()) := by
  have b1 := hr.el _ (cAt_mem h0 (x + 1))
  have b2 := hr.el _ (cAt_mem h0 x)
  have b3 := hr.el _ (cAt_mem h0 (x - 1))
  refine Evt.next ?_ (fun n => r35 n c x)
  rw [wrap_id (x := x - 1) (by omega) (by omega)]
  refine Evt.bind (e83 hr h0 h1 (by omega) (by omega)) (Evt.bind (e83 hr h0 h1 (by omega) (by omega)) ((Evt.some _).of_eq fun n => ?_))
  show some ((wr .i64 (cAt c (x + 1) - cAt c x - (cAt c (x - 1 + 1) - cAt c (x - 1))), ()), ()) = _
  rw [show x - 1 + 1 = x by omega, wrap_id (by omega) (by omega), show cAt c (x + 1) - cAt c x - (cAt c x - cAt c (x - 1)) = bendP c x by unfold bendP; omega]
  rfl
/- (impl.Cam).numbers{(impl.Cam).bend} -/
theorem e34 {c : List Int} (hr : Rng c) (h0 : 0 < c.length) (h1 : c.length ≤ 1000) : Evt (fun n => call T C n 34 (c, ((c, ()), ()), ())) ((bends c, ()), (((c, ()), ()), ())) := by
  refine Evt.next (Evt.bind (e43 c) ?_) (fun n => r34 n c ((c, ()), ()))
  refine for_evt' 0 (c.length : Int) (fun i (_ : Unit) => (((c, ()), ()), tb i.toNat (fun i => bendP c (i : Nat)), (c.length : Int), i, ())) (fun _ _ => True) (b0 := ()) rfl (by omega) trivial ?_ ?_
  · intro i _ h2 h3 _
    obtain ⟨k, rfl⟩ : ∃ k : Nat, i = k := ⟨i.toNat, by omega⟩
    refine Round.yes (decide_eq_true h3) (Round.bind (e35 hr h0 h1 (x := (k : Int)) (by omega) (by omega)) (Round.chk (decide_eq_true (by simp only [tb_len, List.length_cons, List.length_nil]; omega)) (Round.again _ ⟨(), ?_, trivial⟩)))
    rw [wr_succ h2 h3 (by omega), show ((k : Int) + 1).toNat = k + 1 by omega, ← tb_snoc, Int.toNat_natCast]
  · intro _ _
    rw [Int.toNat_natCast]
    exact Round.no (by simp) (Round.done (Evt.some _))
/- slices.Min[[]int64,int64] -/
theorem e33 (l : List Int) (hlen : (l.length : Int) ≤ 1000000) (h0 : 0 < (l.length : Int)) : Evt (fun n => call T C n 33 (l, ())) ((mnL l, ()), ()) := by
  obtain ⟨v0, hv0⟩ := at_of (l := l) (Int.le_refl 0) h0
  refine Evt.next (Evt.no (by simp; omega) (Evt.at hv0.idx ?_)) (fun n => r33 n l)
  have hh := (head_at hv0).1
  refine for_evt' 1 (l.length : Int) (fun i (_ : Unit) => (l, mnF (l.take i.toNat) v0, i, ())) (fun _ _ => True) (b0 := ()) (by
    have := (head_at hv0).2
    show _ = (l, mnF (l.take 1) v0, 1, ())
    rw [this]; simp [mnF]) (by omega) trivial ?_ ?_
  · intro i _ h2 h3 _
    obtain ⟨v, hv⟩ := at_of (l := l) (show 0 ≤ i by omega) h3
    simp only [wrap_id (x := i + 1) (by omega) (by omega)]
    refine Round.yes (decide_eq_true h3) (Round.at hv.idx (Round.again _ ⟨(), ?_, trivial⟩))
    rw [hv.take, mnF_snoc]
    congr 2
    split <;> omega
  · intro _ _
    have e2 : mnF (l.take (l.length : Int).toNat) v0 = mnL l := by rw [take_all, mnL, hh]
    simp only [e2]
    exact Round.no (by simp) (Round.done (Evt.some _))
/- impl.LeastSpring -/
theorem e8 {c : List Int} (hr : Rng c) (ok : okC c = true) : Evt (fun n => call T C n 8 (c, ())) ((sprF (bends c), 0, ()), ()) := by
  have lx := okC_len ok
  have hC := okC_el ok hr
  have h0 : 0 < c.length := by omega
  have hv := e32 c (by omega)
  rw [ok] at hv
  have hb : ∀ v ∈ bends c, -20000 ≤ v ∧ v ≤ 20000 := fun v hv => by
    obtain ⟨i, _, rfl⟩ := tb_mem hv
    exact bends_bd h0 hC i
  have hmn := mnL_bd (bends_ne h0) hb
  have hw : wr .i64 (0 - mnL (bends c)) = -(mnL (bends c)) := by rw [wrap_id (by omega) (by omega)]; omega
  have hl := bends_len c
  refine Evt.next (Evt.bind hv (Evt.no (by simp) (Evt.bind (e34 hr h0 (by omega)) (Evt.bind (e33 (bends c) (by omega) (by omega)) ((Evt.some _).of_eq fun n => ?_))))) (fun n => r8 n c)
  simp only [hw]
  rw [sprF_mn (bends_ne h0)]
  rfl
/- spec.l01Ok -/
theorem e36 (l : List Int) (hl : (l.length : Int) ≤ 140737488351232) : Evt (fun n => call T C n 36 (l, ())) ((okC l, ()), ()) := by
  refine Evt.next ?_ (fun n => r36 n l)
  refine Evt.bind (e79 _) ?_
  refine Evt.ite (fun h => ?_) (fun h => ?_)
  · refine (Evt.some _).of_eq fun n => ?_
    have h : inR (l.length : Int) 8 360 = false := by simpa using h
    simp [okC, h]
    rfl
  · have h : inR (l.length : Int) 8 360 = true := by simpa using h
    have he : okC l = l.all okV := by simp [okC, h]
    rw [he]
    refine loop_evt (fun (x : List Int × Int × Unit) => x.1 = l ∧ 0 ≤ x.2.1 ∧ x.2.1 ≤ (l.length : Int) ∧ l.all okV = (l.drop x.2.1.toNat).all okV) (fun (x : List Int × Int × Unit) => ((l.length : Int) - x.2.1).toNat) (x := (l, 0, ())) ⟨rfl, Int.le_refl _, by simp, by simp⟩ ?_
    rintro ⟨x1, i, _⟩ ⟨h', h0, h1, h2⟩
    simp only at h' h0 h1 h2
    subst h'
    refine Round.ite (fun hlt => ?_) (fun hge => ?_)
    · have hlt : i < (x1.length : Int) := of_decide_eq_true hlt
      obtain ⟨v, hv, hv'⟩ := idx_at h0 hlt
      have hd := drop_cons hv'
      refine Round.at hv (Round.bind (e77 _) (Round.ite (fun hb => ?_) (fun hb => ?_)))
      · have hb : okV v = false := by simpa [okV] using hb
        have h3 : x1.all okV = false := by rw [h2, hd]; simp [hb]
        rw [h3]
        exact Round.done (Evt.some _)
      · have hb : okV v = true := by simpa [okV] using hb
        have hw : wr .i64 (i + 1) = i + 1 := wrap_id (by omega) (by omega)
        refine Round.again _ ⟨⟨rfl, ?_, ?_, ?_⟩, ?_⟩ <;> simp only [hw]
        · omega
        · omega
        · rw [h2, hd, show (i + 1).toNat = i.toNat + 1 by omega]
          simp [hb]
        · omega
    · have hge : ¬ i < (x1.length : Int) := by simpa using hge
      have : x1.drop i.toNat = [] := List.drop_of_length_le (by omega)
      rw [h2, this]
      exact Round.done (Evt.some _)
/- spec.l01At -/
theorem e84 {l : List Int} (hr : Rng l) (h0 : 0 < (l.length : Int)) (h1 : (l.length : Int) ≤ 1000000) {x : Int} (hx : -4000000 ≤ x) (hx' : x ≤ 4000000) : ∃ v, l[(x % l.length).toNat]? = some v ∧ v ∈ l ∧ Evt (fun n => call T C n 84 (l, x, ())) ((v, ()), ()) := by
  have hp := Int.emod_nonneg x (show (l.length : Int) ≠ 0 by omega)
  obtain ⟨v, hv⟩ := at_of (l := l) hp (Int.emod_lt_of_pos x h0)
  refine ⟨v, hv.get, hv.mem, ?_⟩
  refine Evt.next (Evt.chk (bne_pos h0) (Evt.chk (bne_pos h0) ?_)) (fun n => r84 n l x)
  rw [turn_at h0 h1 hx hx']
  refine Evt.at hv.idx ((Evt.some _).of_eq fun n => ?_)
  rw [hr.id hv.mem]
  rfl
theorem e84' {l : List Int} (hr : Rng l) (h0 : 0 < (l.length : Int)) (h1 : (l.length : Int) ≤ 1000000) {x : Int} (hx : -4000000 ≤ x) (hx' : x ≤ 4000000) : Evt (fun n => call T C n 84 (l, x, ())) ((cAt l x, ()), ()) := by
  obtain ⟨v, hv, hm, he⟩ := e84 hr h0 h1 hx hx'
  have : cAt l x = v := by unfold cAt g; rw [List.getD_eq_getElem?_getD, hv]; rfl
  rw [this]; exact he
/- spec.l01Bends -/
theorem e37 {c : List Int} (hr : Rng c) (ok : okC c = true) : Evt (fun n => call T C n 37 (c, ())) ((bends c, ()), ()) := by
  have lx := okC_len ok
  have hC := okC_el ok hr
  have h0 : 0 < c.length := by omega
  refine Evt.next ?_ (fun n => r37 n c)
  refine for_evt' 0 (c.length : Int) (fun i (_ : Unit) => (c, tb i.toNat (fun i => bendP c (i : Nat)), i, ())) (fun _ _ => True) (b0 := ()) rfl (by omega) trivial ?_ ?_
  · intro i _ h2 h3 _
    obtain ⟨k, rfl⟩ : ∃ k : Nat, i = k := ⟨i.toNat, by omega⟩
    have a := hC _ (cAt_mem h0 ((k : Int) + 1))
    have b := hC _ (cAt_mem h0 (k : Int))
    have d := hC _ (cAt_mem h0 ((k : Int) - 1))
    refine Round.yes (decide_eq_true h3) ?_
    simp only [wrap_id (x := (k : Int) + 1) (by omega) (by omega), wrap_id (x := (k : Int) - 1) (by omega) (by omega)]
    refine Round.bind (e84' hr (by omega) (by omega) (x := (k : Int) + 1) (by omega) (by omega)) (Round.bind (e84' hr (by omega) (by omega) (x := (k : Int)) (by omega) (by omega)) (Round.bind (e84' hr (by omega) (by omega) (x := (k : Int) - 1) (by omega) (by omega)) ?_))
    simp only [wrap_id (x := 2 * cAt c (k : Int)) (by omega) (by omega), wrap_id (x := cAt c ((k : Int) + 1) - 2 * cAt c (k : Int)) (by omega) (by omega), wrap_id (x := cAt c ((k : Int) + 1) - 2 * cAt c (k : Int) + cAt c ((k : Int) - 1)) (by omega) (by omega)]
    refine Round.chk (decide_eq_true (by simp only [tb_len, List.length_cons, List.length_nil]; omega)) (Round.again _ ⟨(), ?_, trivial⟩)
    rw [show ((k : Int) + 1).toNat = k + 1 by omega, ← tb_snoc, Int.toNat_natCast]
    rfl
  · intro _ _
    rw [Int.toNat_natCast]
    exact Round.no (by simp) (Round.done (Evt.some _))
/- spec.l00Max -/
theorem e38 (a b : Int) : Evt (fun n => call T C n 38 (a, b, ())) ((max a b, ()), ()) := by
  refine Evt.next (Evt.ite (fun h => ?_) (fun h => ?_)) (fun n => r38 n a b)
  · have h : a > b := of_decide_eq_true h
    rw [show max a b = a by omega]; exact Evt.some _
  · have h : ¬ a > b := by simpa using h
    rw [show max a b = b by omega]; exact Evt.some _
/- spec.LeastSpring -/
theorem e9 {c : List Int} (hr : Rng c) (ok : okC c = true) : Evt (fun n => call T C n 9 (c, ())) ((sprF (bends c), 0, ()), ()) := by
  have lx := okC_len ok
  have hC := okC_el ok hr
  have h0 : 0 < c.length := by omega
  have hv := e36 c (by omega)
  rw [ok] at hv
  have hl := bends_len c
  refine Evt.next (Evt.bind hv (Evt.no (by simp) (Evt.bind (e37 hr ok) ?_))) (fun n => r9 n c)
  refine for_evt' 0 ((bends c).length : Int) (fun i (_ : Unit) => (bends c, sprF ((bends c).take i.toNat), i, ())) (fun _ _ => True) (b0 := ()) rfl (by omega) trivial ?_ ?_
  · intro i _ h2 h3 _
    obtain ⟨v, hv⟩ := at_of h2 h3
    obtain ⟨j, _, ej⟩ := tb_mem hv.mem
    have hb := bends_bd h0 hC (j : Nat)
    rw [← ej] at hb
    refine Round.yes (decide_eq_true h3) (Round.at hv.idx (Round.bind (e38 _ _) (Round.again _ ⟨(), ?_, trivial⟩)))
    rw [wr_succ h2 h3 (by omega), wrap_id (x := 0 - v) (by omega) (by omega), hv.take, sprF_snoc, show (0 : Int) - v = -v by omega]
  · intro _ _
    simp only [take_all]
    exact Round.no (by simp) (Round.done (Evt.some _))
/- spec.l01Same -/
theorem e39 (l : List Int) (hl : (l.length : Int) ≤ 1000000) : Evt (fun n => call T C n 39 (l, l, ())) ((true, ()), ()) := by
  refine Evt.next (Evt.no (by simp) ?_) (fun n => r39 n l l)
  refine for_evt' 0 (l.length : Int) (fun i (_ : Unit) => (l, l, i, ())) (fun _ _ => True) (b0 := ()) rfl (by omega) trivial ?_ ?_
  · intro i _ h2 h3 _
    obtain ⟨v, hv⟩ := at_of h2 h3
    exact Round.yes (decide_eq_true h3) (Round.at hv.idx (Round.at hv.idx (Round.no (by simp) (Round.again _ ⟨(), by rw [wr_succ h2 h3 (by omega)], trivial⟩))))
  · intro _ _
    exact Round.no (by simp) (Round.done (Evt.some _))
theorem e39_2 (a b : List Int) (hl : (a.length : Int) ≤ 1000000) : Evt (fun n => call T C n 39 (a, b, ())) ((decide (a = b), ()), ()) := by
  by_cases hlen : a.length = b.length
  · refine Evt.next (Evt.no (by simp [hlen]) ?_) (fun n => r39 n a b)
    refine for_evt' 0 (a.length : Int) (fun i (_ : Unit) => (a, b, i, ())) (fun i _ => a.take i.toNat = b.take i.toNat) (b0 := ()) rfl (by omega) (by simp) ?_ ?_
    · intro i _ h2 h3 he
      obtain ⟨u, hu⟩ := at_of h2 h3
      obtain ⟨v, hv⟩ := at_of (l := b) h2 (by omega)
      refine Round.yes (decide_eq_true h3) (Round.at hu.idx (Round.at hv.idx (Round.ite (fun h => ?_) (fun h => ?_))))
      · have h : u ≠ v := by simpa using h
        have : a ≠ b := fun e => by
          subst e
          have := hu.get.symm.trans hv.get
          exact h (Option.some.inj this)
        rw [decide_eq_false this]
        exact Round.done (Evt.some _)
      · have h : u = v := by simpa using h
        exact Round.again _ ⟨(), by rw [wr_succ h2 h3 (by omega)], by rw [hu.take, hv.take, he, h]⟩
    · intro _ he
      have he : a = b := by rwa [take_all, hlen, take_all] at he
      rw [decide_eq_true he]
      exact Round.no (by simp) (Round.done (Evt.some _))
  · have : a ≠ b := fun e => hlen (by rw [e])
    rw [decide_eq_false this]
    exact Evt.next (Evt.yes (by simp; omega) (Evt.some _)) (fun n => r39 n a b)
/- spec.SameCam -/
theorem e10 (l : List Int) (hl : (l.length : Int) ≤ 1000000) : Evt (fun n => call T C n 10 (l, l, ())) ((true, ()), ()) := Evt.next (Evt.bind (e39 l hl) (Evt.some _)) (fun n => r10 n l l)
theorem e10_2 (a b : List Int) (hl : (a.length : Int) ≤ 1000000) : Evt (fun n => call T C n 10 (a, b, ())) ((decide (a = b), ()), ()) := Evt.next (Evt.bind (e39_2 a b hl) (Evt.some _)) (fun n => r10 n a b)
/- impl.isSpring -/
theorem e124 (a : Int) : Evt (fun n => call T C n 124 (a, ())) ((inR a 1 10000, ()), ()) := Evt.next (Evt.bind (e45 a 1 10000) (Evt.some _)) (fun n => r124 n a)
/- impl.ValidFollower -/
theorem e85 (b s : Int) : Evt (fun n => call T C n 85 ((b, s, ()), ())) ((inR b 1 20000 && inR s 1 10000, ()), ()) := by
  refine Evt.next (Evt.bind (e45 b 1 20000) ?_) (fun n => r85 n (b, s, ()))
  cases h : inR b 1 20000 with
  | true => exact Evt.yes rfl (Evt.bind (e124 s) (Evt.some _))
  | false => exact Evt.no (by simp) (Evt.some _)
/- impl.camCode -/
theorem e40 {c : List Int} (hl : (c.length : Int) ≤ 140737488351232) (b s : Int) : Evt (fun n => call T C n 40 (c, (b, s, ()), ())) (((if okC c = true ∧ (inR b 1 20000 && inR s 1 10000) = true then 0 else 1), ()), ()) := by
  refine Evt.next (Evt.bind (e32 c hl) ?_) (fun n => r40 n c (b, s, ()))
  cases h : okC c with
  | false => exact Evt.yes rfl (Evt.some _)
  | true =>
    refine Evt.no (by simp) (Evt.bind (e85 b s) ?_)
    cases h2 : (inR b 1 20000 && inR s 1 10000) with
    | false => exact Evt.yes rfl (Evt.some _)
    | true => exact Evt.no (by simp) (Evt.some _)
/- (impl.Track).next -/
theorem e87 (q : Trk) {l s : Int} (h1 : -1000000000000 ≤ q.1 ∧ q.1 ≤ 1000000000000) (h2 : -1000000000000 ≤ q.2.1 ∧ q.2.1 ≤ 1000000000000) (hl : -1000000 ≤ l ∧ l ≤ 1000000) (hs : 0 ≤ s ∧ s ≤ 1000000) : Evt (fun n => call T C n 87 (q, l, s, ())) (((if q.1 + (q.2.1 - s) > l then (q.1 + (q.2.1 - s), q.2.1 - s, false, ()) else (l, l - q.1, true, ())), ()), ()) := by
  refine Evt.next ?_ (fun n => r87 n q l s)
  simp only [wrap_id (x := q.2.1 - s) (by omega) (by omega), wrap_id (x := q.1 + (q.2.1 - s)) (by omega) (by omega), wrap_id (x := l - q.1) (by omega) (by omega)]
  by_cases h : q.1 + (q.2.1 - s) > l
  · rw [if_pos h]; exact Evt.yes (decide_eq_true h) (Evt.some _)
  · rw [if_neg h]; exact Evt.no (by simpa using h) (Evt.some _)
/- (impl.Cam).follow -/
theorem e42 {c : List Int} (hr : Rng c) (ok : okC c = true) {s : Int} (s1 : 1 ≤ s) (s2 : s ≤ 10000) (hb : ∀ x, -(bendP c x) ≤ s) : Evt (fun n => call T C n 42 (c, s, (c.length : Int), ())) ((tb (c.length + 1) (onT c), ()), ()) := by
  have lx := okC_len ok
  have hC := okC_el ok hr
  have h0 : 0 < c.length := by omega
  refine Evt.next (Evt.bind (e86 hr (by omega) (by omega) (x := 0) (by omega) (by omega)) (Evt.bind (e83 hr h0 (by omega) (x := -1) (by omega) (by omega)) ?_)) (fun n => r42 n c s c.length)
  refine for_evt' 1 ((c.length : Int) + 1) (fun i (_ : Unit) => (c, s, (c.length : Int), onT c (i.toNat - 1), tb i.toNat (onT c), i, ())) (fun _ _ => True) (b0 := ()) ?_ (by omega) trivial ?_ ?_
  · have e : onT c 0 = (cAt c 0, cAt c (-1 + 1) - cAt c (-1), true, ()) := by
      unfold onT
      rw [show ((0 : Nat) : Int) = 0 from rfl, show (-1 + 1 : Int) = 0 by omega, show (0 : Int) - 1 = -1 by omega]
    show (c, s, (c.length : Int), _, _, (1 : Int), ()) = (c, s, (c.length : Int), onT c 0, [onT c 0], (1 : Int), ())
    rw [e]
  · intro i _ h2 h3 _
    obtain ⟨k, rfl⟩ : ∃ k : Nat, i = ((k + 1 : Nat) : Int) := ⟨(i - 1).toNat, by omega⟩
    have a := hC _ (cAt_mem h0 (((k + 1 : Nat) : Int)))
    have b := hC _ (cAt_mem h0 (k : Int))
    have d := hC _ (cAt_mem h0 ((k : Int) - 1))
    have hbk := hb (k : Int)
    have hN := e87 (onT c k) (l := cAt c ((k + 1 : Nat) : Int)) (s := s) (by show -1000000000000 ≤ cAt c (k : Int) ∧ cAt c (k : Int) ≤ 1000000000000; omega) (by show -1000000000000 ≤ cAt c (k : Int) - cAt c ((k : Int) - 1) ∧ cAt c (k : Int) - cAt c ((k : Int) - 1) ≤ 1000000000000; omega) (by omega) (by omega)
    have hif : (if (onT c k).1 + ((onT c k).2.1 - s) > cAt c ((k + 1 : Nat) : Int) then ((onT c k).1 + ((onT c k).2.1 - s), (onT c k).2.1 - s, false, ()) else (cAt c ((k + 1 : Nat) : Int), cAt c ((k + 1 : Nat) : Int) - (onT c k).1, true, ())) = onT c (k + 1) := by
      rw [if_neg]
      · unfold onT
        rw [show ((k + 1 : Nat) : Int) - 1 = (k : Int) by omega]
      · show ¬ cAt c (k : Int) + (cAt c (k : Int) - cAt c ((k : Int) - 1) - s) > cAt c ((k + 1 : Nat) : Int)
        unfold bendP at hbk
        rw [show ((k + 1 : Nat) : Int) = (k : Int) + 1 by omega]
        omega
    rw [hif] at hN
    have e1 : (((k + 1 : Nat) : Int)).toNat - 1 = k := by omega
    simp only [e1]
    refine Round.yes (decide_eq_true (show ((k + 1 : Nat) : Int) ≤ (c.length : Int) by omega)) (Round.bind (e86 hr (by omega) (by omega) (x := ((k + 1 : Nat) : Int)) (by omega) (by omega)) (Round.bind hN (Round.chk (decide_eq_true (by simp only [tb_len, List.length_cons, List.length_nil]; omega)) (Round.again _ ⟨(), ?_, trivial⟩))))
    rw [wrap_id (x := ((k + 1 : Nat) : Int) + 1) (by omega) (by omega), show (((k + 1 : Nat) : Int) + 1).toNat - 1 = k + 1 by omega, show (((k + 1 : Nat) : Int) + 1).toNat = k + 1 + 1 by omega, ← tb_snoc, Int.toNat_natCast]
  · intro _ _
    rw [show ((c.length : Int) + 1).toNat = c.length + 1 by omega]
    exact Round.no (by simp; omega) (Round.done (Evt.some _))
/- impl.LetsGoAt$1 -/
theorem e44 (q : Trk) : Evt (fun n => call T C n 44 (q, ())) ((!q.2.2.1, ()), ()) := Evt.next (Evt.some _) (fun n => r44 n q)
/- slices.IndexFunc[[]impl.Track,impl.Track]{impl.LetsGoAt$1} -/
theorem e41 (l : List Trk) (hl' : (l.length : Int) ≤ 1000000) : Evt (fun n => call T C n 41 (l, ((), ()), ())) ((fi (fun q => !q.2.2.1) l 0, ()), ()) := by
  refine Evt.next ?_ (fun n => r41 n l ((), ()))
  refine for_evt' 0 (l.length : Int) (fun i (_ : Unit) => (l, ((), ()), (l.length : Int), i, ())) (fun i _ => fi (fun (q : Trk) => !q.2.2.1) l 0 = fi (fun (q : Trk) => !q.2.2.1) (l.drop i.toNat) i) (b0 := ()) rfl (by omega) (by simp) ?_ ?_
  · intro i _ h2 h3 hp
    obtain ⟨v, hv⟩ := at_of h2 h3
    rw [hv.drop] at hp
    simp only [fi] at hp
    refine Round.yes (decide_eq_true h3) (Round.at hv.idx (Round.bind (e44 v) ?_))
    cases hb : !v.2.2.1 with
    | true =>
      simp only [hb, if_true] at hp
      rw [hp]
      exact Round.yes rfl (Round.done (Evt.some _))
    | false =>
      simp only [hb, Bool.false_eq_true, if_false] at hp
      exact Round.no (by simp) (Round.again _ ⟨(), by rw [wr_succ h2 h3 (by omega)], hp⟩)
  · intro _ hp
    rw [drop_all] at hp
    rw [hp]
    exact Round.no (by simp) (Round.done (Evt.some _))
/- impl.LetsGoAt -/
theorem e11 {c : List Int} (hr : Rng c) (ok : okC c = true) {b s : Int} (b1 : 1 ≤ b) (b2 : b ≤ 20000) (s1 : 1 ≤ s) (s2 : s ≤ 10000) (hb : ∀ x, -(bendP c x) ≤ s) : Evt (fun n => call T C n 11 (c, (b, s, ()), ())) ((0, 6, ()), ()) := by
  have lx := okC_len ok
  have hc := e40 (c := c) (by omega) b s
  rw [if_pos ⟨ok, by rw [Bool.and_eq_true, inR_iff, inR_iff]; exact ⟨⟨b1, b2⟩, s1, s2⟩⟩] at hc
  have hF := e41 (tb (c.length + 1) (onT c)) (by rw [tb_len]; omega)
  have hfi : fi (fun (q : Trk) => !q.2.2.1) (tb (c.length + 1) (onT c)) 0 = -1 := by
    have : ∀ (l : List Trk) (i : Int), (∀ q ∈ l, q.2.2.1 = true) → fi (fun (q : Trk) => !q.2.2.1) l i = -1 := by
      intro l
      induction l with
      | nil => intro i _; rfl
      | cons a r ih => intro i h; simp only [fi]; rw [if_neg (by simp [h a (by simp)])]; exact ih (i + 1) fun q hq => h q (by simp [hq])
    exact this _ _ fun q hq => by obtain ⟨i, _, rfl⟩ := tb_mem hq; rfl
  rw [hfi] at hF
  refine Evt.next (Evt.bind hc (Evt.no (by simp) (Evt.bind (e43 c) (Evt.bind (e42 hr ok s1 s2 hb) (Evt.bind hF (Evt.yes rfl (Evt.some _))))))) (fun n => r11 n c (b, s, ()))
/- laws.a2At -/
theorem e12 {b : List Int} (hb : ∀ v ∈ b, 0 ≤ v ∧ v ≤ 255) {i m : Int} (i0 : 0 ≤ i) (m1 : 1 ≤ m) : ∃ v : Int, Evt (fun n => call T C n 12 (b, i, m, ())) ((v, ()), ()) ∧ 0 ≤ v ∧ v < m := by
  by_cases h : i < (b.length : Int)
  · obtain ⟨v, hv⟩ := at_of i0 h
    have hvb := hb v hv.mem
    have ev : wr .i64 v = v := wrap_id (by omega) (by omega)
    refine ⟨Int.tmod v m, Evt.next (Evt.no (by simp; omega) (Evt.no (by simp; omega) (Evt.at hv.idx (Evt.chk (bne_pos (by omega)) ((Evt.some _).of_eq fun n => ?_))))) (fun n => r12 n b i m), Int.tmod_nonneg m hvb.1, Int.tmod_lt_of_pos v (by omega)⟩
    rw [ev]
    rfl
  · exact ⟨0, Evt.next (Evt.yes (decide_eq_true (by omega)) (Evt.some _)) (fun n => r12 n b i m), by omega, by omega⟩
/- impl.FlatCutter -/
theorem e13 {f : Nat} (h : f ≤ 15) : Evt (fun n => call T C n 13 (((2 * f + 1 : Nat) : Int), ())) ((List.replicate (2 * f + 1) 0, 0, ()), ()) := by
  have hR := e45 ((2 * f + 1 : Nat) : Int) 1 31
  rw [show inR ((2 * f + 1 : Nat) : Int) 1 31 = true from inR_iff.2 ⟨by omega, by omega⟩] at hR
  have hm : Int.tmod ((2 * f + 1 : Nat) : Int) 2 = 1 := by rw [Int.tmod_eq_emod_of_nonneg (by omega)]; omega
  refine Evt.next (Evt.chk rfl (Evt.no (by rw [hm]; simp) (Evt.bind hR (Evt.no (by simp) (Evt.chk (decide_eq_true ⟨rfl, by omega, by omega⟩) ((Evt.some _).of_eq fun n => ?_)))))) (fun n => r13 n _)
  rw [Int.toNat_natCast]
  rfl
/- impl.ValidCutter -/
theorem e88 (k : List Int) (hr : Rng k) : Evt (fun n => call T C n 88 (k, ())) ((okK k, ()), ()) := by
  have hl := hr.len'
  have hm : Int.tmod (k.length : Int) 2 = ((k.length % 2 : Nat) : Int) := by rw [show (2 : Int) = ((2 : Nat) : Int) from rfl, ← Int.ofNat_tmod]
  have hd : Int.tdiv (k.length : Int) 2 = ((k.length / 2 : Nat) : Int) := by rw [show (2 : Int) = ((2 : Nat) : Int) from rfl, ← Int.ofNat_tdiv]
  refine Evt.next (Evt.chk rfl ?_) (fun n => r88 n k)
  rw [hm, hd, wrap_id (x := ((k.length / 2 : Nat) : Int)) (by omega) (by omega)]
  refine Evt.ite (fun h => ?_) (fun h => ?_)
  · have h : k.length % 2 = 0 := by
      have h' : (k.length : Int) % 2 = 0 := by simpa using h
      omega
    have e : okK k = false := by unfold okK; rw [show decide (k.length % 2 = 1) = false from decide_eq_false (by omega)]; simp
    rw [e]; exact Evt.some _
  have h : k.length % 2 = 1 := by
    have h' : ¬ (k.length : Int) % 2 = 0 := by simpa using h
    omega
  refine Evt.ite (fun h1 => ?_) (fun h1 => ?_)
  · have h1 : (k.length : Int) > 31 := by simpa using h1
    have e : okK k = false := by
      unfold okK
      have : inR (k.length : Int) 1 31 = false := by rw [Bool.eq_false_iff]; intro hh; have := inR_iff.1 hh; omega
      rw [this]; simp
    rw [e]; exact Evt.some _
  have h1 : ¬ (k.length : Int) > 31 := by simpa using h1
  have hin : inR (k.length : Int) 1 31 = true := inR_iff.2 ⟨by omega, by omega⟩
  have e : okK k = ((g k (k.length / 2) == 0) && allTo (kOne k) (k.length / 2 + 1)) := by unfold okK; rw [hin, show decide (k.length % 2 = 1) = true from decide_eq_true h]; simp
  rw [e]
  have hmid := g_idx (l := k) (i := ((k.length / 2 : Nat) : Int)) (by omega) (by omega)
  rw [Int.toNat_natCast] at hmid
  refine Evt.chk rfl (Evt.at hmid.idx (Evt.ite (fun h0 => ?_) (fun h0 => ?_)))
  · have h0 : (g k (k.length / 2) == 0) = false := by simpa using h0
    rw [h0]; exact Evt.some _
  have h0 : (g k (k.length / 2) == 0) = true := by simpa using h0
  rw [h0]
  simp only [Bool.true_and]
  have e2 : allTo (kOne k) (k.length / 2 + 1) = allTo (kTwo k) k.length := by
    rw [Bool.eq_iff_iff]
    exact ⟨kTwo_of h, kOne_of h⟩
  rw [e2]
  refine for_evt' 0 (k.length : Int) (fun i (_ : Unit) => (k, (k.length : Int), k, (k.length : Int), i, ())) (fun i _ => allTo (kTwo k) i.toNat = true) (b0 := ()) rfl (by omega) (by rfl) ?_ ?_
  · intro i _ h2 h3 hp
    obtain ⟨a, rfl⟩ : ∃ a : Nat, i = a := ⟨i.toNat, by omega⟩
    rw [Int.toNat_natCast] at hp
    have hai := g_idx (l := k) (i := (a : Int)) (by omega) (by omega)
    have haj := g_idx (l := k) (i := (k.length : Int) - 1 - a) (by omega) (by omega)
    rw [Int.toNat_natCast] at hai
    rw [show ((k.length : Int) - 1 - a).toNat = k.length - 1 - a by omega] at haj
    have bad : kTwo k a = false → allTo (kTwo k) k.length = false := allTo_false (by omega)
    simp only [hd, wrap_id (x := ((k.length / 2 : Nat) : Int)) (by omega) (by omega), wrap_id (x := (a : Int) + 1) (by omega) (by omega), wrap_id (x := (a : Int) - 1) (by omega) (by omega), wrap_id (x := (k.length : Int) - 1) (by omega) (by omega), wrap_id (x := (k.length : Int) - 1 - (a : Int)) (by omega) (by omega)]
    refine Round.yes (decide_eq_true h3) (Round.at hai.idx (Round.bind (e69 _) (Round.ite (fun c1 => ?_) (fun c1 => ?_))))
    · have c1 : inR (wr .i64 (g k a)) 0 10000 = false := by simpa using c1
      rw [bad (by simp [kTwo, c1])]
      exact Round.done (Evt.some _)
    have c1 : inR (wr .i64 (g k a)) 0 10000 = true := by simpa using c1
    refine Round.at haj.idx (Round.ite (fun c2 => ?_) (fun c2 => ?_))
    · have c2 : (g k a == g k (k.length - 1 - a)) = false := by simpa using c2
      rw [bad (by simp [kTwo, c2])]
      exact Round.done (Evt.some _)
    have c2 : (g k a == g k (k.length - 1 - a)) = true := by simpa using c2
    have again : kTwo k a = true → ∃ b' : Unit, ((k, (k.length : Int), k, (k.length : Int), (a : Int) + 1, ()) : List Int × Int × List Int × Int × Int × Unit) = (k, (k.length : Int), k, (k.length : Int), (a : Int) + 1, ()) ∧ allTo (kTwo k) ((a : Int) + 1).toNat = true := fun h => ⟨(), rfl, by rw [show ((a : Int) + 1).toNat = a + 1 by omega, allTo_succ, hp, h]; rfl⟩
    refine Round.chk rfl (Round.ite (fun c3 => ?_) (fun c3 => ?_))
    · have c3 : (a : Int) > ((k.length / 2 : Nat) : Int) := of_decide_eq_true c3
      have hab := g_idx (l := k) (i := (a : Int) - 1) (by omega) (by omega)
      rw [show ((a : Int) - 1).toNat = a - 1 by omega] at hab
      refine Round.at hab.idx (Round.ite (fun c4 => ?_) (fun c4 => ?_))
      · have c4 : g k a < g k (a - 1) := by simpa using c4
        rw [bad (by
          have c5 : a > k.length / 2 := by omega
          simp [kTwo, c4, c5])]
        exact Round.done (Evt.some _)
      · have c4 : ¬ g k a < g k (a - 1) := by simpa using c4
        exact Round.again _ (again (by simp only [kTwo, c1, c2, decide_eq_false c4]; simp))
    · have c3 : ¬ (a : Int) > ((k.length / 2 : Nat) : Int) := by simpa using c3
      exact Round.no (by simp) (Round.again _ (again (by simp only [kTwo, c1, c2, decide_eq_false (show ¬ a > k.length / 2 by omega)]; simp)))
  · intro _ hp
    have hp : allTo (kTwo k) k.length = true := by simpa using hp
    rw [hp]
    exact Round.no (by simp) (Round.done (Evt.some _))
/- impl.codeIf -/
theorem e65 (c : Bool) (v : Int) : Evt (fun n => call T C n 65 (c, v, ())) (((if c = true then v else 0), ()), ()) := by
  refine Evt.next ?_ (fun n => r65 n c v)
  cases c with
  | true => exact Evt.yes rfl (Evt.some _)
  | false => exact Evt.no (by simp) (Evt.some _)
/- impl.cutterCode -/
theorem e46 (c k : List Int) (hc : Rng c) (hk : Rng k) : Evt (fun n => call T C n 46 (c, k, ())) ((cutCode c k, ()), ()) := by
  have hl := hc.len'
  refine Evt.next (Evt.bind (e32 c (by omega)) ?_) (fun n => r46 n c k)
  unfold cutCode
  cases okC c with
  | false => exact Evt.yes rfl (Evt.bind (e65 _ _) (Evt.some _))
  | true =>
    refine Evt.no (by simp) (Evt.bind (e88 k hk) (Evt.bind (e65 _ _) ?_))
    cases okK k with
    | false => exact Evt.some _
    | true => exact Evt.some _
/- (impl.Cam).tips$1$1 -/
theorem e126 {c : List Int} (hr : Rng c) (h0 : 0 < (c.length : Int)) (h1 : (c.length : Int) ≤ 1000000) (hC : ∀ v ∈ c, 0 ≤ v ∧ v ≤ 10000) {x y z : Int} (hx : -4000000 ≤ x) (hx' : x ≤ 4000000) (hy : 0 ≤ y) (hy' : y ≤ 10000) : Evt (fun n => call T C n 126 (x, y, z, c, ())) ((), (max z (cAt c x - y), c, ())) := by
  have hv := hC _ (cAt_mem (by omega) x)
  refine Evt.next (Evt.bind (e86 hr h0 h1 hx hx') ((Evt.some _).of_eq fun n => ?_)) (fun n => r126 n x y z c)
  simp only [wrap_id (x := cAt c x - y) (by omega) (by omega)]
  have : (if cAt c x - y > z then cAt c x - y else z) = max z (cAt c x - y) := by split <;> omega
  rw [this]
  rfl
/- (impl.Cutter).each{(impl.Cam).tips$1$1} -/
theorem e92 {c k : List Int} (hc : Rng c) (hk : Rng k) (hl0 : 0 < c.length) (hl1 : c.length ≤ 1000) (hC : ∀ v ∈ c, 0 ≤ v ∧ v ≤ 10000) (G : GoodK k) {s : Int} (h0 : 0 ≤ s) (h1 : s ≤ 1000000) : Evt (fun n => call T C n 92 (k, s, ((), 0, c, ()), ())) ((), (((), tip c k s, c, ()), ())) := by
  have hd : Int.tdiv (k.length : Int) 2 = ((k.length / 2 : Nat) : Int) := by rw [show (2 : Int) = ((2 : Nat) : Int) from rfl, ← Int.ofNat_tdiv]
  have hhi := G.hi
  refine Evt.next (Evt.chk rfl ?_) (fun n => r92 n k s ((), 0, c, ()))
  rw [hd, wrap_id (x := ((k.length / 2 : Nat) : Int)) (by omega) (by omega)]
  refine for_evt' 0 (k.length : Int) (fun i (_ : Unit) => (s, ((), (tipTo c k s i.toNat, (c, ()))), ((k.length / 2 : Nat) : Int), k, (k.length : Int), i, ())) (fun _ _ => True) (b0 := ()) rfl (by omega) trivial ?_ ?_
  · intro i _ h2 h3 _
    obtain ⟨a, rfl⟩ : ∃ a : Nat, i = a := ⟨i.toNat, by omega⟩
    have hai := g_idx (l := k) (i := (a : Int)) (by omega) (by omega)
    rw [Int.toNat_natCast] at hai
    have hka := G.el a (by omega)
    simp only [Int.toNat_natCast, wr_succ h2 h3 (by omega), wrap_id (x := s + (a : Int)) (by omega) (by omega), wrap_id (x := s + (a : Int) - ((k.length / 2 : Nat) : Int)) (by omega) (by omega)]
    refine Round.yes (decide_eq_true h3) (Round.at hai.idx ?_)
    simp only [hk.id hai.mem]
    refine Round.bind (e126 hc (by omega) (by omega) hC (by omega) (by omega) hka.1 hka.2) (Round.again _ ⟨(), ?_, trivial⟩)
    rw [show ((a : Int) + 1).toNat = a + 1 by omega, tipTo_succ]
    rfl
  · intro _ _
    simp only [Int.toNat_natCast]
    exact Round.no (by simp) (Round.done (Evt.some _))
/- (impl.Cam).tips$1 -/
theorem e125 {c k : List Int} (hc : Rng c) (hk : Rng k) (hl0 : 0 < c.length) (hl1 : c.length ≤ 1000) (hC : ∀ v ∈ c, 0 ≤ v ∧ v ≤ 10000) (G : GoodK k) {s : Int} (h0 : 0 ≤ s) (h1 : s ≤ 1000000) : Evt (fun n => call T C n 125 (s, k, c, ())) ((tip c k s, ()), (k, c, ())) := Evt.next (Evt.bind (e92 hc hk hl0 hl1 hC G h0 h1) (Evt.some _)) (fun n => r125 n s k c)
/- (impl.Cam).numbers{(impl.Cam).tips$1} -/
theorem e1034 {c k : List Int} (hc : Rng c) (hk : Rng k) (hl0 : 0 < c.length) (hl1 : c.length ≤ 1000) (hC : ∀ v ∈ c, 0 ≤ v ∧ v ≤ 10000) (G : GoodK k) : Evt (fun n => call T C n 1034 (c, ((), k, c, ()), ())) ((tipsL c k c.length, ()), (((), k, c, ()), ())) := by
  refine Evt.next (Evt.bind (e43 c) ?_) (fun n => r1034 n c ((), k, c, ()))
  refine for_evt' 0 (c.length : Int) (fun i (_ : Unit) => (((), (k, (c, ()))), tipsL c k i.toNat, (c.length : Int), i, ())) (fun _ _ => True) (b0 := ()) rfl (by omega) trivial ?_ ?_
  · intro i _ h2 h3 _
    refine Round.yes (decide_eq_true h3) (Round.bind (e125 hc hk hl0 hl1 hC G h2 (show i ≤ 1000000 by omega)) (Round.chk (by simp [tipsL_len]; omega) (Round.again _ ⟨(), ?_, trivial⟩)))
    rw [tipsL_succ c k h2, wr_succ h2 h3 (by omega)]
  · intro _ _
    simp only [Int.toNat_natCast]
    exact Round.no (by simp) (Round.done (Evt.some _))
/- (impl.Cam).tips -/
theorem e89 {c k : List Int} (hc : Rng c) (hk : Rng k) (hl0 : 0 < c.length) (hl1 : c.length ≤ 1000) (hC : ∀ v ∈ c, 0 ≤ v ∧ v ≤ 10000) (G : GoodK k) : Evt (fun n => call T C n 89 (c, k, ())) ((tipsL c k c.length, ()), ()) := Evt.next (Evt.bind (e1034 hc hk hl0 hl1 hC G) (Evt.some _)) (fun n => r89 n c k)
/- (impl.Cam).left$1$1 -/
theorem e93 {c k : List Int} (h0 : 0 < c.length) (h1 : c.length ≤ 1000) (hC : ∀ v ∈ c, 0 ≤ v ∧ v ≤ 10000) (G : GoodK k) {x y z : Int} (hx : -4000000 ≤ x) (hx' : x ≤ 4000000) (hy : 0 ≤ y) (hy' : y ≤ 10000) : Evt (fun n => call T C n 93 (x, y, z, tipsL c k c.length, c, ())) ((), (min z (tip c k (x % c.length) + y), tipsL c k c.length, c, ())) := by
  have hp := Int.emod_nonneg x (show (c.length : Int) ≠ 0 by omega)
  have hq := Int.emod_lt_of_pos x (show 0 < (c.length : Int) by omega)
  have hv := g_idx (l := tipsL c k c.length) (i := x % c.length) hp (by rw [tipsL_len]; exact hq)
  rw [g_tips c k (by omega), show (((x % (c.length : Int)).toNat : Nat) : Int) = x % (c.length : Int) by omega] at hv
  have hb := tipTo_bd h0 hC G.el (x % c.length) k.length (Nat.le_refl _)
  have hb1 : 0 ≤ tip c k (x % c.length) := hb.1
  have hb2 : tip c k (x % c.length) ≤ 10000 := hb.2
  refine Evt.next (Evt.bind (e43 c) (Evt.bind (e94 (a := x) (show 0 < (c.length : Int) by omega) (by omega) (by omega) (by omega)) (Evt.at hv.idx ((Evt.some _).of_eq fun n => ?_)))) (fun n => r93 n x y z (tipsL c k c.length) c)
  simp only [wrap_id (x := tip c k (x % c.length) + y) (by omega) (by omega)]
  have : (if tip c k (x % c.length) + y < z then tip c k (x % c.length) + y else z) = min z (tip c k (x % c.length) + y) := by split <;> omega
  rw [this]
  rfl
/- (impl.Cutter).each{(impl.Cam).left$1$1} -/
theorem e1092 {c k : List Int} (hk : Rng k) (hl0 : 0 < c.length) (hl1 : c.length ≤ 1000) (hC : ∀ v ∈ c, 0 ≤ v ∧ v ≤ 10000) (G : GoodK k) {s : Int} (h0 : 0 ≤ s) (h1 : s ≤ 1000000) : Evt (fun n => call T C n 1092 (k, s, ((), tip c k s, tipsL c k c.length, c, ()), ())) ((), (((), lf c k s, tipsL c k c.length, c, ()), ())) := by
  have hd : Int.tdiv (k.length : Int) 2 = ((k.length / 2 : Nat) : Int) := by rw [show (2 : Int) = ((2 : Nat) : Int) from rfl, ← Int.ofNat_tdiv]
  have hhi := G.hi
  refine Evt.next (Evt.chk rfl ?_) (fun n => r1092 n k s ((), tip c k s, tipsL c k c.length, c, ()))
  rw [hd, wrap_id (x := ((k.length / 2 : Nat) : Int)) (by omega) (by omega)]
  refine for_evt' 0 (k.length : Int) (fun i (_ : Unit) => (s, ((), (lfTo c k s i.toNat, (tipsL c k c.length, (c, ())))), ((k.length / 2 : Nat) : Int), k, (k.length : Int), i, ())) (fun _ _ => True) (b0 := ()) rfl (by omega) trivial ?_ ?_
  · intro i _ h2 h3 _
    obtain ⟨a, rfl⟩ : ∃ a : Nat, i = a := ⟨i.toNat, by omega⟩
    have hai := g_idx (l := k) (i := (a : Int)) (by omega) (by omega)
    rw [Int.toNat_natCast] at hai
    have hka := G.el a (by omega)
    simp only [Int.toNat_natCast, wr_succ h2 h3 (by omega), wrap_id (x := s + (a : Int)) (by omega) (by omega), wrap_id (x := s + (a : Int) - ((k.length / 2 : Nat) : Int)) (by omega) (by omega)]
    refine Round.yes (decide_eq_true h3) (Round.at hai.idx ?_)
    simp only [hk.id hai.mem]
    refine Round.bind (e93 hl0 hl1 hC G (by omega) (by omega) hka.1 hka.2) (Round.again _ ⟨(), ?_, trivial⟩)
    rw [show ((a : Int) + 1).toNat = a + 1 by omega, lfTo_succ]
    rfl
  · intro _ _
    simp only [Int.toNat_natCast]
    exact Round.no (by simp) (Round.done (Evt.some _))
/- (impl.Cam).left$1 -/
theorem e91 {c k : List Int} (hk : Rng k) (hl0 : 0 < c.length) (hl1 : c.length ≤ 1000) (hC : ∀ v ∈ c, 0 ≤ v ∧ v ≤ 10000) (G : GoodK k) {s : Nat} (h : s < c.length) : Evt (fun n => call T C n 91 ((s : Int), tipsL c k c.length, k, c, ())) ((lf c k s, ()), (tipsL c k c.length, k, c, ())) := by
  have hv := g_idx (l := tipsL c k c.length) (i := (s : Int)) (by omega) (by rw [tipsL_len]; omega)
  rw [Int.toNat_natCast, g_tips c k h] at hv
  exact Evt.next (Evt.at hv.idx (Evt.bind (e1092 hk hl0 hl1 hC G (s := (s : Int)) (by omega) (by omega)) (Evt.some ((lf c k s, ()), (tipsL c k c.length, k, c, ()))))) (fun n => r91 n s (tipsL c k c.length) k c)
/- impl.camOf{(impl.Cam).left$1} -/
theorem e90 {c k : List Int} (hk : Rng k) (hl0 : 0 < c.length) (hl1 : c.length ≤ 1000) (hC : ∀ v ∈ c, 0 ≤ v ∧ v ≤ 10000) (G : GoodK k) : Evt (fun n => call T C n 90 ((c.length : Int), ((), tipsL c k c.length, k, c, ()), ())) ((leftL c k, 0, ()), (((), tipsL c k c.length, k, c, ()), ())) := by
  have hll := leftL_len c k
  refine Evt.next ?_ (fun n => r90 n (c.length : Int) ((), tipsL c k c.length, k, c, ()))
  refine for_evt' 0 (c.length : Int) (fun i (_ : Unit) => (((), (tipsL c k c.length, (k, (c, ())))), (leftL c k).take i.toNat, (c.length : Int), i, ())) (fun _ _ => True) (b0 := ()) rfl (by omega) trivial ?_ ?_
  · intro i _ h2 h3 _
    obtain ⟨a, rfl⟩ : ∃ a : Nat, i = a := ⟨i.toNat, by omega⟩
    have hb := lf_bd hl0 hC G (show a < c.length by omega)
    have hin : inR (lf c k a) 0 10000 = true := inR_iff.2 hb
    have hlen : ((leftL c k).take a).length = a := by rw [List.length_take]; omega
    simp only [Int.toNat_natCast, wr_succ h2 h3 (by omega)]
    refine Round.yes (decide_eq_true h3) (Round.bind (e91 hk hl0 hl1 hC G (show a < c.length by omega)) (Round.bind (e69 _) (Round.no (by simp [hin]) (Round.chk (by simp [hlen]; omega) (Round.again _ ⟨(), ?_, trivial⟩)))))
    rw [show ((a : Int) + 1).toNat = a + 1 by omega, leftL_take hl0 hC G (by omega), wrap16 (x := lf c k a) (by omega) (by omega)]
  · intro _ _
    have e : (leftL c k).take (c.length : Int).toNat = leftL c k := List.take_of_length_le (by omega)
    simp only [e]
    exact Round.no (by simp) (Round.done (Evt.some _))
/- (impl.Cam).left -/
theorem e47 {c k : List Int} (hc : Rng c) (hk : Rng k) (hl0 : 0 < c.length) (hl1 : c.length ≤ 1000) (hC : ∀ v ∈ c, 0 ≤ v ∧ v ≤ 10000) (G : GoodK k) : Evt (fun n => call T C n 47 (c, k, ())) ((leftL c k, ()), ()) := Evt.next (Evt.bind (e89 hc hk hl0 hl1 hC G) (Evt.bind (e43 c) (Evt.bind (e90 hk hl0 hl1 hC G) (Evt.some ((leftL c k, ()), ()))))) (fun n => r47 n c k)
/- impl.LeftBy -/
theorem e14 (c k : List Int) (hc : Rng c) (hk : Rng k) (h1 : okC c = true) (h2 : okK k = true) : Evt (fun n => call T C n 14 (c, k, ())) ((leftL c k, 0, ()), ()) := by
  have hl := okC_len h1
  have e : cutCode c k = 0 := by unfold cutCode; rw [h1, h2]; rfl
  have hE := e46 c k hc hk
  rw [e] at hE
  refine Evt.next (Evt.bind hE ?_) (fun n => r14 n c k)
  exact Evt.no (by decide) (Evt.bind (e47 hc hk (by omega) (by omega) (okC_el h1 hc) (goodK hk h2)) (Evt.some _))
/- impl.footCode -/
theorem e48 {c : List Int} (hr : Rng c) (ok : okC c = true) {f : Nat} (f1 : f ≤ 40) : Evt (fun n => call T C n 48 (c, (f : Int), ())) ((0, ()), ()) := by
  have hl := okC_len ok
  have hC := okC_el ok hr
  have hv := e32 c (by omega)
  rw [ok] at hv
  have hi := e45 (f : Int) 0 40
  rw [show inR (f : Int) 0 40 = true from inR_iff.2 ⟨by omega, by omega⟩] at hi
  exact Evt.next (Evt.bind hv (Evt.no (by decide) (Evt.bind hi (Evt.no (by decide) (Evt.some _))))) (fun n => r48 n c f)
/- impl.greater -/
theorem e96 (a b : Int) : Evt (fun n => call T C n 96 (a, b, ())) ((max a b, ()), ()) := by
  refine Evt.next ((Evt.some _).of_eq fun n => ?_) (fun n => r96 n a b)
  have : (if b > a then b else a) = max a b := by split <;> omega
  rw [this]
  rfl
/- (impl.Cam).beside$1 -/
theorem e128 {c : List Int} (hr : Rng c) (h0 : 0 < c.length) (h1 : c.length ≤ 1000) {f : Nat} (f1 : f ≤ 40) {x : Int} (x0 : 0 ≤ x) (x1 : x ≤ 1000) : Evt (fun n => call T C n 128 (x, c, (f : Int), ((), ()), ())) ((wTo max (cAt c) f x (2 * f + 1), ()), (c, (f : Int), ((), ()), ())) := by
  refine Evt.next (Evt.bind (e86 hr (by omega) (by omega) (by omega) (by omega)) ?_) (fun n => r128 n x c f ((), ()))
  refine for_evt' (-(f : Int)) ((f : Int) + 1) (fun k (_ : Unit) => (x, c, (f : Int), ((), ()), wTo max (cAt c) f x (k + f).toNat, k, ())) (fun _ _ => True) (b0 := ()) (by rw [wrap_id (x := 0 - (f : Int)) (by omega) (by omega), show -(f : Int) + f = 0 by omega, Int.zero_sub]; rfl) (by omega) trivial ?_ ?_
  · intro k _ h2 h3 _
    refine Round.yes (decide_eq_true (show k ≤ (f : Int) by omega)) ?_
    simp only [wrap_id (x := x + k) (by omega) (by omega)]
    refine Round.bind (e86 hr (by omega) (by omega) (by omega) (by omega)) (Round.bind (e96 _ _) (Round.again _ ⟨(), ?_, trivial⟩))
    rw [show (k + 1 + (f : Int)).toNat = (k + f).toNat + 1 by omega, wTo, show (((k + (f : Int)).toNat : Nat) : Int) - (f : Nat) = k by omega, wrap_id (x := k + 1) (by omega) (by omega)]
  · intro _ _
    rw [show ((f : Int) + 1 + f).toNat = 2 * f + 1 by omega]
    exact Round.no (by simp; omega) (Round.done (Evt.some _))
/- impl.camOf{(impl.Cam).beside$1} -/
theorem e1090 {c : List Int} (hr : Rng c) (h0 : 0 < c.length) (h1 : c.length ≤ 1000) (hC : ∀ v ∈ c, 0 ≤ v ∧ v ≤ 10000) {f : Nat} (f1 : f ≤ 40) : Evt (fun n => call T C n 1090 (((c.length : Nat) : Int), ((), (c, ((f : Int), (((), ()), ())))), ())) ((tb (c.length) (fun i : Nat => wTo max (cAt c) f (i : Nat) (2 * f + 1)), 0, ()), (((), (c, ((f : Int), (((), ()), ())))), ())) := by
  refine Evt.next ?_ (fun n => r1090 n ((c.length : Nat) : Int) ((), (c, ((f : Int), (((), ()), ())))))
  have hB : ∀ i : Nat, i < c.length → 0 ≤ wTo max (cAt c) f (i : Nat) (2 * f + 1) ∧ wTo max (cAt c) f (i : Nat) (2 * f + 1) ≤ 10000 := fun i hi => wTo_bd max_or (fun x => hC _ (cAt_mem h0 x)) f _ _
  have hE : ∀ i : Nat, i < c.length → Evt (fun n => call T C n 128 ((i : Int), c, (f : Int), ((), ()), ())) ((wTo max (cAt c) f (i : Nat) (2 * f + 1), ()), (c, (f : Int), ((), ()), ())) := fun i hi => e128 hr h0 h1 f1 (by omega) (by omega)
  obtain ⟨F, eF⟩ : ∃ F : Nat → Int, F = (fun i : Nat => wTo max (cAt c) f (i : Nat) (2 * f + 1)) := ⟨_, rfl⟩
  rw [← eF]
  refine for_evt' 0 ((c.length : Nat) : Int) (fun i (_ : Unit) => (((), (c, ((f : Int), (((), ()), ())))), tb i.toNat F, ((c.length : Nat) : Int), i, ())) (fun _ _ => True) (b0 := ()) rfl (by omega) trivial ?_ ?_
  · intro i' _ h2 h3 _
    obtain ⟨i, rfl⟩ : ∃ i : Nat, i' = i := ⟨i'.toNat, by omega⟩
    have hi : i < c.length := by omega
    have hb := hB i hi
    have hc := hE i hi
    have hl := e69 (wTo max (cAt c) f (i : Nat) (2 * f + 1))
    rw [inR_iff.2 hb] at hl
    have eFi : F i = wTo max (cAt c) f (i : Nat) (2 * f + 1) := by rw [eF]
    have lT : (tb i F).length = i := tb_len _ _
    rw [Int.toNat_natCast, show ((i : Int) + 1).toNat = i + 1 by omega]
    refine Round.yes (decide_eq_true h3) (Round.bind hc (Round.bind hl (Round.no (by simp) (Round.chk (decide_eq_true (by simp only [List.length_cons, List.length_nil, lT]; omega)) (Round.again _ ⟨(), ?_, trivial⟩)))))
    rw [wrap_id (x := (i : Int) + 1) (by omega) (by omega), ← tb_snoc, eFi, wrap16 (x := wTo max (cAt c) f (i : Nat) (2 * f + 1)) (by omega) (by omega)]
  · intro _ _
    rw [Int.toNat_natCast]
    exact Round.no (by simp) (Round.done (Evt.some _))
/- (impl.Cam).beside{impl.greater} -/
theorem e95 {c : List Int} (hr : Rng c) (h0 : 0 < c.length) (h1 : c.length ≤ 1000) (hC : ∀ v ∈ c, 0 ≤ v ∧ v ≤ 10000) {f : Nat} (f1 : f ≤ 40) : Evt (fun n => call T C n 95 (c, (f : Int), ((), ()), ())) ((wL max c f, ()), ()) := by
  refine Evt.next ?_ (fun n => r95 n c f ((), ()))
  exact Evt.bind (e43 c) (Evt.bind (e1090 hr h0 h1 hC f1) (Evt.some _))
/- impl.lesser -/
theorem e97 (a b : Int) : Evt (fun n => call T C n 97 (a, b, ())) ((min a b, ()), ()) := by
  refine Evt.next ((Evt.some _).of_eq fun n => ?_) (fun n => r97 n a b)
  have : (if b < a then b else a) = min a b := by split <;> omega
  rw [this]
  rfl
/- (impl.Cam).beside$1' -/
theorem e1128 {c : List Int} (hr : Rng c) (h0 : 0 < c.length) (h1 : c.length ≤ 1000) {f : Nat} (f1 : f ≤ 40) {x : Int} (x0 : 0 ≤ x) (x1 : x ≤ 1000) : Evt (fun n => call T C n 1128 (x, c, (f : Int), ((), ()), ())) ((wTo min (cAt c) f x (2 * f + 1), ()), (c, (f : Int), ((), ()), ())) := by
  refine Evt.next (Evt.bind (e86 hr (by omega) (by omega) (by omega) (by omega)) ?_) (fun n => r1128 n x c f ((), ()))
  refine for_evt' (-(f : Int)) ((f : Int) + 1) (fun k (_ : Unit) => (x, c, (f : Int), ((), ()), wTo min (cAt c) f x (k + f).toNat, k, ())) (fun _ _ => True) (b0 := ()) (by rw [wrap_id (x := 0 - (f : Int)) (by omega) (by omega), show -(f : Int) + f = 0 by omega, Int.zero_sub]; rfl) (by omega) trivial ?_ ?_
  · intro k _ h2 h3 _
    refine Round.yes (decide_eq_true (show k ≤ (f : Int) by omega)) ?_
    simp only [wrap_id (x := x + k) (by omega) (by omega)]
    refine Round.bind (e86 hr (by omega) (by omega) (by omega) (by omega)) (Round.bind (e97 _ _) (Round.again _ ⟨(), ?_, trivial⟩))
    rw [show (k + 1 + (f : Int)).toNat = (k + f).toNat + 1 by omega, wTo, show (((k + (f : Int)).toNat : Nat) : Int) - (f : Nat) = k by omega, wrap_id (x := k + 1) (by omega) (by omega)]
  · intro _ _
    rw [show ((f : Int) + 1 + f).toNat = 2 * f + 1 by omega]
    exact Round.no (by simp; omega) (Round.done (Evt.some _))
/- impl.camOf{(impl.Cam).beside$1}' -/
theorem e2090 {c : List Int} (hr : Rng c) (h0 : 0 < c.length) (h1 : c.length ≤ 1000) (hC : ∀ v ∈ c, 0 ≤ v ∧ v ≤ 10000) {f : Nat} (f1 : f ≤ 40) : Evt (fun n => call T C n 2090 (((c.length : Nat) : Int), ((), (c, ((f : Int), (((), ()), ())))), ())) ((tb (c.length) (fun i : Nat => wTo min (cAt c) f (i : Nat) (2 * f + 1)), 0, ()), (((), (c, ((f : Int), (((), ()), ())))), ())) := by
  refine Evt.next ?_ (fun n => r2090 n ((c.length : Nat) : Int) ((), (c, ((f : Int), (((), ()), ())))))
  have hB : ∀ i : Nat, i < c.length → 0 ≤ wTo min (cAt c) f (i : Nat) (2 * f + 1) ∧ wTo min (cAt c) f (i : Nat) (2 * f + 1) ≤ 10000 := fun i hi => wTo_bd min_or (fun x => hC _ (cAt_mem h0 x)) f _ _
  have hE : ∀ i : Nat, i < c.length → Evt (fun n => call T C n 1128 ((i : Int), c, (f : Int), ((), ()), ())) ((wTo min (cAt c) f (i : Nat) (2 * f + 1), ()), (c, (f : Int), ((), ()), ())) := fun i hi => e1128 hr h0 h1 f1 (by omega) (by omega)
  obtain ⟨F, eF⟩ : ∃ F : Nat → Int, F = (fun i : Nat => wTo min (cAt c) f (i : Nat) (2 * f + 1)) := ⟨_, rfl⟩
  rw [← eF]
  refine for_evt' 0 ((c.length : Nat) : Int) (fun i (_ : Unit) => (((), (c, ((f : Int), (((), ()), ())))), tb i.toNat F, ((c.length : Nat) : Int), i, ())) (fun _ _ => True) (b0 := ()) rfl (by omega) trivial ?_ ?_
  · intro i' _ h2 h3 _
    obtain ⟨i, rfl⟩ : ∃ i : Nat, i' = i := ⟨i'.toNat, by omega⟩
    have hi : i < c.length := by omega
    have hb := hB i hi
    have hc := hE i hi
    have hl := e69 (wTo min (cAt c) f (i : Nat) (2 * f + 1))
    rw [inR_iff.2 hb] at hl
    have eFi : F i = wTo min (cAt c) f (i : Nat) (2 * f + 1) := by rw [eF]
    have lT : (tb i F).length = i := tb_len _ _
    rw [Int.toNat_natCast, show ((i : Int) + 1).toNat = i + 1 by omega]
    refine Round.yes (decide_eq_true h3) (Round.bind hc (Round.bind hl (Round.no (by simp) (Round.chk (decide_eq_true (by simp only [List.length_cons, List.length_nil, lT]; omega)) (Round.again _ ⟨(), ?_, trivial⟩)))))
    rw [wrap_id (x := (i : Int) + 1) (by omega) (by omega), ← tb_snoc, eFi, wrap16 (x := wTo min (cAt c) f (i : Nat) (2 * f + 1)) (by omega) (by omega)]
  · intro _ _
    rw [Int.toNat_natCast]
    exact Round.no (by simp) (Round.done (Evt.some _))
/- (impl.Cam).beside{impl.lesser} -/
theorem e1095 {c : List Int} (hr : Rng c) (h0 : 0 < c.length) (h1 : c.length ≤ 1000) (hC : ∀ v ∈ c, 0 ≤ v ∧ v ≤ 10000) {f : Nat} (f1 : f ≤ 40) : Evt (fun n => call T C n 1095 (c, (f : Int), ((), ()), ())) ((wL min c f, ()), ()) := by
  refine Evt.next ?_ (fun n => r1095 n c f ((), ()))
  exact Evt.bind (e43 c) (Evt.bind (e2090 hr h0 h1 hC f1) (Evt.some _))
/- (impl.Cam).reached -/
theorem e49 {c : List Int} (hr : Rng c) (ok : okC c = true) {f : Nat} (f1 : f ≤ 40) : Evt (fun n => call T C n 49 (c, (f : Int), ())) ((rcL c f, ()), ()) := by
  have hl := okC_len ok
  have hC := okC_el ok hr
  have h0 : 0 < c.length := by omega
  have hU := wL_el max_or h0 hC f
  have lU : (wL max c f).length = c.length := wL_len _ _ _
  exact Evt.next (Evt.bind (e95 hr (by omega) (by omega) hC f1) (Evt.bind (e1095 (rng_bd (by omega) hU) (by omega) (by omega) hU f1) (Evt.some _))) (fun n => r49 n c f)
/- impl.ReachedCam -/
theorem e15 {c : List Int} (hr : Rng c) (ok : okC c = true) {f : Nat} (f1 : f ≤ 40) : Evt (fun n => call T C n 15 (c, (f : Int), ())) ((rcL c f, 0, ()), ()) := by
  refine Evt.next ?_ (fun n => r15 n c f)
  exact Evt.bind (e48 hr ok f1) (Evt.no (by simp) (Evt.bind (e49 hr ok f1) (Evt.some _)))
/- spec.l03Footed -/
theorem e50 {c : List Int} (hr : Rng c) (ok : okC c = true) {f : Nat} (f1 : f ≤ 40) : Evt (fun n => call T C n 50 (c, (f : Int), ())) ((0, ()), ()) := by
  have hl := okC_len ok
  have hC := okC_el ok hr
  have hv := e36 c (by omega)
  rw [ok] at hv
  have hi := e76 (f : Int) 0 40
  rw [show inR (f : Int) 0 40 = true from inR_iff.2 ⟨by omega, by omega⟩] at hi
  exact Evt.next (Evt.bind hv (Evt.no (by decide) (Evt.bind hi (Evt.no (by decide) (Evt.some _))))) (fun n => r50 n c f)
/- spec.l00Min -/
theorem e129 (a b : Int) : Evt (fun n => call T C n 129 (a, b, ())) ((min a b, ()), ()) := by
  refine Evt.next (Evt.ite (fun h => ?_) (fun h => ?_)) (fun n => r129 n a b)
  · have h : a < b := of_decide_eq_true h
    rw [show min a b = a by omega]; exact Evt.some _
  · have h : ¬ a < b := by simpa using h
    rw [show min a b = b by omega]; exact Evt.some _
/- spec.l03Foot -/
theorem e98 {c : List Int} (hr : Rng c) (h0 : 0 < c.length) (h1 : c.length ≤ 1000) (hC : ∀ v ∈ c, 0 ≤ v ∧ v ≤ 10000) {f : Nat} (f1 : f ≤ 40) : Evt (fun n => call T C n 98 (c, (f : Int), true, ())) ((wL max c f, ()), ()) := by
  refine Evt.next ?_ (fun n => r98 n c f true)
  refine for_evt' 0 (c.length : Int) (fun i (_ : Unit) => (c, (f : Int), true, tb i.toNat (fun i => wTo max (cAt c) f (i : Nat) (2 * f + 1)), i, ())) (fun _ _ => True) (b0 := ()) rfl (by omega) trivial ?_ ?_
  · intro i' _ h2 h3 _
    obtain ⟨i, rfl⟩ : ∃ i : Nat, i' = i := ⟨i'.toNat, by omega⟩
    rw [Int.toNat_natCast, show ((i : Int) + 1).toNat = i + 1 by omega]
    have hb0 := wTo_bd max_or (fun x => hC _ (cAt_mem h0 x)) f (i : Int) (2 * f + 1)
    obtain ⟨O, eO⟩ : ∃ O, O = tb i (fun i => wTo max (cAt c) f (i : Nat) (2 * f + 1)) := ⟨_, rfl⟩
    have lO : O.length = i := by rw [eO]; exact tb_len _ _
    rw [← tb_snoc, ← eO]
    refine Round.yes (decide_eq_true h3) (Round.bind (e84' hr (by omega) (by omega) (x := (i : Int)) (by omega) (by omega)) ?_)
    refine for_round' (-(f : Int)) ((f : Int) + 1) (fun k (_ : Unit) => (c, (f : Int), true, O, (i : Int), wTo max (cAt c) f (i : Int) (k + f).toNat, k, ())) (fun _ _ => True) (b0 := ()) (by rw [wrap_id (x := 0 - (f : Int)) (by omega) (by omega), show -(f : Int) + f = 0 by omega, Int.zero_sub]; rfl) (by omega) trivial ?_ ?_
    · intro k _ h4 h5 _
      refine Round.yes (decide_eq_true (show k ≤ (f : Int) by omega)) ?_
      simp only [wrap_id (x := (i : Int) + k) (by omega) (by omega)]
      refine Round.bind (e84' hr (by omega) (by omega) (by omega) (by omega)) (Round.yes (by simp) (Round.bind (e38 _ _) (Round.inr _ ⟨(), ?_, trivial⟩)))
      rw [show (k + 1 + (f : Int)).toNat = (k + f).toNat + 1 by omega, wTo, show (((k + (f : Int)).toNat : Nat) : Int) - (f : Nat) = k by omega, wrap_id (x := k + 1) (by omega) (by omega)]
    · intro _ _
      rw [show ((f : Int) + 1 + f).toNat = 2 * f + 1 by omega]
      refine Round.no (by simp; omega) (Round.chk (decide_eq_true (by simp only [List.length_cons, List.length_nil, lO]; omega)) (Round.inl _ ⟨(), ?_, trivial⟩))
      rw [wrap16 (x := wTo max (cAt c) f (i : Int) (2 * f + 1)) (by omega) (by omega), wrap_id (x := (i : Int) + 1) (by omega) (by omega)]
  · intro _ _
    rw [Int.toNat_natCast]
    exact Round.no (by simp) (Round.done (Evt.some _))
theorem e98_2 {c : List Int} (hr : Rng c) (h0 : 0 < c.length) (h1 : c.length ≤ 1000) (hC : ∀ v ∈ c, 0 ≤ v ∧ v ≤ 10000) {f : Nat} (f1 : f ≤ 40) : Evt (fun n => call T C n 98 (c, (f : Int), false, ())) ((wL min c f, ()), ()) := by
  refine Evt.next ?_ (fun n => r98 n c f false)
  refine for_evt' 0 (c.length : Int) (fun i (_ : Unit) => (c, (f : Int), false, tb i.toNat (fun i => wTo min (cAt c) f (i : Nat) (2 * f + 1)), i, ())) (fun _ _ => True) (b0 := ()) rfl (by omega) trivial ?_ ?_
  · intro i' _ h2 h3 _
    obtain ⟨i, rfl⟩ : ∃ i : Nat, i' = i := ⟨i'.toNat, by omega⟩
    rw [Int.toNat_natCast, show ((i : Int) + 1).toNat = i + 1 by omega]
    have hb0 := wTo_bd min_or (fun x => hC _ (cAt_mem h0 x)) f (i : Int) (2 * f + 1)
    obtain ⟨O, eO⟩ : ∃ O, O = tb i (fun i => wTo min (cAt c) f (i : Nat) (2 * f + 1)) := ⟨_, rfl⟩
    have lO : O.length = i := by rw [eO]; exact tb_len _ _
    rw [← tb_snoc, ← eO]
    refine Round.yes (decide_eq_true h3) (Round.bind (e84' hr (by omega) (by omega) (x := (i : Int)) (by omega) (by omega)) ?_)
    refine for_round' (-(f : Int)) ((f : Int) + 1) (fun k (_ : Unit) => (c, (f : Int), false, O, (i : Int), wTo min (cAt c) f (i : Int) (k + f).toNat, k, ())) (fun _ _ => True) (b0 := ()) (by rw [wrap_id (x := 0 - (f : Int)) (by omega) (by omega), show -(f : Int) + f = 0 by omega, Int.zero_sub]; rfl) (by omega) trivial ?_ ?_
    · intro k _ h4 h5 _
      refine Round.yes (decide_eq_true (show k ≤ (f : Int) by omega)) ?_
      simp only [wrap_id (x := (i : Int) + k) (by omega) (by omega)]
      refine Round.bind (e84' hr (by omega) (by omega) (by omega) (by omega)) (Round.no (by simp) (Round.bind (e129 _ _) (Round.inr _ ⟨(), ?_, trivial⟩)))
      rw [show (k + 1 + (f : Int)).toNat = (k + f).toNat + 1 by omega, wTo, show (((k + (f : Int)).toNat : Nat) : Int) - (f : Nat) = k by omega, wrap_id (x := k + 1) (by omega) (by omega)]
    · intro _ _
      rw [show ((f : Int) + 1 + f).toNat = 2 * f + 1 by omega]
      refine Round.no (by simp; omega) (Round.chk (decide_eq_true (by simp only [List.length_cons, List.length_nil, lO]; omega)) (Round.inl _ ⟨(), ?_, trivial⟩))
      rw [wrap16 (x := wTo min (cAt c) f (i : Int) (2 * f + 1)) (by omega) (by omega), wrap_id (x := (i : Int) + 1) (by omega) (by omega)]
  · intro _ _
    rw [Int.toNat_natCast]
    exact Round.no (by simp) (Round.done (Evt.some _))
/- spec.l03Reached -/
theorem e51 {c : List Int} (hr : Rng c) (ok : okC c = true) {f : Nat} (f1 : f ≤ 40) : Evt (fun n => call T C n 51 (c, (f : Int), ())) ((rcL c f, ()), ()) := by
  have hl := okC_len ok
  have hC := okC_el ok hr
  have h0 : 0 < c.length := by omega
  have hU := wL_el max_or h0 hC f
  have lU : (wL max c f).length = c.length := wL_len _ _ _
  exact Evt.next (Evt.bind (e98 hr (by omega) (by omega) hC f1) (Evt.bind (e98_2 (rng_bd (by omega) hU) (by omega) (by omega) hU f1) (Evt.some _))) (fun n => r51 n c f)
/- spec.ReachedCam -/
theorem e16 {c : List Int} (hr : Rng c) (ok : okC c = true) {f : Nat} (f1 : f ≤ 40) : Evt (fun n => call T C n 16 (c, (f : Int), ())) ((rcL c f, 0, ()), ()) := by
  refine Evt.next ?_ (fun n => r16 n c f)
  exact Evt.bind (e50 hr ok f1) (Evt.no (by simp) (Evt.bind (e51 hr ok f1) (Evt.some _)))
/- spec.P6Strokes -/
theorem e17 {b : List Int} (hb : ∀ v ∈ b, 0 ≤ v ∧ v ≤ 255) (hl : (b.length : Int) ≤ 4096) : ∃ K : List Stk, Evt (fun n => call T C n 17 (b, ())) ((K, ()), ()) ∧ SmT K := by
  have h0 : SrcAt 0 ((b, 0, 0, ()) : Src) := ⟨hb, by show (b.length : Int) ≤ 1000000; omega, Int.le_refl _, Int.le_refl _⟩
  obtain ⟨c, s1, hE1, c0, c1, hs1⟩ := e52 h0 (by omega) (m := 5) (by omega) (by omega)
  have key : EvtX (fun n => call T C n 17 (b, ())) (fun y => SmT y.1.1) := by
    refine EvtX.next (EvtX.bind (e27 b) (EvtX.bind hE1 ?_)) (fun n => r17 n b)
    refine EvtX.loop (fun x => ∃ (src : Src) (K : List Stk) (m : Nat), x = (src, K, (m : Int), ()) ∧ SrcAt (2 + 100 * (4 - m)) src ∧ (∀ s ∈ K, (1 ≤ s.length ∧ s.length ≤ 4) ∧ ∀ m ∈ s, OnP m) ∧ K.length + m ≤ 4) (fun x => x.2.2.1.toNat)
      ⟨s1, [], c.toNat, ?_, hs1.mono (by omega), by simp, by simp; omega⟩ ?_
    · show (s1, _, c, ()) = _
      rw [show ((c.toNat : Nat) : Int) = c by omega]
    rintro x ⟨src, K, m, rfl, hsrc, hK, hn⟩
    by_cases h0 : 0 < m
    · right
      obtain ⟨a, a1, hA, a0, al, hs3⟩ := e52 hsrc (by omega) (m := 4) (by omega) (by omega)
      have hin := inner_ex (α := ((resTy [.ro (.slc (.slc (.arr 2 (.int .i16))))]).I × Unit)) (σ := Src × List Stk × Int × Unit) (τ := Src × List Stk × Int × Stk × Int × Unit)
        (f := fun n again5 (x9 : Src × List Stk × Int × Stk × Int × Unit) again10 => (if (decide (x9.2.2.2.2.1 > (0 : Int))) = true then (call T C n 52 (x9.1, (24 : Int), ())).bind fun r14 => (call T C n 52 (r14.2.1, (24 : Int), ())).bind fun r15 => ((List.replicate 2 (0 : Int))[0]?).bind fun v16 => (((List.replicate 2 (0 : Int)).set 0 (wr .i16 r14.1.1))[1]?).bind fun v17 => chk (decide ((x9.2.2.2.1.length + ([(((List.replicate 2 (0 : Int)).set 0 (wr .i16 r14.1.1)).set 1 (wr .i16 r15.1.1))] : (List (List Int))).length) * 4 ≤ 140737488355328)) (again10 (r15.2.1, x9.2.1, x9.2.2.1, (x9.2.2.2.1 ++ ([(((List.replicate 2 (0 : Int)).set 0 (wr .i16 r14.1.1)).set 1 (wr .i16 r15.1.1))] : (List (List Int)))), (wr .i64 (x9.2.2.2.2.1 - (1 : Int))), ())) else chk (decide ((x9.2.1.length + ([x9.2.2.2.1] : (List (List (List Int)))).length) * 24 ≤ 140737488355328)) (again5 (x9.1, (x9.2.1 ++ ([x9.2.2.2.1] : (List (List (List Int))))), (wr .i64 (x9.2.2.1 - (1 : Int))), ()))))
        (fun x => ∃ (src : Src) (t : Stk) (j : Nat), x = (src, K, (m : Int), t, (j : Int), ()) ∧ SrcAt (2 + 100 * (4 - m) + 2 + 4 * (4 - j)) src ∧ (∀ m ∈ t, OnP m) ∧ t.length + j ≤ 4 ∧ 1 ≤ t.length + j) (fun x => x.2.2.2.2.1.toNat)
        (fun z => ∃ (src : Src) (t : Stk), z = (src, K ++ [t], ((m - 1 : Nat) : Int), ()) ∧ SrcAt (2 + 100 * (4 - m) + 50) src ∧ (∀ m ∈ t, OnP m) ∧ 1 ≤ t.length ∧ t.length ≤ 4)
        (x := (a1, K, (m : Int), [], wr .i64 (1 + a), ())) ⟨a1, [], (1 + a).toNat, by rw [wrap_id (x := 1 + a) (by omega) (by omega), show (((1 + a).toNat : Nat) : Int) = 1 + a by omega], hs3.mono (by omega), by simp, by simp; omega, by simp; omega⟩ (by
          rintro x ⟨src, t, j, rfl, hsrc, ht, ht1, ht2⟩
          by_cases hj : 0 < j
          · right
            obtain ⟨p, p1, hP, p0, pl, hs4⟩ := e52 hsrc (by omega) (m := 24) (by omega) (by omega)
            obtain ⟨q, q1, hQ, q0, ql, hs5⟩ := e52 hs4 (by omega) (m := 24) (by omega) (by omega)
            refine ⟨(q1, K, (m : Int), t ++ [[p, q]], ((j - 1 : Nat) : Int), ()), ⟨q1, t ++ [[p, q]], j - 1, rfl, hs5.mono (by omega), fun v hv => ?_, by simp; omega, by simp; omega⟩, ?_, fun y => ?_⟩
            · rcases List.mem_append.1 hv with hv | hv
              · exact ht v hv
              · rw [List.mem_singleton.1 hv]; exact onP_pair (by omega) (by omega)
            · show ((j - 1 : Nat) : Int).toNat < (j : Int).toNat
              omega
            · refine Round.yes (decide_eq_true (show (j : Int) > 0 by omega)) (Round.bind hP (Round.bind hQ (Round.at (v := (0 : Int)) rfl (Round.at (v := (0 : Int)) rfl (Round.chk (decide_eq_true (by simp only [List.length_cons, List.length_nil]; omega)) (Round.inr _ ?_))))))
              rw [wrap_id (x := (j : Int) - 1) (by omega) (by omega), show (j : Int) - 1 = ((j - 1 : Nat) : Int) by omega, wrap16 (x := p) (by omega) (by omega), wrap16 (x := q) (by omega) (by omega)]
              rfl
          · left
            have hj0 : j = 0 := by omega
            subst hj0
            refine ⟨(src, K ++ [t], ((m - 1 : Nat) : Int), ()), ⟨src, t, rfl, hsrc.mono (by omega), ht, by omega, by omega⟩, fun y => ?_⟩
            refine Round.no (by simp) (Round.chk (decide_eq_true (by simp only [List.length_cons, List.length_nil]; omega)) (Round.inl _ ?_))
            rw [wrap_id (x := (m : Int) - 1) (by omega) (by omega), show (m : Int) - 1 = ((m - 1 : Nat) : Int) by omega])
      obtain ⟨z, ⟨src', t, rfl, hs6, ht, ht1, ht2⟩, hR⟩ := hin
      refine ⟨(src', K ++ [t], ((m - 1 : Nat) : Int), ()), ⟨src', K ++ [t], m - 1, rfl, hs6.mono (by omega), fun s hs => ?_, by simp; omega⟩, ?_, fun y => ?_⟩
      · rcases List.mem_append.1 hs with hs | hs
        · exact hK s hs
        · rw [List.mem_singleton.1 hs]; exact ⟨⟨ht1, ht2⟩, ht⟩
      · show ((m - 1 : Nat) : Int).toNat < (m : Int).toNat
        omega
      · exact Round.yes (decide_eq_true (show (m : Int) > 0 by omega)) (Round.bind hA (hR y))
    · left
      have hm0 : m = 0 := by omega
      subst hm0
      exact ⟨((K, ()), ()), ⟨by show K.length ≤ 4; omega, hK⟩, Round.no (by simp) (Round.done (Evt.some _))⟩
  obtain ⟨⟨⟨K, _⟩, _⟩, h1, hE⟩ := key
  exact ⟨K, hE, h1⟩
/- impl.ValidMark -/
theorem e134 (m : Mk) (h : m.length = 2) : Evt (fun n => call T C n 134 (m, ())) ((okMk m, ()), ()) := by
  have h0 := (g_idx (l := m) (i := 0) (by omega) (by omega)).get
  have h1 := (g_idx (l := m) (i := 1) (by omega) (by omega)).get
  refine Evt.next (Evt.chk rfl (Evt.at h0 (Evt.bind (e45 _ _ _) ?_))) (fun n => r134 n m)
  unfold okMk
  refine Evt.ite (fun hc => ?_) (fun hc => ?_)
  · have hc : inR (wr .i64 (g m 0)) 0 63 = true := hc
    rw [hc]
    exact Evt.chk rfl (Evt.at h1 (Evt.bind (e45 _ _ _) (Evt.some _)))
  · have hc : inR (wr .i64 (g m 0)) 0 63 = false := by
      have : ¬ inR (wr .i64 (g m 0)) 0 63 = true := hc
      simpa using this
    rw [hc]
    exact Evt.some _
/- impl.strokesCode$1$1 -/
theorem e133 (m : Mk) (h : m.length = 2) : Evt (fun n => call T C n 133 (m, ())) ((!okMk m, ()), ()) := Evt.next (Evt.bind (e134 m h) (Evt.some _)) (fun n => r133 n m)
/- slices.IndexFunc[impl.Stroke,impl.Mark]{impl.strokesCode$1$1} -/
theorem e148 (l : List Mk)  (hl' : (l.length : Int) ≤ 140737488351232) (hr : ∀ m ∈ l, m.length = 2) : Evt (fun n => call T C n 148 (l, ((), ()), ())) ((fi (fun v => !okMk v) l 0, ()), ()) := by
  have hl : (l.length : Int) ≤ 140737488351232 := hl'
  refine Evt.next ?_ (fun n => r148 n l ((), ()))
  refine for_evt' 0 (l.length : Int) (fun i (_ : Unit) => (l, ((), ()), (l.length : Int), i, ())) (fun i _ => fi (fun v => !okMk v) l 0 = fi (fun v => !okMk v) (l.drop i.toNat) i) (b0 := ()) rfl (by omega) (by simp) ?_ ?_
  · intro i _ h2 h3 hp
    obtain ⟨v, hv⟩ := at_of h2 h3
    rw [hv.drop] at hp
    simp only [fi] at hp
    refine Round.yes (decide_eq_true h3) (Round.at hv.idx (Round.bind (e133 v (hr v hv.mem)) ?_))
    cases hb : !okMk v with
    | true =>
      simp only [hb, if_true] at hp
      rw [hp]
      exact Round.yes rfl (Round.done (Evt.some _))
    | false =>
      simp only [hb, Bool.false_eq_true, if_false] at hp
      exact Round.no (by simp) (Round.again _ ⟨(), by rw [wr_succ h2 h3 (by omega)], hp⟩)
  · intro _ hp
    rw [drop_all] at hp
    rw [hp]
    exact Round.no (by simp) (Round.done (Evt.some _))
/- slices.ContainsFunc[impl.Stroke,impl.Mark]{impl.strokesCode$1$1} -/
theorem e132 (l : List Mk)  (hl' : (l.length : Int) ≤ 140737488351232) (hr : ∀ m ∈ l, m.length = 2) : Evt (fun n => call T C n 132 (l, ((), ()), ())) ((l.any (fun v => !okMk v), ()), ()) := by
  refine Evt.next (Evt.bind (e148 l  hl' hr) ((Evt.some _).of_eq fun n => ?_)) (fun n => r132 n l ((), ()))
  simp only [fi_any _ l 0 (Int.le_refl _)]
  rfl
/- impl.strokesCode$1 -/
theorem e131 (s : Stk) (hr : (s.length : Int) * 4 ≤ 140737488351232 ∧ ∀ m ∈ s, m.length = 2 ∧ ∀ v ∈ m, -32768 ≤ v ∧ v ≤ 32767) : Evt (fun n => call T C n 131 (s, ())) ((!okSk s, ()), ()) := by
  refine Evt.next (Evt.bind (e45 _ _ _) ?_) (fun n => r131 n s)
  unfold okSk
  cases h1 : inR (s.length : Int) 1 60 with
  | false => exact Evt.yes rfl (Evt.some _)
  | true =>
    refine Evt.no (by simp) (Evt.bind (e132 s (by omega) (fun m hm => (hr.2 m hm).1)) ((Evt.some _).of_eq fun n => ?_))
    have : (s.any fun v => !okMk v) = !s.all okMk := by simp [List.any_eq_not_all_not]
    rw [this]
    rfl
/- slices.IndexFunc[[]impl.Stroke,impl.Stroke]{impl.strokesCode$1} -/
theorem e147 (l : List Stk)  (hr : RngT l) : Evt (fun n => call T C n 147 (l, ((), ()), ())) ((fi (fun v => !okSk v) l 0, ()), ()) := by
  have hl : (l.length : Int) ≤ 140737488351232 := by have := hr.len'; omega
  refine Evt.next ?_ (fun n => r147 n l ((), ()))
  refine for_evt' 0 (l.length : Int) (fun i (_ : Unit) => (l, ((), ()), (l.length : Int), i, ())) (fun i _ => fi (fun v => !okSk v) l 0 = fi (fun v => !okSk v) (l.drop i.toNat) i) (b0 := ()) rfl (by omega) (by simp) ?_ ?_
  · intro i _ h2 h3 hp
    obtain ⟨v, hv⟩ := at_of h2 h3
    rw [hv.drop] at hp
    simp only [fi] at hp
    refine Round.yes (decide_eq_true h3) (Round.at hv.idx (Round.bind (e131 v (hr.el v hv.mem)) ?_))
    cases hb : !okSk v with
    | true =>
      simp only [hb, if_true] at hp
      rw [hp]
      exact Round.yes rfl (Round.done (Evt.some _))
    | false =>
      simp only [hb, Bool.false_eq_true, if_false] at hp
      exact Round.no (by simp) (Round.again _ ⟨(), by rw [wr_succ h2 h3 (by omega)], hp⟩)
  · intro _ hp
    rw [drop_all] at hp
    rw [hp]
    exact Round.no (by simp) (Round.done (Evt.some _))
/- slices.ContainsFunc[[]impl.Stroke,impl.Stroke]{impl.strokesCode$1} -/
theorem e130 (l : List Stk)  (hr : RngT l) : Evt (fun n => call T C n 130 (l, ((), ()), ())) ((l.any (fun v => !okSk v), ()), ()) := by
  refine Evt.next (Evt.bind (e147 l  hr) ((Evt.some _).of_eq fun n => ?_)) (fun n => r130 n l ((), ()))
  simp only [fi_any _ l 0 (Int.le_refl _)]
  rfl
/- impl.firstCode -/
theorem e64 (l : List Int) (hl : (l.length : Int) ≤ 140737488351232) : Evt (fun n => call T C n 64 (l, ())) ((fst0 l, ()), ()) := by
  refine Evt.next ?_ (fun n => r64 n l)
  refine loop_evt (fun (x : List Int × Int × Int × Unit) => x.1 = l ∧ x.2.1 = (l.length : Int) ∧ 0 ≤ x.2.2.1 ∧ x.2.2.1 ≤ (l.length : Int) ∧ fst0 l = fst0 (l.drop x.2.2.1.toNat)) (fun (x : List Int × Int × Int × Unit) => ((l.length : Int) - x.2.2.1).toNat) (x := (l, (l.length : Int), 0, ())) ⟨rfl, rfl, Int.le_refl _, by simp, by simp⟩ ?_
  rintro ⟨x1, m, i, _⟩ ⟨h', hm, h0, h1, h2⟩
  simp only at h' hm h0 h1 h2
  subst h'; subst hm
  refine Round.ite (fun hlt => ?_) (fun hge => ?_)
  · have hlt : i < (x1.length : Int) := of_decide_eq_true hlt
    obtain ⟨v, hv, hv'⟩ := idx_at h0 hlt
    have hd := drop_cons hv'
    refine Round.at hv (Round.ite (fun hb => ?_) (fun hb => ?_))
    · have hb : v ≠ 0 := by simpa using hb
      have h3 : fst0 x1 = v := by rw [h2, hd]; simp [fst0, hb]
      rw [h3]
      exact Round.done (Evt.some _)
    · have hb : v = 0 := by simpa using hb
      have hw : wr .i64 (i + 1) = i + 1 := wrap_id (by omega) (by omega)
      refine Round.again _ ⟨⟨rfl, rfl, ?_, ?_, ?_⟩, ?_⟩ <;> simp only [hw]
      · omega
      · omega
      · rw [h2, hd, show (i + 1).toNat = i.toNat + 1 by omega]
        simp [fst0, hb]
      · omega
  · have hge : ¬ i < (x1.length : Int) := by simpa using hge
    have : x1.drop i.toNat = [] := List.drop_of_length_le (by omega)
    rw [h2, this]
    exact Round.done (Evt.some _)
/- impl.strokesCode -/
theorem e100 (K : List Stk) (hr : RngT K) : Evt (fun n => call T C n 100 (K, ())) ((skCode K, ()), ()) := by
  refine Evt.next (Evt.bind (e130 K hr) (Evt.bind (e65 _ _) (Evt.bind (e65 _ _) (Evt.bind (e64 _ (by simp)) ((Evt.some _).of_eq fun n => ?_))))) (fun n => r100 n K)
  have : (K.any fun v => !okSk v) = !K.all okSk := by simp [List.any_eq_not_all_not]
  rw [this]
  unfold skCode
  by_cases h : (K.length : Int) > 20
  · rw [decide_eq_true h, if_pos h]
    cases K.all okSk <;> rfl
  · rw [decide_eq_false h, if_neg h]
    cases K.all okSk <;> rfl
/- impl.abs -/
theorem e153 {a : Int} (h1 : -1000000000000 ≤ a) (h2 : a ≤ 1000000000000) : Evt (fun n => call T C n 153 (a, ())) ((siz a, ()), ()) := by
  refine Evt.next ((Evt.some _).of_eq fun n => ?_) (fun n => r153 n a)
  rw [wrap_id (x := 0 - a) (by omega) (by omega)]
  unfold siz
  have : (if 0 - a > a then 0 - a else a) = if a < 0 then -a else a := by split <;> split <;> omega
  rw [this]
  rfl
/- impl.between -/
theorem e149 {a b : Mk} (ha : OnP a) (hb : OnP b) : Evt (fun n => call T C n 149 (a, b, ())) ((far a b, ()), ()) := by
  have hx := ha.x; have hy := ha.y; have kx := hb.x; have ky := hb.y
  refine Evt.next ?_ (fun n => r149 n a b)
  refine Evt.chk rfl (Evt.at hb.get0 (Evt.chk rfl (Evt.at ha.get0 ?_)))
  rw [wrap_id (x := g a 0) (by omega) (by omega), wrap_id (x := g b 0) (by omega) (by omega), wrap_id (by omega) (by omega)]
  refine Evt.bind (e153 (by omega) (by omega)) (Evt.chk rfl (Evt.at hb.get1 (Evt.chk rfl (Evt.at ha.get1 ?_))))
  rw [wrap_id (x := g a 1) (by omega) (by omega), wrap_id (x := g b 1) (by omega) (by omega), wrap_id (by omega) (by omega)]
  refine Evt.bind (e153 (by omega) (by omega)) ((Evt.some _).of_eq fun n => ?_)
  have e : ∀ x : Int, siz (-x) = siz x := fun x => by unfold siz; split <;> split <;> omega
  have e0 : siz (g b 0 - g a 0) = siz (g a 0 - g b 0) := by rw [← e, Int.neg_sub]
  have e1 : siz (g b 1 - g a 1) = siz (g a 1 - g b 1) := by rw [← e, Int.neg_sub]
  have : (if siz (g a 1 - g b 1) > siz (g a 0 - g b 0) then siz (g a 1 - g b 1) else siz (g a 0 - g b 0)) = far a b := by unfold far; split <;> omega
  simp only [e0, e1, this]
  rfl
/- impl.lineOf -/
theorem e135 {a b : Mk} (ha : OnP a) (hb : OnP b) : Evt (fun n => call T C n 135 (a, b, ())) ((lineM a b, ()), ()) := by
  obtain ⟨f0, f1, f2⟩ := far_bd ha hb
  refine Evt.next (Evt.bind (e149 ha hb) ?_) (fun n => r135 n a b)
  by_cases h : far a b = 0
  · have e : lineM a b = [a] := by unfold lineM; rw [if_pos h]
    rw [e]
    simp only [h]
    refine for_evt' 1 1 (fun i (_ : Unit) => (a, b, [a], 0, i, ())) (fun _ _ => True) (b0 := ()) rfl (by omega) trivial (fun i _ h2 h3 _ => by omega) (fun _ _ => ?_)
    exact Round.no (by simp) (Round.done (Evt.some _))
  have e : lineM a b = (List.range (far a b + 1).toNat).map fun k => ptM a b (k : Nat) := by unfold lineM; rw [if_neg h]
  rw [e]
  refine for_evt' 1 (far a b + 1) (fun i (_ : Unit) => (a, b, (List.range i.toNat).map (fun k => ptM a b (k : Nat)), far a b, i, ())) (fun _ _ => True) (b0 := ()) (by
    show (a, b, [a], far a b, 1, ()) = (a, b, [ptM a b 0], far a b, 1, ())
    rw [ptM_zero ha hb h]) (by omega) trivial ?_ ?_
  · intro i _ h2 h3 _
    refine Round.yes (decide_eq_true (show i ≤ far a b by omega)) ?_
    refine for_round' 0 2 (fun j (m : List Int) => (a, b, (List.range i.toNat).map (fun k => ptM a b (k : Nat)), far a b, i, m, j, ())) (fun j m => m = ((List.range j.toNat).map (fun u => pt a b i u)) ++ List.replicate (2 - j.toNat) 0) (b0 := List.replicate 2 0) rfl (by omega) (by simp) ?_ ?_
    · intro j m j0 j1 hm
      have hj : j = 0 ∨ j = 1 := by omega
      have hga := g_idx (l := a) j0 (by have := ha.len; omega)
      have hgb := g_idx (l := b) j0 (by have := hb.len; omega)
      have hu : j.toNat = 0 ∨ j.toNat = 1 := by omega
      have ba : 0 ≤ g a j.toNat ∧ g a j.toNat ≤ 63 := by rcases hu with e | e <;> rw [e]; exact ha.x; exact ha.y
      have bb : 0 ≤ g b j.toNat ∧ g b j.toNat ≤ 63 := by rcases hu with e | e <;> rw [e]; exact hb.x; exact hb.y
      have hk := kd_bd ha hb (show 0 ≤ i by omega) (by omega) hu
      have hp := pt_bd ha hb h (show 0 ≤ i by omega) (by omega) hu
      have hm2 : m.length = 2 := by rw [hm]; simp; omega
      have hgm := g_idx (l := m) j0 (by omega)
      have hn1 : 0 ≤ g a j.toNat * far a b ∧ g a j.toNat * far a b ≤ 63 * 63 := ⟨Int.mul_nonneg ba.1 f0, Int.mul_le_mul ba.2 f1 f0 (by omega)⟩
      show Round (fun n ag => if decide (j < 2) = true then _ else _) _ _
      simp only [wrap_id (x := j + 1) (by omega) (by omega)]
      refine Round.yes (decide_eq_true j1) (Round.chk (decide_eq_true (by omega)) (Round.at hga.get (Round.chk (decide_eq_true (by omega)) (Round.at hgb.get (Round.chk (decide_eq_true (by omega)) (Round.at hga.get ?_))))))
      simp only [wrap_id (x := g a j.toNat) (by omega) (by omega), wrap_id (x := g b j.toNat) (by omega) (by omega), wrap_id (x := g b j.toNat - g a j.toNat) (by omega) (by omega), wrap_id (x := i * (g b j.toNat - g a j.toNat)) (by omega) (by omega), wrap_id (x := g a j.toNat * far a b) (by omega) (by omega), wrap_id (x := g a j.toNat * far a b + i * (g b j.toNat - g a j.toNat)) (by omega) (by omega)]
      refine Round.bind (e120 (by omega) (by omega) (by omega) (by omega)) (Round.chk (decide_eq_true (by omega)) (Round.at hgm.get (Round.inr _ ⟨_, rfl, ?_⟩)))
      have hpt : nr (g a j.toNat * far a b + i * (g b j.toNat - g a j.toNat)) (far a b) = pt a b i j.toNat := nr_from (by omega)
      show m.set j.toNat (wr .i16 (nr (g a j.toNat * far a b + i * (g b j.toNat - g a j.toNat)) (far a b))) = _
      rw [hpt, wrap16 (by omega) (by omega), hm]
      rcases hj with rfl | rfl
      · rfl
      · rfl
    · intro m hm
      have hm : m = ptM a b i := hm
      refine Round.no (by simp) (Round.chk (decide_eq_true (by simp; omega)) (Round.inl _ ⟨(), ?_, trivial⟩))
      rw [hm, wrap_id (x := i + 1) (by omega) (by omega), show (i + 1).toNat = i.toNat + 1 by omega, List.range_succ, List.map_append]
      simp [show ((i.toNat : Nat) : Int) = i by omega]
  · intro _ _
    exact Round.no (by simp; omega) (Round.done (Evt.some _))
/- (*impl.planner).stand -/
theorem e102 (a : Mk) (S : List Stp) (most : Int) (m : Mk) (d : Bool) (hl : S.length ≤ 10000000) : Evt (fun n => call T C n 102 ((most, a, S, ()), m, d, ())) ((), ((most, m, S ++ [(m, d, ())], ()), ())) := Evt.next (Evt.chk (decide_eq_true (by simp; omega)) (Evt.some _)) (fun n => r102 n _ m d)
/- (*impl.planner).goUp -/
theorem e101 {a b : Mk} (S : List Stp) {most : Int} (ha : OnP a) (hb : OnP b) (m0 : 1 ≤ most) (m1 : most ≤ 63) (hS : S.length ≤ 1000000) : Evt (fun n => call T C n 101 ((most, a, S, ()), b, ())) ((), ((most, b, S ++ goL most.toNat false a b, ()), ())) := by
  have hlen := lineM_length ha hb
  obtain ⟨f0, f1, _⟩ := far_bd ha hb
  refine Evt.next (Evt.bind (e135 ha hb) ?_) (fun n => r101 n (most, a, S, ()) b)
  obtain ⟨L, hL⟩ := (⟨_, rfl⟩ : ∃ L, L = lineM a b)
  rw [← hL] at hlen
  have wn : wr .i64 ((L.length : Int) - 1) = (L.length : Int) - 1 := wrap_id (by omega) (by omega)
  show Evt (fun n => if (wr .i64 (((lineM a b).length : Int) - 1) == 0) = true then some ((), ((most, a, S, ()), ())) else loopK _ n ((most, a, S, ()), b, lineM a b, wr .i64 (((lineM a b).length : Int) - 1), most, ())) _
  rw [← hL, wn]
  have tot : goL most.toNat false a b = goF most.toNat false L 64 0 := by unfold goL; rw [← hL]
  rw [tot]
  refine Evt.ite (fun h => ?_) (fun h => ?_)
  · have h : (L.length : Int) - 1 = 0 := by simpa using h
    have := far_zero ha hb (by omega)
    subst this
    rw [goF_last _ _ _ _ (by omega), List.append_nil]
    exact Evt.some _
  have h : ¬ (L.length : Int) - 1 = 0 := by simpa using h
  refine loop_evt (fun x => ∃ (i f : Nat) (Q : List Stp) (cur : Mk), x = ((most, cur, Q, ()), b, L, (L.length : Int) - 1, (i : Int) + most, ()) ∧ i < L.length - 1 ∧ L.length - 1 - i ≤ f ∧ Q ++ goF most.toNat false L f i = S ++ goF most.toNat false L 64 0 ∧ Q.length ≤ S.length + i) (fun x => (((L.length : Int) - 1 + most) - x.2.2.2.2.1).toNat) ⟨0, 64, S, a, by simp, by omega, by omega, rfl, by omega⟩ ?_
  rintro x ⟨i, f, Q, cur, rfl, hi, hf, hq, hql⟩
  obtain ⟨f, rfl⟩ : ∃ f', f = f' + 1 := ⟨f - 1, by omega⟩
  rw [goF, if_pos hi] at hq
  show Round (fun n ag => if decide ((i : Int) + most < (L.length : Int) - 1) = true then _ else _) _ _
  refine Round.ite (fun hc => ?_) (fun hc => ?_)
  · have hc : (i : Int) + most < (L.length : Int) - 1 := of_decide_eq_true hc
    have hj : toJ most.toNat false L i = i + most.toNat := by unfold toJ; rw [if_neg (by simp)]; omega
    rw [hj] at hq
    have hat := gM_idx (L := L) (i := (i : Int) + most) (by omega) (by omega)
    rw [show ((i : Int) + most).toNat = i + most.toNat by omega] at hat
    refine Round.at hat.idx (Round.bind (e102 cur Q most (gM L (i + most.toNat)) false (by omega)) (Round.again _ ⟨⟨i + most.toNat, f, Q ++ [(gM L (i + most.toNat), false, ())], gM L (i + most.toNat), ?_, by omega, by omega, by rw [List.append_assoc]; exact hq, by rw [List.length_append, List.length_singleton]; omega⟩, ?_⟩))
    · show ((most, gM L (i + most.toNat), Q ++ [(gM L (i + most.toNat), false, ())], ()), b, L, (L.length : Int) - 1, wr .i64 ((i : Int) + most + most), ()) = _
      rw [wrap_id (x := (i : Int) + most + most) (by omega) (by omega), show (i : Int) + most + most = ((i + most.toNat : Nat) : Int) + most by omega]
    · show (((L.length : Int) - 1 + most) - wr .i64 ((i : Int) + most + most)).toNat < (((L.length : Int) - 1 + most) - ((i : Int) + most)).toNat
      rw [wrap_id (x := (i : Int) + most + most) (by omega) (by omega)]; omega
  · have hc : ¬ (i : Int) + most < (L.length : Int) - 1 := by simpa using hc
    have hj : toJ most.toNat false L i = L.length - 1 := by unfold toJ; rw [if_neg (by simp)]; omega
    have hla : gM L (L.length - 1) = b := by rw [hL]; exact line_last ha hb
    rw [hj, goF_last _ _ _ _ (by omega), hla] at hq
    rw [← hq]
    exact Round.done (Evt.bind (e102 cur Q most b false (by omega)) (Evt.some _))
/- slices.Equal[[]impl.Mark,impl.Mark] -/
theorem e136 (a b : Stk) (hl : (a.length : Int) ≤ 140737488351232) : Evt (fun n => call T C n 136 (a, b, ())) ((decide (a = b), ()), ()) := by
  refine Evt.next ?_ (fun n => r136 n a b)
  refine Evt.ite (fun h => ?_) (fun h => ?_)
  · have h : (a.length : Int) ≠ b.length := by simpa using h
    rw [decide_eq_false (fun e => h (by rw [e]))]; exact Evt.some _
  have h : a.length = b.length := by
    have h : (a.length : Int) = b.length := by simpa using h
    omega
  refine for_evt' 0 (a.length : Int) (fun i (_ : Unit) => (a, b, (a.length : Int), i, ())) (fun i _ => a.take i.toNat = b.take i.toNat) (b0 := ()) rfl (by omega) (by simp) ?_ ?_
  · intro i _ h2 h3 hp
    obtain ⟨u, hu⟩ := at_of h2 h3
    obtain ⟨v, hv⟩ := at_of (l := b) h2 (by omega)
    refine Round.yes (decide_eq_true h3) (Round.at hu.idx (Round.at hv.idx (Round.ite (fun hc => ?_) (fun hc => ?_))))
    · have hc : u ≠ v := by simpa using hc
      have : a ≠ b := fun e => by
        subst e
        have := hu.get
        rw [hv.get] at this
        exact hc (Option.some.inj this).symm
      rw [decide_eq_false this]
      exact Round.done (Evt.some _)
    · have hc : u = v := by simpa using hc
      refine Round.again _ ⟨(), ?_, by rw [hu.take, hv.take, hp, hc]⟩
      rw [wr_succ h2 h3 (by omega)]
  · intro _ hp
    rw [take_all, h, take_all] at hp
    rw [decide_eq_true hp]
    exact Round.no (by simp [h]) (Round.done (Evt.some _))
/- (*impl.planner).goDown -/
theorem e103 {a b : Mk} (S : List Stp) {most : Int} (ha : OnP a) (hb : OnP b) (m0 : 1 ≤ most) (m1 : most ≤ 63) (hS : S.length ≤ 1000000) : Evt (fun n => call T C n 103 ((most, a, S, ()), b, ())) ((), ((most, b, S ++ goL most.toNat true a b, ()), ())) := by
  have hlen := lineM_length ha hb
  obtain ⟨f0, f1, _⟩ := far_bd ha hb
  have hon := lineM_on ha hb
  refine Evt.next (Evt.bind (e135 ha hb) ?_) (fun n => r103 n (most, a, S, ()) b)
  obtain ⟨L, hL⟩ := (⟨_, rfl⟩ : ∃ L, L = lineM a b)
  rw [← hL] at hlen hon
  have wn : wr .i64 ((L.length : Int) - 1) = (L.length : Int) - 1 := wrap_id (by omega) (by omega)
  show Evt (fun n => loopK _ n ((most, a, S, ()), lineM a b, 0, ())) _
  rw [← hL]
  have tot : goL most.toNat true a b = goF most.toNat true L 64 0 := by unfold goL; rw [← hL]
  rw [tot]
  refine loop_evt (fun x => ∃ (i f : Nat) (Q : List Stp) (cur : Mk), x = ((most, cur, Q, ()), L, (i : Int), ()) ∧ i ≤ L.length - 1 ∧ L.length - 1 - i ≤ f ∧ Q ++ goF most.toNat true L f i = S ++ goF most.toNat true L 64 0 ∧ Q.length ≤ S.length + i ∧ (i = L.length - 1 → cur = b)) (fun x => (((L.length : Int) - 1) - x.2.2.1).toNat) ⟨0, 64, S, a, rfl, by omega, by omega, rfl, by omega, fun h => ?_⟩ ?_
  · exact far_zero ha hb (by omega)
  rintro x ⟨i, f, Q, cur, rfl, hi, hf, hq, hql, hcur⟩
  show Round (fun n ag => if decide ((i : Int) < wr .i64 ((L.length : Int) - 1)) = true then loopK _ n ((most, cur, Q, ()), L, (i : Int), (if wr .i64 ((L.length : Int) - 1) < wr .i64 ((i : Int) + most) then wr .i64 ((L.length : Int) - 1) else wr .i64 ((i : Int) + most)), ()) else _) _ _
  have him : wr .i64 ((i : Int) + most) = (i : Int) + most := wrap_id (by omega) (by omega)
  rw [wn, him]
  refine Round.ite (fun hc => ?_) (fun hc => ?_)
  · have hc : (i : Int) < (L.length : Int) - 1 := of_decide_eq_true hc
    obtain ⟨f, rfl⟩ : ∃ f', f = f' + 1 := ⟨f - 1, by omega⟩
    have hj := toJ_bd (most := most.toNat) (by omega) true ha hb (i := i) (by rw [← hL]; omega)
    rw [← hL] at hj
    obtain ⟨j, hje⟩ := (⟨_, rfl⟩ : ∃ j, j = toJ most.toNat true L i)
    rw [← hje] at hj
    rw [goF, if_pos (by omega), ← hje] at hq
    have hnext : ∃ (i' f' : Nat) (Q' : List Stp) (cur' : Mk), (((most, gM L j, Q ++ [(gM L j, true, ())], ()), L, (j : Int), ()) : (Int × (Mk × (List Stp × Unit))) × Stk × Int × Unit) = ((most, cur', Q', ()), L, (i' : Int), ()) ∧ i' ≤ L.length - 1 ∧ L.length - 1 - i' ≤ f' ∧ Q' ++ goF most.toNat true L f' i' = S ++ goF most.toNat true L 64 0 ∧ Q'.length ≤ S.length + i' ∧ (i' = L.length - 1 → cur' = b) := ⟨j, f, Q ++ [(gM L j, true, ())], gM L j, rfl, hj.2, by omega, by rw [List.append_assoc]; exact hq, by rw [List.length_append, List.length_singleton]; omega, fun e => by rw [e, hL]; exact line_last ha hb⟩
    have hμ : (((L.length : Int) - 1) - (j : Int)).toNat < (((L.length : Int) - 1) - (i : Int)).toNat := by omega
    have hjv : j = bkJ L i (min (i + most.toNat) (L.length - 1)) := by rw [hje]; unfold toJ; rw [if_pos rfl]
    have hmin : (if (L.length : Int) - 1 < (i : Int) + most then (L.length : Int) - 1 else (i : Int) + most) = ((min (i + most.toNat) (L.length - 1) : Nat) : Int) := by split <;> omega
    rw [hmin]
    refine loop_round (fun y => ∃ u : Nat, i < u ∧ u ≤ L.length - 1 ∧ bkJ L i u = j ∧ y = ((most, cur, Q, ()), L, (i : Int), (u : Int), ())) (fun y => y.2.2.2.1.toNat) ⟨min (i + most.toNat) (L.length - 1), by omega, by omega, hjv.symm, rfl⟩ ?_
    rintro y ⟨u, hu0, hu1, hub, rfl⟩
    have hiat := gM_idx (L := L) (i := (i : Int)) (by omega) (by omega)
    have huat := gM_idx (L := L) (i := (u : Int)) (by omega) (by omega)
    rw [Int.toNat_natCast] at hiat huat
    have w1 : wr .i64 ((u : Int) + 1) = (u : Int) + 1 := wrap_id (by omega) (by omega)
    have w2 : wr .i64 ((u : Int) - 1) = (u : Int) - 1 := wrap_id (by omega) (by omega)
    obtain ⟨u', rfl⟩ : ∃ u', u = u' + 1 := ⟨u - 1, by omega⟩
    have hll := lineM_len (hon _ hiat.mem) (hon _ huat.mem)
    refine Round.at hiat.idx (Round.at huat.idx (Round.bind (e135 (hon _ hiat.mem) (hon _ huat.mem)) ?_))
    show Round (fun n ag => chk (decide (0 ≤ (i : Int) ∧ (i : Int) ≤ wr .i64 (((u' + 1 : Nat) : Int) + 1) ∧ wr .i64 (((u' + 1 : Nat) : Int) + 1) ≤ (L.length : Int))) ((call T C n 136 (lineM (gM L i) (gM L (u' + 1)), ((L.take (Int.toNat (wr .i64 (((u' + 1 : Nat) : Int) + 1)))).drop (Int.toNat (i : Int))), ())).bind _)) _ _
    rw [w1]
    refine Round.chk (decide_eq_true (by omega)) ?_
    rw [show (((u' + 1 : Nat) : Int) + 1).toNat = u' + 2 by omega, Int.toNat_natCast]
    refine Round.bind (e136 _ _ (by omega)) (Round.ite (fun hd => ?_) (fun hd => ?_))
    · have hd : ¬ lineM (gM L i) (gM L (u' + 1)) = (L.take (u' + 2)).drop i := by simpa using hd
      rw [bkJ, if_neg hd] at hub
      refine Round.inr _ ⟨⟨u', ?_, by omega, hub, ?_⟩, ?_⟩
      · by_cases e : i = u'
        · subst e
          have h1 : (i : Int) < far a b := by omega
          have h2 := line_step ha hb h1
          rw [← hL] at h2
          exact absurd (by rw [h2, seg_two (by omega)]) hd
        · omega
      · show ((most, cur, Q, ()), L, (i : Int), wr .i64 (((u' + 1 : Nat) : Int) - 1), ()) = _
        rw [w2, show ((u' + 1 : Nat) : Int) - 1 = (u' : Int) by omega]
      · show (wr .i64 (((u' + 1 : Nat) : Int) - 1)).toNat < (((u' + 1 : Nat) : Int)).toNat
        rw [w2]; omega
    · have hd : lineM (gM L i) (gM L (u' + 1)) = (L.take (u' + 2)).drop i := by simpa using hd
      rw [bkJ, if_pos hd] at hub
      rw [← hub] at hnext hμ
      exact Round.at huat.idx (Round.bind (e102 cur Q most (gM L (u' + 1)) true (by omega)) (Round.inl _ ⟨hnext, hμ⟩))
  · have hc : ¬ (i : Int) < (L.length : Int) - 1 := by simpa using hc
    rw [goF_last _ _ _ _ (by omega), List.append_nil] at hq
    rw [← hq, hcur (by omega)]
    exact Round.done (Evt.some _)
/- slices.Clone[[]impl.Stop,impl.Stop] -/
theorem e104 (l : List Stp) (hl : (l.length : Int) ≤ 1000000) : Evt (fun n => call T C n 104 (l, ())) ((l, ()), ()) := by
  refine Evt.next (Evt.ite (fun _ => Evt.chk (by simp; omega) (Evt.some _)) (fun h => ?_)) (fun n => r104 n l)
  have h : l = [] := by
    have h : ¬ l.length ≠ 0 := by simpa using h
    exact List.eq_nil_of_length_eq_zero (by omega)
  subst h
  exact Evt.both (Evt.some _) (Evt.chk rfl (Evt.some _))
/- impl.PlanStops -/
theorem e53 (K : List Stk) (hr : RngT K) (most : Int) : Evt (fun n => call T C n 53 (K, most, ())) (psR K most, ()) := by
  refine Evt.next (Evt.bind (e100 K hr) (Evt.bind (e45 _ _ _) (Evt.bind (e65 _ _) (Evt.bind (e64 _ (by simp)) ?_)))) (fun n => r53 n K most)
  by_cases h : skCode K = 0
  · rw [h]
    cases hm : inR most 1 63 with
    | false =>
      have : psR K most = ([], 2, ()) := by unfold psR; rw [if_neg (by omega), if_pos hm]
      rw [this]
      exact Evt.yes rfl (Evt.some _)
    | true =>
      have hb := inR_iff.1 hm
      have : psR K most = if ((plP most.toNat K).length : Int) > 360 then ([], 4, ()) else (plP most.toNat K, 0, ()) := by unfold psR; rw [if_neg (by omega), if_neg (by rw [hm]; simp)]
      rw [this]
      have G := goodT hr h
      have hkl := G.len
      have hst : ∀ i : Nat, OnP (plF most.toNat (K.take i)).1 ∧ (plF most.toNat (K.take i)).2.length ≤ 4000 * 20 := fun i => by
        obtain ⟨a, b⟩ := plF_on (most := most.toNat) (K := K.take i) (fun s hs => G.el s (List.mem_of_mem_take hs))
        rw [List.length_take] at b
        exact ⟨a, by omega⟩
      refine Evt.no (by decide) ?_
      refine for_evt' 0 (K.length : Int) (fun i (_ : Unit) => ((most, (plF most.toNat (K.take i.toNat)).1, (plF most.toNat (K.take i.toNat)).2, ()), K, (K.length : Int), i, ())) (fun _ _ => True) (b0 := ()) rfl (by omega) trivial ?_ ?_
      · intro i _ h2 h3 _
        obtain ⟨s, hs⟩ := at_of h2 h3
        obtain ⟨gl, gm⟩ := G.el s hs.mem
        obtain ⟨hon, hln⟩ := hst i.toNat
        obtain ⟨st, hste⟩ := (⟨_, rfl⟩ : ∃ st, st = plF most.toNat (K.take i.toNat))
        rw [← hste] at hon hln ⊢
        have h0 := gM_idx (L := s) (i := 0) (Int.le_refl _) (by omega)
        have o0' : OnP (gM s 0) := gm _ h0.mem
        have g1 := goL_len most.toNat false st.1 (gM s 0)
        have hnext : plF most.toNat (K.take (i + 1).toNat) = stF most.toNat st s := by rw [hs.take, hste]; unfold plF; rw [List.foldl_append]; rfl
        refine Round.yes (decide_eq_true h3) (Round.at hs.idx (Round.at h0.idx (Round.bind (e101 st.2 hon o0' hb.1 hb.2 (by omega)) (Round.at h0.idx (Round.bind (e102 (gM s 0) (st.2 ++ goL most.toNat false st.1 (gM s 0)) most (gM s 0) true (by rw [List.length_append]; omega)) (Round.chk (decide_eq_true (by omega)) ?_))))))
        obtain ⟨st1, hst1⟩ := (⟨_, rfl⟩ : ∃ st1 : Mk × List Stp, st1 = (gM s 0, st.2 ++ goL most.toNat false st.1 (gM s 0) ++ [(gM s 0, true, ())]))
        have hst1l : st1.2.length ≤ 80100 := by rw [hst1]; simp only [List.length_append, List.length_singleton]; omega
        have htl : (s.take (Int.toNat (s.length : Int))).drop (Int.toNat 1) = s.drop 1 := by rw [take_all]; rfl
        obtain ⟨t, ht⟩ := (⟨_, rfl⟩ : ∃ t, t = s.drop 1)
        have htlen : t.length = s.length - 1 := by rw [ht, List.length_drop]
        have htm : ∀ m ∈ t, OnP m := fun m hm => gm m (List.mem_of_mem_drop (by rw [← ht]; exact hm))
        simp only [htl]
        rw [← ht]
        refine for_round' 0 (t.length : Int) (fun j (_ : Unit) => ((most, ((t.take j.toNat).foldl (drF most.toNat) st1).1, ((t.take j.toNat).foldl (drF most.toNat) st1).2, ()), K, (K.length : Int), i, t, (t.length : Int), j, ())) (fun _ _ => True) (b0 := ()) ?_ (by omega) trivial ?_ ?_
        · rw [hst1]
          rfl
        · intro j _ j2 j3 _
          obtain ⟨m, hm⟩ := at_of (l := t) j2 j3
          obtain ⟨a, b⟩ := drF_on (most := most.toNat) (l := t.take j.toNat) (fun x hx => htm x (List.mem_of_mem_take hx)) (st := st1) (by rw [hst1]; exact o0')
          rw [List.length_take] at b
          refine Round.yes (decide_eq_true j3) (Round.at hm.idx (Round.bind (e103 ((t.take j.toNat).foldl (drF most.toNat) st1).2 a (htm m hm.mem) hb.1 hb.2 (by omega)) (Round.inr _ ⟨(), ?_, trivial⟩)))
          rw [hm.take, List.foldl_append]
          show ((most, m, _ ++ goL most.toNat true _ m, ()), K, (K.length : Int), i, t, (t.length : Int), wr .i64 (j + 1), ()) = _
          rw [wrap_id (x := j + 1) (by omega) (by omega)]
          rfl
        · intro _ _
          rw [take_all]
          refine Round.no (by simp) (Round.inl _ ⟨(), ?_, trivial⟩)
          show ((most, (t.foldl (drF most.toNat) st1).1, (t.foldl (drF most.toNat) st1).2, ()), K, (K.length : Int), wr .i64 (i + 1), ()) = _
          rw [hnext, wr_succ h2 h3 (by omega), hst1, ht]
          rfl
      · intro _ _
        obtain ⟨hon, hln⟩ := hst (K.length : Int).toNat
        rw [take_all] at hon hln ⊢
        have g2 := goL_len most.toNat false (plF most.toNat K).1 o0
        refine Round.no (by simp) (Round.done (Evt.bind (e101 (plF most.toNat K).2 hon o0_on hb.1 hb.2 (by omega)) ?_))
        show Evt (fun n => if decide (((plP most.toNat K).length : Int) > 360) = true then _ else (call T C n 104 (plP most.toNat K, ())).bind _) _
        refine Evt.ite (fun h => ?_) (fun h => ?_)
        · rw [if_pos (of_decide_eq_true h)]; exact Evt.some _
        · have h : ¬ ((plP most.toNat K).length : Int) > 360 := by simpa using h
          rw [if_neg h]
          exact Evt.bind (e104 _ (by omega)) (Evt.some _)
  · have : psR K most = ([], skCode K, ()) := by unfold psR; rw [if_pos h]
    rw [this]
    have hf : fst0 [skCode K, if (!inR most 1 63) = true then 2 else 0] = skCode K := by simp [fst0, h]
    rw [hf]
    exact Evt.yes (by simpa using h) (Evt.some _)
/- impl.isPlace -/
theorem e105 (a b : Int) : Evt (fun n => call T C n 105 (a, b, ())) ((inR a 0 (wr .i64 (b - 1)), ()), ()) := Evt.next (Evt.bind (e45 _ _ _) (Evt.some _)) (fun n => r105 n a b)
/- impl.machineFor -/
theorem e54 (l : List Stp) (he : ∀ v ∈ l, v.1.length = 2) {m : Int} (h0 : 0 ≤ m) (h1 : m ≤ 1000) (hl : (l.length : Int) ≤ 1000) : Evt (fun n => call T C n 54 (l, m, ())) ((mfR l m.toNat, ()), ()) := by
  refine Evt.next ?_ (fun n => r54 n l m)
  refine for_evt' 0 m (fun i (_ : Unit) => (l, (([], [], [], ()) : Mch), mfR l i.toNat, m, i, ())) (fun _ _ => True) (b0 := ()) rfl h0 trivial ?_ ?_
  · intro i _ h2 h3 _
    have l1 : ((mfR l i.toNat).1.length : Int) ≤ 1000 := by simp [mfR]; omega
    have l2 : ((mfR l i.toNat).2.1.length : Int) ≤ 1000 := by simp [mfR]; omega
    have l3 : ((mfR l i.toNat).2.2.1.length : Int) ≤ 1000 := by simp [mfR]; omega
    have e : mfR l (i + 1).toNat = ((mfR l i.toNat).1 ++ [g (gS l i.toNat).1 0], (mfR l i.toNat).2.1 ++ [g (gS l i.toNat).1 1], (mfR l i.toNat).2.2.1 ++ [pen (gS l i.toNat)], ()) := by rw [show (i + 1).toNat = i.toNat + 1 by omega, mfR_succ]
    refine Round.yes (decide_eq_true h3) ?_
    have two : ∀ v : Mk, v.length = 2 → v[(Int.toNat 0)]? = some (g v 0) ∧ v[(Int.toNat 1)]? = some (g v 1) := fun v hv => ⟨(g_idx (l := v) (i := 0) (by omega) (by omega)).get, (g_idx (l := v) (i := 1) (by omega) (by omega)).get⟩
    refine Round.bind (e105 i (l.length : Int)) ?_
    have wl : wr .i64 ((l.length : Int) - 1) = (l.length : Int) - 1 := wrap_id (by omega) (by omega)
    rw [wl]
    refine Round.ite (fun hc => ?_) (fun hc => ?_)
    rotate_left
    all_goals (first | (have hc : i < (l.length : Int) := by have := inR_iff.1 hc; omega) | (have hc : ¬ i < (l.length : Int) := fun h => hc (inR_iff.2 ⟨h2, by omega⟩)))
    rotate_left
    · have hv := gS_idx (l := l) h2 hc
      obtain ⟨t0, t1⟩ := two (gS l i.toNat).1 (he _ hv.mem)
      refine Round.at hv.idx (Round.ite (fun hd => ?_) (fun hd => ?_))
      · have hp : pen (gS l i.toNat) = 0 := by unfold pen; exact if_pos hd
        refine Round.chk rfl (Round.at t0 (Round.chk (decide_eq_true (by simp; omega)) (Round.chk rfl (Round.at t1 (Round.chk (decide_eq_true (by simp; omega)) (Round.chk (decide_eq_true (by simp; omega)) (Round.again _ ⟨(), ?_, trivial⟩)))))))
        rw [wr_succ h2 h3 (by omega), e, hp]
      · have hp : pen (gS l i.toNat) = 1 := by unfold pen; exact if_neg hd
        refine Round.chk rfl (Round.at t0 (Round.chk (decide_eq_true (by simp; omega)) (Round.chk rfl (Round.at t1 (Round.chk (decide_eq_true (by simp; omega)) (Round.chk (decide_eq_true (by simp; omega)) (Round.again _ ⟨(), ?_, trivial⟩)))))))
        rw [wr_succ h2 h3 (by omega), e, hp]
    · have hg := gS_out (l := l) (i := i.toNat) (by omega)
      refine Round.chk rfl (Round.at (v := (0 : Int)) rfl (Round.chk (decide_eq_true (by simp; omega)) (Round.chk rfl (Round.at (v := (0 : Int)) rfl (Round.chk (decide_eq_true (by simp; omega)) (Round.chk (decide_eq_true (by simp; omega)) (Round.again _ ⟨(), ?_, trivial⟩)))))))
      rw [wr_succ h2 h3 (by omega), e, hg]
      rfl
  · intro _ _
    exact Round.no (by simp) (Round.done (Evt.some _))
/- impl.CompileStrokes -/
theorem e18 (K : List Stk) (hr : RngT K) (most : Int) : Evt (fun n => call T C n 18 (K, most, ())) (csR K most, ()) := by
  have hl := psR_len K most
  refine Evt.next (Evt.bind (e53 K hr most) (Evt.ite (fun h => ?_) (fun h => ?_))) (fun n => r18 n K most)
  · have h : (psR K most).2.1 ≠ 0 := by simpa using h
    have : csR K most = (([], [], [], ()), (psR K most).2.1, ()) := by unfold csR; rw [if_pos h]
    rw [this]; exact Evt.some _
  · have h : (psR K most).2.1 = 0 := by simpa using h
    have : csR K most = (mfR (psR K most).1 (max 8 (psR K most).1.length), 0, ()) := by unfold csR; rw [if_neg (by omega)]
    rw [this]
    have hm : (if ((psR K most).1.length : Int) > 8 then ((psR K most).1.length : Int) else 8) = max 8 ((psR K most).1.length : Int) := by split <;> omega
    show Evt (fun n => (call T C n 54 ((psR K most).1, (if ((psR K most).1.length : Int) > 8 then ((psR K most).1.length : Int) else 8), ())).bind _) _
    rw [hm]
    refine Evt.bind (e54 (psR K most).1 (psR_el hr most) (m := max 8 ((psR K most).1.length : Int)) (by omega) (by omega) (by omega)) ?_
    rw [show (max 8 ((psR K most).1.length : Int)).toNat = max 8 (psR K most).1.length by omega]
    exact Evt.some _
/- spec.l07Mark -/
theorem e107 (m : Mk) (h : m.length = 2) : Evt (fun n => call T C n 107 (m, ())) ((okMk m, ()), ()) := by
  have h0 := (g_idx (l := m) (i := 0) (by omega) (by omega)).get
  have h1 := (g_idx (l := m) (i := 1) (by omega) (by omega)).get
  refine Evt.next (Evt.chk rfl (Evt.at h0 (Evt.bind (e76 _ _ _) ?_))) (fun n => r107 n m)
  unfold okMk
  refine Evt.ite (fun hc => ?_) (fun hc => ?_)
  · have hc : inR (wr .i64 (g m 0)) 0 63 = true := hc
    rw [hc]
    exact Evt.chk rfl (Evt.at h1 (Evt.bind (e76 _ _ _) (Evt.some _)))
  · have hc : inR (wr .i64 (g m 0)) 0 63 = false := by
      have : ¬ inR (wr .i64 (g m 0)) 0 63 = true := hc
      simpa using this
    rw [hc]
    exact Evt.some _
/- spec.l07Strokes -/
theorem e57 (K : List Stk) (hr : RngT K) : Evt (fun n => call T C n 57 (K, ())) ((skCode K, ()), ()) := by
  have hkl := hr.len'
  refine Evt.next ?_ (fun n => r57 n K)
  refine for_evt' 0 (K.length : Int) (fun i (_ : Unit) => (K, i, ())) (fun i _ => ∀ s ∈ K.take i.toNat, okSk s = true) (b0 := ()) rfl (by omega) (fun s hs => by simp at hs) ?_ ?_
  · intro i _ h2 h3 hp
    obtain ⟨s, hs⟩ := at_of h2 h3
    have hrs := hr.el s hs.mem
    have bad : okSk s = false → skCode K = 1 := fun h => by unfold skCode; rw [all_false hs.mem h]; rfl
    refine Round.yes (decide_eq_true h3) (Round.at hs.idx (Round.bind (e76 _ _ _) ?_))
    cases h1 : inR (s.length : Int) 1 60 with
    | false =>
      rw [bad (by unfold okSk; rw [h1]; rfl)]
      exact Round.yes rfl (Round.done (Evt.some _))
    | true =>
      refine Round.no (by simp) ?_
      refine for_round' 0 (s.length : Int) (fun j (_ : Unit) => (K, i, j, ())) (fun j _ => ∀ m ∈ s.take j.toNat, okMk m = true) (b0 := ()) rfl (by omega) (fun m hm => by simp at hm) ?_ ?_
      · intro j _ j2 j3 hq
        obtain ⟨m, hm⟩ := at_of j2 j3
        refine Round.at hs.idx (Round.yes (decide_eq_true j3) (Round.at hs.idx (Round.at hm.idx (Round.bind (e107 m (hrs.2 m hm.mem).1) (Round.ite (fun h => ?_) (fun h => ?_))))))
        · have h : okMk m = false := by simpa using h
          rw [bad (by unfold okSk; rw [all_false hm.mem h]; simp)]
          exact Round.done (Evt.some _)
        · have h : okMk m = true := by simpa using h
          refine Round.inr _ ⟨(), ?_, fun u hu => ?_⟩
          · show (K, i, wr .i64 (j + 1), ()) = _
            rw [wr_succ j2 j3 (by omega)]
          · rw [hm.take] at hu
            rcases List.mem_append.1 hu with hu | hu
            · exact hq u hu
            · have : u = m := by simpa using hu
              rw [this]; exact h
      · intro _ hq
        rw [take_all] at hq
        refine Round.at hs.idx (Round.no (by simp) (Round.inl _ ⟨(), ?_, fun u hu => ?_⟩))
        · show (K, wr .i64 (i + 1), ()) = _
          rw [wr_succ h2 h3 (by omega)]
        · rw [hs.take] at hu
          rcases List.mem_append.1 hu with hu | hu
          · exact hp u hu
          · have : u = s := by simpa using hu
            rw [this]
            unfold okSk
            rw [h1, List.all_eq_true.2 hq]; rfl
  · intro _ hp
    rw [take_all] at hp
    have : K.all okSk = true := List.all_eq_true.2 hp
    have hsk : skCode K = if (K.length : Int) > 20 then 3 else 0 := by unfold skCode; rw [this]; rfl
    rw [hsk]
    refine Round.no (by simp) (Round.ite (fun h => ?_) (fun h => ?_))
    · rw [if_pos (of_decide_eq_true h)]; exact Round.done (Evt.some _)
    · rw [if_neg (by simpa using h)]; exact Round.done (Evt.some _)
/- spec.l01Size -/
theorem e151 {a : Int} (h1 : -1000000000000 ≤ a) (h2 : a ≤ 1000000000000) : Evt (fun n => call T C n 151 (a, ())) ((siz a, ()), ()) := by
  refine Evt.next ?_ (fun n => r151 n a)
  unfold siz
  rw [wrap_id (x := 0 - a) (by omega) (by omega)]
  refine Evt.ite (fun h => ?_) (fun h => ?_)
  · rw [if_pos (of_decide_eq_true h), Int.zero_sub]; exact Evt.some _
  · rw [if_neg (by simpa using h)]; exact Evt.some _
/- spec.l07Far -/
theorem e139 {a b : Mk} (ha : OnP a) (hb : OnP b) : Evt (fun n => call T C n 139 (a, b, ())) ((far a b, ()), ()) := by
  have hx := ha.x; have hy := ha.y; have kx := hb.x; have ky := hb.y
  refine Evt.next ?_ (fun n => r139 n a b)
  refine Evt.chk rfl (Evt.at ha.get0 (Evt.chk rfl (Evt.at hb.get0 ?_)))
  rw [wrap_id (x := g a 0) (by omega) (by omega), wrap_id (x := g b 0) (by omega) (by omega), wrap_id (by omega) (by omega)]
  refine Evt.bind (e151 (by omega) (by omega)) (Evt.chk rfl (Evt.at ha.get1 (Evt.chk rfl (Evt.at hb.get1 ?_))))
  rw [wrap_id (x := g a 1) (by omega) (by omega), wrap_id (x := g b 1) (by omega) (by omega), wrap_id (by omega) (by omega)]
  exact Evt.bind (e151 (by omega) (by omega)) (Evt.bind (e38 _ _) (Evt.some _))
/- spec.l07Line -/
theorem e108 {a b : Mk} (ha : OnP a) (hb : OnP b) : Evt (fun n => call T C n 108 (a, b, ())) ((lineM a b, ()), ()) := by
  obtain ⟨f0, f1, f2⟩ := far_bd ha hb
  refine Evt.next (Evt.bind (e139 ha hb) (Evt.ite (fun h => ?_) (fun h => ?_))) (fun n => r108 n a b)
  · have h : far a b = 0 := by simpa using h
    unfold lineM; rw [if_pos h]; exact Evt.some _
  have h : far a b ≠ 0 := by simpa using h
  have e : lineM a b = (List.range (far a b + 1).toNat).map fun k => ptM a b (k : Nat) := by unfold lineM; rw [if_neg h]
  rw [e]
  refine for_evt' 0 (far a b + 1) (fun i (_ : Unit) => (a, b, far a b, (List.range i.toNat).map (fun k => ptM a b (k : Nat)), i, ())) (fun _ _ => True) (b0 := ()) rfl (by omega) trivial ?_ ?_
  · intro i _ h2 h3 _
    refine Round.yes (decide_eq_true (show i ≤ far a b by omega)) ?_
    refine for_round' 0 2 (fun j (m : List Int) => (a, b, far a b, (List.range i.toNat).map (fun k => ptM a b (k : Nat)), i, m, j, ())) (fun j m => m = ((List.range j.toNat).map (fun u => pt a b i u)) ++ List.replicate (2 - j.toNat) 0) (b0 := List.replicate 2 0) rfl (by omega) (by simp) ?_ ?_
    · intro j m j0 j1 hm
      have hj : j = 0 ∨ j = 1 := by omega
      have hga := g_idx (l := a) j0 (by have := ha.len; omega)
      have hgb := g_idx (l := b) j0 (by have := hb.len; omega)
      have hu : j.toNat = 0 ∨ j.toNat = 1 := by omega
      have ba : 0 ≤ g a j.toNat ∧ g a j.toNat ≤ 63 := by rcases hu with e | e <;> rw [e]; exact ha.x; exact ha.y
      have bb : 0 ≤ g b j.toNat ∧ g b j.toNat ≤ 63 := by rcases hu with e | e <;> rw [e]; exact hb.x; exact hb.y
      have hk := kd_bd ha hb h2 (by omega) hu
      have hp := pt_bd ha hb h h2 (by omega) hu
      have hm2 : m.length = 2 := by rw [hm]; simp; omega
      have hgm := g_idx (l := m) j0 (by omega)
      show Round (fun n ag => if decide (j < 2) = true then _ else _) _ _
      simp only [wrap_id (x := g a j.toNat) (by omega) (by omega), wrap_id (x := g b j.toNat) (by omega) (by omega), wrap_id (x := j + 1) (by omega) (by omega)]
      refine Round.yes (decide_eq_true j1) (Round.chk (decide_eq_true (by omega)) (Round.at hga.get (Round.chk (decide_eq_true (by omega)) (Round.at hgb.get (Round.chk (decide_eq_true (by omega)) (Round.at hga.get ?_))))))
      simp only [wrap_id (x := g a j.toNat) (by omega) (by omega), wrap_id (x := g b j.toNat) (by omega) (by omega), wrap_id (x := g b j.toNat - g a j.toNat) (by omega) (by omega), wrap_id (x := i * (g b j.toNat - g a j.toNat)) (by omega) (by omega)]
      refine Round.bind (e122 (by omega) (by omega) (by omega) (by omega)) (Round.chk (decide_eq_true (by omega)) (Round.at hgm.get (Round.inr _ ⟨_, rfl, ?_⟩)))
      have hpt : g a j.toNat + nr (i * (g b j.toNat - g a j.toNat)) (far a b) = pt a b i j.toNat := rfl
      show m.set j.toNat (wr .i16 (wr .i64 (g a j.toNat + nr (i * (g b j.toNat - g a j.toNat)) (far a b)))) = _
      rw [hpt, wrap_id (by omega) (by omega), wrap16 (by omega) (by omega), hm]
      rcases hj with rfl | rfl
      · rfl
      · rfl
    · intro m hm
      have hm : m = ptM a b i := hm
      refine Round.no (by simp) (Round.chk (decide_eq_true (by simp; omega)) (Round.inl _ ⟨(), ?_, trivial⟩))
      rw [hm, wrap_id (x := i + 1) (by omega) (by omega), show (i + 1).toNat = i.toNat + 1 by omega, List.range_succ, List.map_append]
      simp [show ((i.toNat : Nat) : Int) = i by omega]
  · intro _ _
    exact Round.no (by simp; omega) (Round.done (Evt.some _))
/- spec.l07Marks -/
theorem e150 (a b : Stk) (hl : (a.length : Int) ≤ 140737488351232) : Evt (fun n => call T C n 150 (a, b, ())) ((decide (a = b), ()), ()) := by
  refine Evt.next ?_ (fun n => r150 n a b)
  refine Evt.ite (fun h => ?_) (fun h => ?_)
  · have h : (a.length : Int) ≠ b.length := by simpa using h
    rw [decide_eq_false (fun e => h (by rw [e]))]; exact Evt.some _
  have h : a.length = b.length := by
    have h : (a.length : Int) = b.length := by simpa using h
    omega
  refine for_evt' 0 (a.length : Int) (fun i (_ : Unit) => (a, b, i, ())) (fun i _ => a.take i.toNat = b.take i.toNat) (b0 := ()) rfl (by omega) (by simp) ?_ ?_
  · intro i _ h2 h3 hp
    obtain ⟨u, hu⟩ := at_of h2 h3
    obtain ⟨v, hv⟩ := at_of (l := b) h2 (by omega)
    refine Round.yes (decide_eq_true h3) (Round.at hu.idx (Round.at hv.idx (Round.ite (fun hc => ?_) (fun hc => ?_))))
    · have hc : u ≠ v := by simpa using hc
      have : a ≠ b := fun e => by
        subst e
        have := hu.get
        rw [hv.get] at this
        exact hc (Option.some.inj this).symm
      rw [decide_eq_false this]
      exact Round.done (Evt.some _)
    · have hc : u = v := by simpa using hc
      refine Round.again _ ⟨(), ?_, by rw [hu.take, hv.take, hp, hc]⟩
      rw [wr_succ h2 h3 (by omega)]
  · intro _ hp
    rw [take_all, h, take_all] at hp
    rw [decide_eq_true hp]
    exact Round.no (by simp) (Round.done (Evt.some _))
/- (*spec.l07Plan).stop -/
theorem e138 (a : Mk) (S : List Stp) (most : Int) (m : Mk) (d : Bool) (hl : S.length ≤ 10000000) : Evt (fun n => call T C n 138 ((a, S, most, ()), m, d, ())) ((), ((m, S ++ [(m, d, ())], most, ()), ())) := Evt.next (Evt.chk (decide_eq_true (by simp; omega)) (Evt.some _)) (fun n => r138 n _ m d)
/- (*spec.l07Plan).goTo -/
theorem e137 {a b : Mk} (S : List Stp) {most : Int} (down : Bool) (ha : OnP a) (hb : OnP b) (m0 : 1 ≤ most) (m1 : most ≤ 63) (hS : S.length ≤ 1000000) : Evt (fun n => call T C n 137 ((a, S, most, ()), b, down, ())) ((), ((b, S ++ goL most.toNat down a b, most, ()), ())) := by
  have hlen := lineM_length ha hb
  obtain ⟨f0, f1, _⟩ := far_bd ha hb
  have hon := lineM_on ha hb
  refine Evt.next (Evt.bind (e108 ha hb) ?_) (fun n => r137 n (a, S, most, ()) b down)
  obtain ⟨L, hL⟩ := (⟨_, rfl⟩ : ∃ L, L = lineM a b)
  rw [← hL] at hlen hon
  have wn : wr .i64 ((L.length : Int) - 1) = (L.length : Int) - 1 := wrap_id (by omega) (by omega)
  show Evt (fun n => loopK _ n ((a, S, most, ()), down, lineM a b, wr .i64 (((lineM a b).length : Int) - 1), 0, ())) _
  rw [← hL, wn]
  have tot : goL most.toNat down a b = goF most.toNat down L 64 0 := by unfold goL; rw [← hL]
  rw [tot]
  refine loop_evt (fun x => ∃ (i f : Nat) (Q : List Stp) (cur : Mk), x = ((cur, Q, most, ()), down, L, (L.length : Int) - 1, (i : Int), ()) ∧ i ≤ L.length - 1 ∧ L.length - 1 - i ≤ f ∧ Q ++ goF most.toNat down L f i = S ++ goF most.toNat down L 64 0 ∧ Q.length ≤ S.length + i ∧ (i = L.length - 1 → cur = b)) (fun x => (((L.length : Int) - 1) - x.2.2.2.2.1).toNat) ⟨0, 64, S, a, rfl, by omega, by omega, rfl, by omega, fun h => ?_⟩ ?_
  · exact far_zero ha hb (by omega)
  rintro x ⟨i, f, Q, cur, rfl, hi, hf, hq, hql, hcur⟩
  show Round (fun n ag => if decide ((i : Int) < (L.length : Int) - 1) = true then _ else _) _ _
  refine Round.ite (fun hc => ?_) (fun hc => ?_)
  · have hc : (i : Int) < (L.length : Int) - 1 := of_decide_eq_true hc
    obtain ⟨f, rfl⟩ : ∃ f', f = f' + 1 := ⟨f - 1, by omega⟩
    have hj := toJ_bd (most := most.toNat) (by omega) down ha hb (i := i) (by rw [← hL]; omega)
    rw [← hL] at hj
    obtain ⟨j, hje⟩ := (⟨_, rfl⟩ : ∃ j, j = toJ most.toNat down L i)
    rw [← hje] at hj
    rw [goF, if_pos (by omega), ← hje] at hq
    have hjat := gM_idx (L := L) (i := (j : Int)) (by omega) (by omega)
    rw [Int.toNat_natCast] at hjat
    have him : wr .i64 ((i : Int) + most) = (i : Int) + most := wrap_id (by omega) (by omega)
    refine Round.bind (v := ((min ((i : Int) + most) ((L.length : Int) - 1), ()), ())) (by
      show Evt (fun n => call T C n 129 (wr .i64 ((i : Int) + most), (L.length : Int) - 1, ())) _
      rw [him]; exact e129 _ _) ?_
    have hnext : ∃ (i' f' : Nat) (Q' : List Stp) (cur' : Mk), (((gM L j, Q ++ [(gM L j, down, ())], most, ()), down, L, (L.length : Int) - 1, (j : Int), ()) : (Mk × (List Stp × (Int × Unit))) × Bool × Stk × Int × Int × Unit) = ((cur', Q', most, ()), down, L, (L.length : Int) - 1, (i' : Int), ()) ∧ i' ≤ L.length - 1 ∧ L.length - 1 - i' ≤ f' ∧ Q' ++ goF most.toNat down L f' i' = S ++ goF most.toNat down L 64 0 ∧ Q'.length ≤ S.length + i' ∧ (i' = L.length - 1 → cur' = b) := ⟨j, f, Q ++ [(gM L j, down, ())], gM L j, rfl, hj.2, by omega, by rw [List.append_assoc]; exact hq, by rw [List.length_append, List.length_singleton]; omega, fun e => by rw [e, hL]; exact line_last ha hb⟩
    have hμ : (((L.length : Int) - 1) - (j : Int)).toNat < (((L.length : Int) - 1) - (i : Int)).toNat := by omega
    cases down with
    | false =>
      have hjv : (j : Int) = min ((i : Int) + most) ((L.length : Int) - 1) := by rw [hje]; unfold toJ; rw [if_neg (by simp)]; omega
      refine loop_round (fun y => y = ((cur, Q, most, ()), false, L, (L.length : Int) - 1, (i : Int), (j : Int), ())) (fun _ => 0) (by rw [hjv]) ?_
      rintro y rfl
      exact Round.no (by simp) (Round.at hjat.idx (Round.bind (e138 cur Q most (gM L j) false (by omega)) (Round.inl _ ⟨hnext, hμ⟩)))
    | true =>
      have hjv : j = bkJ L i (min (i + most.toNat) (L.length - 1)) := by rw [hje]; unfold toJ; rw [if_pos rfl]
      refine loop_round (fun y => ∃ u : Nat, i < u ∧ u ≤ L.length - 1 ∧ bkJ L i u = j ∧ y = ((cur, Q, most, ()), true, L, (L.length : Int) - 1, (i : Int), (u : Int), ())) (fun y => y.2.2.2.2.2.1.toNat) ⟨min (i + most.toNat) (L.length - 1), by omega, by omega, hjv.symm, by
        show _ = ((cur, Q, most, ()), true, L, (L.length : Int) - 1, (i : Int), ((min (i + most.toNat) (L.length - 1) : Nat) : Int), ())
        rw [show ((min (i + most.toNat) (L.length - 1) : Nat) : Int) = min ((i : Int) + most) ((L.length : Int) - 1) by omega]⟩ ?_
      rintro y ⟨u, hu0, hu1, hub, rfl⟩
      have hiat := gM_idx (L := L) (i := (i : Int)) (by omega) (by omega)
      have huat := gM_idx (L := L) (i := (u : Int)) (by omega) (by omega)
      rw [Int.toNat_natCast] at hiat huat
      have w1 : wr .i64 ((u : Int) + 1) = (u : Int) + 1 := wrap_id (by omega) (by omega)
      have w2 : wr .i64 ((u : Int) - 1) = (u : Int) - 1 := wrap_id (by omega) (by omega)
      obtain ⟨u', rfl⟩ : ∃ u', u = u' + 1 := ⟨u - 1, by omega⟩
      have hll := lineM_len (hon _ hiat.mem) (hon _ huat.mem)
      refine Round.yes rfl (Round.at hiat.idx (Round.at huat.idx (Round.bind (e108 (hon _ hiat.mem) (hon _ huat.mem)) ?_)))
      show Round (fun n ag => chk (decide (0 ≤ (i : Int) ∧ (i : Int) ≤ wr .i64 (((u' + 1 : Nat) : Int) + 1) ∧ wr .i64 (((u' + 1 : Nat) : Int) + 1) ≤ (L.length : Int))) ((call T C n 150 (lineM (gM L i) (gM L (u' + 1)), ((L.take (Int.toNat (wr .i64 (((u' + 1 : Nat) : Int) + 1)))).drop (Int.toNat (i : Int))), ())).bind _)) _ _
      rw [w1]
      refine Round.chk (decide_eq_true (by omega)) ?_
      rw [show (((u' + 1 : Nat) : Int) + 1).toNat = u' + 2 by omega, Int.toNat_natCast]
      refine Round.bind (e150 _ _ (by omega)) (Round.ite (fun hd => ?_) (fun hd => ?_))
      · have hd : ¬ lineM (gM L i) (gM L (u' + 1)) = (L.take (u' + 2)).drop i := by simpa using hd
        rw [bkJ, if_neg hd] at hub
        refine Round.inr _ ⟨⟨u', ?_, by omega, hub, ?_⟩, ?_⟩
        · by_cases e : i = u'
          · subst e
            have h1 : (i : Int) < far a b := by omega
            have h2 := line_step ha hb h1
            rw [← hL] at h2
            exact absurd (by rw [h2, seg_two (by omega)]) hd
          · omega
        · show ((cur, Q, most, ()), true, L, (L.length : Int) - 1, (i : Int), wr .i64 (((u' + 1 : Nat) : Int) - 1), ()) = _
          rw [w2, show ((u' + 1 : Nat) : Int) - 1 = (u' : Int) by omega]
        · show (wr .i64 (((u' + 1 : Nat) : Int) - 1)).toNat < (((u' + 1 : Nat) : Int)).toNat
          rw [w2]; omega
      · have hd : lineM (gM L i) (gM L (u' + 1)) = (L.take (u' + 2)).drop i := by simpa using hd
        rw [bkJ, if_pos hd] at hub
        rw [← hub] at hnext hμ
        exact Round.at huat.idx (Round.bind (e138 cur Q most (gM L (u' + 1)) true (by omega)) (Round.inl _ ⟨hnext, hμ⟩))
  · have hc : ¬ (i : Int) < (L.length : Int) - 1 := by simpa using hc
    rw [goF_last _ _ _ _ (by omega), List.append_nil] at hq
    rw [← hq, hcur (by omega)]
    exact Round.done (Evt.some _)
/- spec.l07Planned -/
theorem e106 (K : List Stk) {most : Int} (G : GoodT K) (m0 : 1 ≤ most) (m1 : most ≤ 63) : Evt (fun n => call T C n 106 (K, most, ())) ((plP most.toNat K, ()), ()) := by
  have hkl := G.len
  refine Evt.next ?_ (fun n => r106 n K most)
  have hst : ∀ i : Nat, OnP (plF most.toNat (K.take i)).1 ∧ (plF most.toNat (K.take i)).2.length ≤ 4000 * 20 := fun i => by
    obtain ⟨a, b⟩ := plF_on (most := most.toNat) (K := K.take i) (fun s hs => G.el s (List.mem_of_mem_take hs))
    rw [List.length_take] at b
    exact ⟨a, by omega⟩
  refine for_evt' 0 (K.length : Int) (fun i (_ : Unit) => (K, ((plF most.toNat (K.take i.toNat)).1, (plF most.toNat (K.take i.toNat)).2, most, ()), i, ())) (fun _ _ => True) (b0 := ()) rfl (by omega) trivial ?_ ?_
  · intro i _ h2 h3 _
    obtain ⟨s, hs⟩ := at_of h2 h3
    obtain ⟨gl, gm⟩ := G.el s hs.mem
    obtain ⟨hon, hln⟩ := hst i.toNat
    obtain ⟨st, hste⟩ := (⟨_, rfl⟩ : ∃ st, st = plF most.toNat (K.take i.toNat))
    rw [← hste] at hon hln ⊢
    have h0 := gM_idx (L := s) (i := 0) (Int.le_refl _) (by omega)
    have o0' : OnP (gM s 0) := gm _ h0.mem
    have g1 := goL_len most.toNat false st.1 (gM s 0)
    have hnext : plF most.toNat (K.take (i + 1).toNat) = stF most.toNat st s := by rw [hs.take, hste]; unfold plF; rw [List.foldl_append]; rfl
    refine Round.yes (decide_eq_true h3) (Round.at hs.idx (Round.at h0.idx (Round.bind (e137 st.2 false hon o0' m0 m1 (by omega)) (Round.at hs.idx (Round.at h0.idx (Round.bind (e138 (gM s 0) (st.2 ++ goL most.toNat false st.1 (gM s 0)) most (gM s 0) true (by rw [List.length_append]; omega)) ?_))))))
    obtain ⟨st1, hst1⟩ := (⟨_, rfl⟩ : ∃ st1 : Mk × List Stp, st1 = (gM s 0, st.2 ++ goL most.toNat false st.1 (gM s 0) ++ [(gM s 0, true, ())]))
    have hst1l : st1.2.length ≤ 80100 := by rw [hst1]; simp only [List.length_append, List.length_singleton]; omega
    refine for_round' 1 (s.length : Int) (fun j (_ : Unit) => (K, ((((s.take j.toNat).drop 1).foldl (drF most.toNat) st1).1, (((s.take j.toNat).drop 1).foldl (drF most.toNat) st1).2, most, ()), i, j, ())) (fun _ _ => True) (b0 := ()) ?_ (by omega) trivial ?_ ?_
    · have : (s.take (1 : Int).toNat).drop 1 = [] := List.drop_of_length_le (by simp; omega)
      rw [this, hst1]
      rfl
    · intro j _ j2 j3 _
      obtain ⟨m, hm⟩ := at_of (l := s) (show 0 ≤ j by omega) j3
      have hd : (s.take (j + 1).toNat).drop 1 = (s.take j.toNat).drop 1 ++ [m] := by
        rw [hm.take, List.drop_append_of_le_length (by simp; omega)]
      obtain ⟨a, b⟩ := drF_on (most := most.toNat) (l := (s.take j.toNat).drop 1) (fun x hx => gm x (List.mem_of_mem_take (List.mem_of_mem_drop hx))) (st := st1) (by rw [hst1]; exact o0')
      rw [List.length_drop, List.length_take] at b
      refine Round.at hs.idx (Round.yes (decide_eq_true j3) (Round.at hs.idx (Round.at hm.idx (Round.bind (e137 (((s.take j.toNat).drop 1).foldl (drF most.toNat) st1).2 true a (gm m hm.mem) m0 m1 (by omega)) (Round.inr _ ⟨(), ?_, trivial⟩)))))
      rw [hd, List.foldl_append]
      show (K, (m, _ ++ goL most.toNat true _ m, most, ()), i, wr .i64 (j + 1), ()) = _
      rw [wrap_id (x := j + 1) (by omega) (by omega)]
      rfl
    · intro _ _
      rw [take_all]
      refine Round.at hs.idx (Round.no (by simp) (Round.inl _ ⟨(), ?_, trivial⟩))
      show (K, (((s.drop 1).foldl (drF most.toNat) st1).1, ((s.drop 1).foldl (drF most.toNat) st1).2, most, ()), wr .i64 (i + 1), ()) = _
      rw [hnext, wr_succ h2 h3 (by omega), hst1]
      rfl
  · intro _ _
    obtain ⟨hon, hln⟩ := hst (K.length : Int).toNat
    rw [take_all] at hon hln ⊢
    exact Round.no (by simp) (Round.done (Evt.bind (e137 (plF most.toNat K).2 false hon o0_on m0 m1 (by omega)) (Evt.some _)))
/- spec.PlanStops -/
theorem e55 (K : List Stk) (hr : RngT K) (most : Int) : Evt (fun n => call T C n 55 (K, most, ())) (psR K most, ()) := by
  refine Evt.next (Evt.bind (e57 K hr) (Evt.ite (fun h => ?_) (fun h => ?_))) (fun n => r55 n K most)
  · have h : skCode K = 0 := by simpa using h
    refine Evt.bind (e76 _ _ _) (Evt.ite (fun hm => ?_) (fun hm => ?_))
    · have hm : inR most 1 63 = false := by simpa using hm
      have : psR K most = ([], 2, ()) := by unfold psR; rw [if_neg (by omega), if_pos hm]
      rw [this]
      exact Evt.yes rfl (Evt.some _)
    · have hm : inR most 1 63 = true := by simpa using hm
      have hb := inR_iff.1 hm
      have : psR K most = if ((plP most.toNat K).length : Int) > 360 then ([], 4, ()) else (plP most.toNat K, 0, ()) := by unfold psR; rw [if_neg (by omega), if_neg (by rw [hm]; simp)]
      rw [this]
      refine Evt.no (by rw [h]; simp) (Evt.bind (e106 K (goodT hr h) hb.1 hb.2) (Evt.ite (fun h => ?_) (fun h => ?_)))
      · rw [if_pos (of_decide_eq_true h)]; exact Evt.some _
      · rw [if_neg (by simpa using h)]; exact Evt.some _
  · have h : skCode K ≠ 0 := by simpa using h
    have : psR K most = ([], skCode K, ()) := by unfold psR; rw [if_pos h]
    rw [this]
    exact Evt.yes (by simpa using h) (Evt.some _)
/- spec.l07For -/
theorem e56 (l : List Stp) (he : ∀ v ∈ l, v.1.length = 2) {m : Int} (h0 : 0 ≤ m) (h1 : m ≤ 1000) (hl : (l.length : Int) ≤ 1000) : Evt (fun n => call T C n 56 (l, m, ())) ((mfR l m.toNat, ()), ()) := by
  refine Evt.next ?_ (fun n => r56 n l m)
  refine for_evt' 0 m (fun i (_ : Unit) => (l, m, (([], [], [], ()) : Mch), mfR l i.toNat, i, ())) (fun _ _ => True) (b0 := ()) rfl h0 trivial ?_ ?_
  · intro i _ h2 h3 _
    have l1 : ((mfR l i.toNat).1.length : Int) ≤ 1000 := by simp [mfR]; omega
    have l2 : ((mfR l i.toNat).2.1.length : Int) ≤ 1000 := by simp [mfR]; omega
    have l3 : ((mfR l i.toNat).2.2.1.length : Int) ≤ 1000 := by simp [mfR]; omega
    have e : mfR l (i + 1).toNat = ((mfR l i.toNat).1 ++ [g (gS l i.toNat).1 0], (mfR l i.toNat).2.1 ++ [g (gS l i.toNat).1 1], (mfR l i.toNat).2.2.1 ++ [pen (gS l i.toNat)], ()) := by rw [show (i + 1).toNat = i.toNat + 1 by omega, mfR_succ]
    refine Round.yes (decide_eq_true h3) ?_
    have two : ∀ v : Mk, v.length = 2 → v[(Int.toNat 0)]? = some (g v 0) ∧ v[(Int.toNat 1)]? = some (g v 1) := fun v hv => ⟨(g_idx (l := v) (i := 0) (by omega) (by omega)).get, (g_idx (l := v) (i := 1) (by omega) (by omega)).get⟩
    refine Round.ite (fun hc => ?_) (fun hc => ?_)
    rotate_left
    all_goals (first | (have hc : i < (l.length : Int) := of_decide_eq_true hc) | (have hc : ¬ i < (l.length : Int) := by simpa using hc))
    rotate_left
    · have hv := gS_idx (l := l) h2 hc
      obtain ⟨t0, t1⟩ := two (gS l i.toNat).1 (he _ hv.mem)
      refine Round.at hv.idx (Round.at hv.idx (Round.ite (fun hd => ?_) (fun hd => ?_)))
      · have hp : pen (gS l i.toNat) = 0 := by unfold pen; exact if_pos hd
        refine Round.chk rfl (Round.at t0 (Round.chk (decide_eq_true (by simp; omega)) (Round.chk rfl (Round.at t1 (Round.chk (decide_eq_true (by simp; omega)) (Round.chk (decide_eq_true (by simp; omega)) (Round.again _ ⟨(), ?_, trivial⟩)))))))
        rw [wr_succ h2 h3 (by omega), e, hp]
      · have hp : pen (gS l i.toNat) = 1 := by unfold pen; exact if_neg hd
        refine Round.chk rfl (Round.at t0 (Round.chk (decide_eq_true (by simp; omega)) (Round.chk rfl (Round.at t1 (Round.chk (decide_eq_true (by simp; omega)) (Round.chk (decide_eq_true (by simp; omega)) (Round.again _ ⟨(), ?_, trivial⟩)))))))
        rw [wr_succ h2 h3 (by omega), e, hp]
    · have hg := gS_out (l := l) (i := i.toNat) (by omega)
      refine Round.chk rfl (Round.at (v := (0 : Int)) rfl (Round.chk (decide_eq_true (by simp; omega)) (Round.chk rfl (Round.at (v := (0 : Int)) rfl (Round.chk (decide_eq_true (by simp; omega)) (Round.chk (decide_eq_true (by simp; omega)) (Round.again _ ⟨(), ?_, trivial⟩)))))))
      rw [wr_succ h2 h3 (by omega), e, hg]
      rfl
  · intro _ _
    exact Round.no (by simp) (Round.done (Evt.some _))
/- spec.CompileStrokes -/
theorem e19 (K : List Stk) (hr : RngT K) (most : Int) : Evt (fun n => call T C n 19 (K, most, ())) (csR K most, ()) := by
  have hl := psR_len K most
  refine Evt.next (Evt.bind (e55 K hr most) (Evt.ite (fun h => ?_) (fun h => ?_))) (fun n => r19 n K most)
  · have h : (psR K most).2.1 ≠ 0 := by simpa using h
    have : csR K most = (([], [], [], ()), (psR K most).2.1, ()) := by unfold csR; rw [if_pos h]
    rw [this]; exact Evt.some _
  · have h : (psR K most).2.1 = 0 := by simpa using h
    have : csR K most = (mfR (psR K most).1 (max 8 (psR K most).1.length), 0, ()) := by unfold csR; rw [if_neg (by omega)]
    rw [this]
    refine Evt.bind (e38 _ _) (Evt.bind (e56 (psR K most).1 (psR_el hr most) (m := max 8 ((psR K most).1.length : Int)) (by omega) (by omega) (by omega)) ?_)
    rw [show (max 8 ((psR K most).1.length : Int)).toNat = max 8 (psR K most).1.length by omega]
    exact Evt.some _
/- spec.l07Ink -/
theorem e58 {p : List Int} {a b : Mk} (hp : p.length = 64) (ha : OnP a) (hb : OnP b) : Evt (fun n => call T C n 58 (p, a, b, ())) ((), (inkL p (lineM a b), ())) := by
  have hl := lineM_len ha hb
  refine Evt.next (Evt.bind (e108 ha hb) ?_) (fun n => r58 n p a b)
  refine for_evt' 0 ((lineM a b).length : Int) (fun i (_ : Unit) => (inkL p ((lineM a b).take i.toNat), lineM a b, i, ())) (fun _ _ => True) (b0 := ()) rfl (by omega) trivial ?_ ?_
  · intro i _ h2 h3 _
    obtain ⟨m, hm⟩ := at_of h2 h3
    have ho := lineM_on ha hb m hm.mem
    have hx := ho.x; have hy := ho.y
    have hq : (inkL p ((lineM a b).take i.toNat)).length = 64 := by rw [inkL_len, hp]
    have hgp := g_idx (l := inkL p ((lineM a b).take i.toNat)) hy.1 (by omega)
    refine Round.yes (decide_eq_true h3) (Round.at hm.idx (Round.at ho.idx1 (Round.chk (decide_eq_true (by omega)) (Round.at hgp.get (Round.at hm.idx (Round.at ho.idx0 ?_))))))
    rw [wrapU64 (x := g m 0) (by omega) (by omega)]
    refine Round.chk (decide_eq_true hx.1) (Round.chk (decide_eq_true (by omega)) (Round.at hgp.get (Round.again _ ⟨(), ?_, trivial⟩)))
    rw [wr_succ h2 h3 (by omega), hm.take, inkL_snoc]
    rfl
  · intro _ _
    simp only [take_all]
    exact Round.no (by simp) (Round.done (Evt.some _))
/- spec.DrawStrokes -/
theorem e20 {K : List Stk} (hr : RngT K) (hc : skCode K = 0) : Evt (fun n => call T C n 20 (K, ())) ((plt (drK K), 0, ()), ()) := by
  have G := goodT hr hc
  have hG : ∀ s ∈ K, ∀ m ∈ s, OnP m := fun s hs => (G.el s hs).2
  have hS := e57 K hr
  rw [hc] at hS
  refine Evt.next (Evt.bind hS (Evt.no (by simp) ?_)) (fun n => r20 n K)
  have hkl := G.len
  refine for_evt' 0 (K.length : Int) (fun i (_ : Unit) => (K, List.replicate 64 (0 : Int), plt (kM K i.toNat), i, ())) (fun _ _ => True) (b0 := ()) (by rw [show kM K (0 : Int).toNat = [] from rfl, plate_nil]) (by omega) trivial ?_ ?_
  · intro i _ h2 h3 _
    obtain ⟨s, hs⟩ := at_of h2 h3
    have hsl := (G.el s hs.mem).1
    have hon := hG s hs.mem
    refine Round.yes (decide_eq_true h3) ?_
    refine for_round' 0 (s.length : Int) (fun k (_ : Unit) => (K, List.replicate 64 (0 : Int), plt (kM K i.toNat ++ skM s k.toNat), i, k, ())) (fun _ _ => True) (b0 := ()) (by simp [skM]) (by omega) trivial ?_ ?_
    · intro k _ k2 k3 _
      have hg := gM_idx k2 k3
      have ho : OnP (gM s k.toNat) := hon _ hg.mem
      have hI := e58 (p := plt (kM K i.toNat ++ skM s k.toNat)) (plt_len _) ho ho
      rw [lineM_same, inkL_plate _ _ (by simpa using ho)] at hI
      refine Round.at hs.idx (Round.yes (decide_eq_true k3) (Round.at hs.idx (Round.at hg.idx (Round.at hs.idx (Round.at hg.idx (Round.bind hI (Round.ite (fun c => ?_) (fun c => ?_))))))))
      · have c : k > 0 := of_decide_eq_true c
        have hw : wr .i64 (k - 1) = k - 1 := wrap_id (by omega) (by omega)
        have hg2 := gM_idx (L := s) (i := k - 1) (by omega) (by omega)
        have ho2 : OnP (gM s (k - 1).toNat) := hon _ hg2.mem
        have hI2 := e58 (p := plt ((kM K i.toNat ++ skM s k.toNat) ++ [gM s k.toNat])) (plt_len _) ho2 ho
        rw [inkL_plate _ _ (lineM_on ho2 ho)] at hI2
        rw [hw]
        refine Round.at hs.idx (Round.at hg2.idx (Round.at hs.idx (Round.at hg.idx (Round.bind hI2 (Round.inr _ ⟨(), ?_, trivial⟩)))))
        rw [wr_succ k2 k3 (by omega)]
        have e : skM s (k + 1).toNat = skM s k.toNat ++ (gM s k.toNat :: lineM (gM s (k - 1).toNat) (gM s k.toNat)) := by
          rw [show (k + 1).toNat = k.toNat + 1 by omega]
          unfold skM
          rw [if_neg (by omega), show k.toNat - 1 = (k - 1).toNat by omega]
          cases hkk : k.toNat <;> rfl
        rw [e]
        simp
      · have c : k = 0 := by have : ¬ k > 0 := fun h => c (decide_eq_true h); omega
        subst c
        have e : plt (kM K i.toNat ++ skM s (0 + 1 : Int).toNat) = plt (kM K i.toNat ++ skM s (0 : Int).toNat ++ [gM s (0 : Int).toNat]) := by simp [skM]
        refine Round.inr _ ⟨(), ?_, trivial⟩
        rw [wr_succ k2 k3 (by omega), e]
    · intro _ _
      refine Round.at hs.idx (Round.no (by simp) (Round.inl _ ⟨(), ?_, trivial⟩))
      rw [wr_succ h2 h3 (by omega)]
      have e : kM K (i + 1).toNat = kM K i.toNat ++ skM s s.length := by
        unfold kM
        rw [hs.take, List.flatMap_append]; simp
      rw [e, Int.toNat_natCast]
  · intro _ _
    refine Round.no (by simp) (Round.done ((Evt.some _).of_eq fun n => ?_))
    rw [Int.toNat_natCast, drK_plt hG]
    rfl
/- spec.SameMachine -/
theorem e21 (m : Mch) (hx : (m.1.length : Int) ≤ 1000000) (hy : (m.2.1.length : Int) ≤ 1000000) (hp : (m.2.2.1.length : Int) ≤ 1000000) : Evt (fun n => call T C n 21 (m, m, ())) ((true, ()), ()) :=
  Evt.next (Evt.bind (e39 m.1 hx) (Evt.yes rfl (Evt.bind (e39 m.2.1 hy) (Evt.yes rfl (Evt.bind (e39 m.2.2.1 hp) (Evt.some _)))))) (fun n => r21 n m m)
/- slices.Max[impl.Cam,int16] -/
theorem e109 (l : List Int) (hr : Rng l) (h0 : 0 < (l.length : Int)) : Evt (fun n => call T C n 109 (l, ())) ((mxL l, ()), ()) := by
  have hlen := hr.len'
  obtain ⟨v0, hv0⟩ := at_of (l := l) (Int.le_refl 0) h0
  refine Evt.next (Evt.no (by simp; omega) (Evt.at hv0.idx ?_)) (fun n => r109 n l)
  have hh := (head_at hv0).1
  refine for_evt' 1 (l.length : Int) (fun i (_ : Unit) => (l, mxF (l.take i.toNat) v0, i, ())) (fun _ _ => True) (b0 := ()) (by
    have := (head_at hv0).2
    show _ = (l, mxF (l.take 1) v0, 1, ())
    rw [this]; simp [mxF]) (by omega) trivial ?_ ?_
  · intro i _ h2 h3 _
    obtain ⟨v, hv⟩ := at_of (l := l) (show 0 ≤ i by omega) h3
    simp only [wrap_id (x := i + 1) (by omega) (by omega)]
    refine Round.yes (decide_eq_true h3) (Round.at hv.idx (Round.again _ ⟨(), ?_, trivial⟩))
    rw [hv.take, mxF_snoc]
    congr 2
    split <;> omega
  · intro _ _
    have e2 : mxF (l.take (l.length : Int).toNat) v0 = mxL l := by rw [take_all, mxL, hh]
    simp only [e2]
    exact Round.no (by simp) (Round.done (Evt.some _))
/- impl.ValidMachine -/
theorem e59 (m : Mch) (h : RngM m) : Evt (fun n => call T C n 59 (m, ())) ((okM m, ()), ()) := by
  have hx := h.x.len'
  have hy := h.y.len'
  have hp := h.p.len'
  refine Evt.next (Evt.at (x := ([] : List Int)) rfl (Evt.at (x := ([] : List Int)) rfl ?_)) (fun n => r59 n m)
  show Evt (fun n => loopK _ n (m, [m.1, m.2.1], 0, ())) _
  have one : ∀ (c : List Int) (hr : Rng c) (i : Int) (rest : Bool), i = 0 ∨ i = 1 → idx [m.1, m.2.1] i = some c → okM m = (mv c && ((c.length : Int) == (m.2.2.1.length : Int)) && rest) → ∀ {P : (Mch × List (List Int) × Int × Unit) → Prop}, (mv c = true → c.length = m.2.2.1.length → P (m, [m.1, m.2.1], wr .i64 (i + 1), ())) →
      Round (σ := Mch × List (List Int) × Int × Unit) (fun n ag => (idx [m.1, m.2.1] i).bind fun v6 => (call T C n 32 (v6, ())).bind fun r7 => if (!r7.1.1) = true then some ((false, ()), ()) else if (bif false then true else ((v6.length : Int) != (m.2.2.1.length : Int))) = true then some ((false, ()), ()) else (call T C n 109 (v6, ())).bind fun r8 => if (bif false then true else decide (r8.1.1 ≥ 64)) = true then some ((false, ()), ()) else ag (m, [m.1, m.2.1], wr .i64 (i + 1), ())) ((okM m, ()), ()) P := by
    intro c hr i rest _ hi he P hP
    have hc := hr.len'
    refine Round.at hi (Round.bind (e32 c (by omega)) ?_)
    cases hok : okC c with
    | false =>
      have : okM m = false := by rw [he]; simp [mv, hok]
      rw [this]
      exact Round.yes rfl (Round.done (Evt.some _))
    | true =>
      have hl := okC_len hok
      refine Round.no (by simp) (Round.ite (fun hb => ?_) (fun hb => ?_))
      · have hb : ¬ (c.length : Int) = m.2.2.1.length := by simpa using hb
        have : okM m = false := by
          rw [he]
          have : ((c.length : Int) == (m.2.2.1.length : Int)) = false := by simpa using hb
          simp [this]
        rw [this]
        exact Round.done (Evt.some _)
      · have hb : c.length = m.2.2.1.length := by
          have : (c.length : Int) = m.2.2.1.length := by simpa using hb
          omega
        refine Round.bind (e109 c hr (by omega)) (Round.ite (fun hg => ?_) (fun hg => ?_))
        · have hg : mxL c ≥ 64 := of_decide_eq_true hg
          have : okM m = false := by
            rw [he]
            have : mv c = false := by simp [mv]; intro; omega
            simp [this]
          rw [this]
          exact Round.done (Evt.some _)
        · have hg : ¬ mxL c ≥ 64 := by simpa using hg
          exact Round.again _ (hP (by simp [mv, hok]; omega) hb)
  refine for_evt' 0 2 (fun i (_ : Unit) => (m, [m.1, m.2.1], i, ())) (fun i _ => (0 < i → mv m.1 = true ∧ m.1.length = m.2.2.1.length) ∧ (1 < i → mv m.2.1 = true ∧ m.2.1.length = m.2.2.1.length)) (b0 := ()) rfl (by omega) ⟨by omega, by omega⟩ ?_ ?_
  · intro i _ h2 h3 ⟨p1, p2⟩
    refine Round.yes (decide_eq_true h3) ?_
    have hi : i = 0 ∨ i = 1 := by omega
    rcases hi with rfl | rfl
    · refine one m.1 h.x 0 (mv m.2.1 && okC m.2.2.1 && ((m.1.length : Int) == (m.2.1.length : Int))) (.inl rfl) rfl ?_ (fun q1 q2 => ⟨(), rfl, fun _ => ⟨q1, q2⟩, by omega⟩)
      unfold okM
      cases mv m.1 <;> cases mv m.2.1 <;> cases okC m.2.2.1 <;> cases ((m.1.length : Int) == (m.2.1.length : Int)) <;> cases ((m.1.length : Int) == (m.2.2.1.length : Int)) <;> rfl
    · obtain ⟨p3, p4⟩ := p1 (by omega)
      refine one m.2.1 h.y 1 (okC m.2.2.1) (.inr rfl) rfl ?_ (fun q1 q2 => ⟨(), rfl, fun _ => ⟨p3, p4⟩, fun _ => ⟨q1, q2⟩⟩)
      unfold okM
      rw [p3, p4]
      have : ((m.2.2.1.length : Int) == (m.2.1.length : Int)) = ((m.2.1.length : Int) == (m.2.2.1.length : Int)) := BEq.comm
      rw [this]
      cases mv m.2.1 <;> cases okC m.2.2.1 <;> cases ((m.2.1.length : Int) == (m.2.2.1.length : Int)) <;> simp
  · intro _ ⟨p1, p2⟩
    obtain ⟨q1, q2⟩ := p1 (by omega)
    obtain ⟨q3, q4⟩ := p2 (by omega)
    have : okM m = okC m.2.2.1 := by
      unfold okM
      rw [q1, q3, q2, q4]
      simp
    rw [this]
    exact Round.no (by simp) (Round.done (Evt.bind (e32 m.2.2.1 (by omega)) (Evt.some _)))
/- (impl.Machine).steps -/
theorem e140 (m : Mch) : Evt (fun n => call T C n 140 (m, ())) (((m.1.length : Int), ()), ()) := Evt.next (Evt.bind (e43 m.1) (Evt.some _)) (fun n => r140 n m)
/- (impl.Machine).stop -/
theorem e141 (m : Mch) (hr : RngM m) (G : GoodM m) {i : Nat} (h : i < m.1.length) : Evt (fun n => call T C n 141 (m, (i : Int), ())) ((stopM m i, ()), ()) := by
  have lx := okC_len G.x
  have e1 := G.xy
  have e2 := G.xp
  have at_ : ∀ l : List Int, l.length = m.1.length → cAt l (i : Int) = g l i := fun l hl => by
    unfold cAt
    rw [Int.emod_eq_of_lt (by omega) (by omega), Int.toNat_natCast]
  have x1 := hr.x.el _ (g_mem h)
  have y1 := hr.y.el _ (g_mem (i := i) (by omega))
  have p1 := okC_el G.p hr.p _ (g_mem (i := i) (by omega))
  refine Evt.next ?_ (fun n => r141 n m (i : Int))
  refine Evt.bind (e86 hr.x (by omega) (by omega) (by omega) (by omega)) (Evt.bind (e86 hr.y (by omega) (by omega) (by omega) (by omega)) (Evt.at (x := (0 : Int)) rfl (Evt.at (x := (0 : Int)) rfl (Evt.bind (e86 hr.p (by omega) (by omega) (by omega) (by omega)) ((Evt.some _).of_eq fun n => ?_)))))
  rw [at_ _ rfl, at_ _ (by omega), at_ _ (by omega), wrap16 x1.1 x1.2, wrap16 y1.1 y1.2]
  rfl
/- (impl.Machine).stops -/
theorem e110 (m : Mch) (hr : RngM m) (G : GoodM m) : Evt (fun n => call T C n 110 (m, ())) ((stopsM m, ()), ()) := by
  have lx := okC_len G.x
  refine Evt.next (Evt.bind (e140 m) ?_) (fun n => r110 n m)
  refine for_evt' 0 (m.1.length : Int) (fun i (_ : Unit) => (m, (List.range i.toNat).map (stopM m), (m.1.length : Int), i, ())) (fun _ _ => True) (b0 := ()) rfl (by omega) trivial ?_ ?_
  · intro i _ h2 h3 _
    obtain ⟨k, rfl⟩ : ∃ k : Nat, i = k := ⟨i.toNat, by omega⟩
    refine Round.yes (decide_eq_true h3) (Round.bind (e141 m hr G (i := k) (by omega)) (Round.chk (decide_eq_true (by simp; omega)) (Round.again _ ⟨(), ?_, trivial⟩)))
    rw [wr_succ h2 h3 (by omega), show ((k : Int) + 1).toNat = k + 1 by omega, List.range_succ, List.map_append]
    rfl
  · intro _ _
    exact Round.no (by simp) (Round.done (Evt.some _))
/- (*impl.Plate).ink -/
theorem e111 {p : List Int} {m : Mk} (hp : p.length = 64) (ho : OnP m) : Evt (fun n => call T C n 111 (p, m, ())) ((), (inkP p m, ())) := by
  have hx := ho.x; have hy := ho.y
  have hgp := g_idx (l := p) hy.1 (by omega)
  have hb1 : 0 ≤ g m 1 ∧ g m 1 < ((64 : Nat) : Int) := by omega
  exact Evt.next (Evt.chk rfl (Evt.at ho.get1 (Evt.chk (decide_eq_true hb1) (Evt.at hgp.get (Evt.chk rfl (Evt.at ho.get0 (Evt.chk (decide_eq_true hx.1) (Evt.chk (decide_eq_true hb1) (Evt.at hgp.get (Evt.some ((), (inkP p m, ())))))))))))) (fun n => r111 n p m)
/- (*impl.Plate).line -/
theorem e112 {p : List Int} {a b : Mk} (hp : p.length = 64) (ha : OnP a) (hb : OnP b) : Evt (fun n => call T C n 112 (p, a, b, ())) ((), (inkL p (lineM a b), ())) := by
  have hl := lineM_len ha hb
  refine Evt.next (Evt.bind (e135 ha hb) ?_) (fun n => r112 n p a b)
  refine for_evt' 0 ((lineM a b).length : Int) (fun i (_ : Unit) => (inkL p ((lineM a b).take i.toNat), lineM a b, ((lineM a b).length : Int), i, ())) (fun _ _ => True) (b0 := ()) rfl (by omega) trivial ?_ ?_
  · intro i _ h2 h3 _
    obtain ⟨m, hm⟩ := at_of h2 h3
    refine Round.yes (decide_eq_true h3) (Round.at hm.idx (Round.bind (e111 (p := inkL p ((lineM a b).take i.toNat)) (by rw [inkL_len, hp]) (lineM_on ha hb m hm.mem)) (Round.again _ ⟨(), ?_, trivial⟩)))
    rw [wr_succ h2 h3 (by omega), hm.take, inkL_snoc]
  · intro _ _
    simp only [take_all]
    exact Round.no (by simp) (Round.done (Evt.some _))
/- (impl.Machine).draw -/
theorem e60 (m : Mch) (hr : RngM m) (G : GoodM m) : Evt (fun n => call T C n 60 (m, ())) ((drawTo m m.1.length, ()), ()) := by
  have lx := okC_len G.x
  have hl : (stopsM m).length = m.1.length := by simp [stopsM]
  refine Evt.next (Evt.bind (e110 m hr G) ?_) (fun n => r60 n m)
  refine for_evt' 0 (m.1.length : Int) (fun i (_ : Unit) => (List.replicate 64 0, drawTo m i.toNat, stopsM m, stopsM m, ((stopsM m).length : Int), i, ())) (fun _ _ => True) (b0 := ()) rfl (by omega) trivial ?_ ?_
  · intro i _ h2 h3 _
    obtain ⟨k, rfl⟩ : ∃ k : Nat, i = k := ⟨i.toNat, by omega⟩
    have hk : k < m.1.length := by omega
    have hs := stopsM_at m hk
    have hm1 := Nat.mod_lt (k + 1) (show m.1.length > 0 by omega)
    have ht := stopsM_at m hm1
    have hmod : Int.tmod (wr .i64 ((k : Int) + 1)) ((stopsM m).length : Int) = (((k + 1) % m.1.length : Nat) : Int) := by rw [wr_succ h2 h3 (by omega), hl, show (k : Int) + 1 = ((k + 1 : Nat) : Int) by omega, ← Int.ofNat_tmod]
    have o1 := stop_on hr G hk
    have o2 := stop_on hr G hm1
    show Round (fun n ag => if decide ((k : Int) < ((stopsM m).length : Int)) = true then _ else _) _ _
    refine Round.yes (decide_eq_true (by omega)) (Round.at hs.idx ?_)
    have e : drawTo m ((k : Int) + 1).toNat = drawTo m (k + 1) := by rw [show ((k : Int) + 1).toNat = k + 1 by omega]
    have again : ∀ d, d = drawTo m (k + 1) → ∃ b' : Unit, ((List.replicate 64 (0 : Int), d, stopsM m, stopsM m, ((stopsM m).length : Int), wr .i64 ((k : Int) + 1), ()) : List Int × List Int × List Stp × List Stp × Int × Int × Unit) = (List.replicate 64 0, drawTo m ((k : Int) + 1).toNat, stopsM m, stopsM m, ((stopsM m).length : Int), (k : Int) + 1, ()) ∧ True := fun d hd => ⟨(), by rw [hd, e, wr_succ h2 h3 (by omega)], trivial⟩
    refine Round.ite (fun c => ?_) (fun c => ?_)
    · have c : (stopM m k).2.1 = false := by simpa using c
      refine Round.again _ (again _ ?_)
      show drawTo m k = drawTo m (k + 1)
      rw [drawTo, c]; rfl
    have c : (stopM m k).2.1 = true := by simpa using c
    have hlen : (drawTo m k).length = 64 := drawTo_len m k
    refine Round.bind (e111 (p := drawTo m k) hlen o1) (Round.chk (bne_pos (show 0 < ((stopsM m).length : Int) by omega)) ?_)
    simp only [hmod]
    refine Round.at ht.idx (Round.ite (fun c2 => ?_) (fun c2 => ?_))
    · refine Round.bind (e112 (p := inkP (drawTo m k) (stopM m k).1) (by rw [inkP_len, hlen]) o1 o2) (Round.again _ (again _ ?_))
      rw [drawTo, if_pos c, if_pos c2]
    · refine Round.again _ (again _ ?_)
      rw [drawTo, if_pos c, if_neg c2]
  · intro _ _
    exact Round.no (by simp [hl]) (Round.done (Evt.some _))
/- impl.DrawMachine -/
theorem e22 (m : Mch) (hr : RngM m) : Evt (fun n => call T C n 22 (m, ())) (dmR m, ()) := by
  refine Evt.next (Evt.bind (e59 m hr) ?_) (fun n => r22 n m)
  unfold dmR
  refine Evt.ite (fun h => ?_) (fun h => ?_)
  · have h : okM m = false := by simpa using h
    rw [h]; exact Evt.some _
  · have h : okM m = true := by simpa using h
    rw [if_pos h]
    exact Evt.bind (e60 m hr (goodM h)) (Evt.some _)
/- spec.l01Range -/
theorem e142 (l : List Int) (hr : Rng l) (h0 : 0 < (l.length : Int)) : Evt (fun n => call T C n 142 (l, ())) ((mnL l, mxL l, ()), ()) := by
  have hlen := hr.len'
  obtain ⟨v0, hv0⟩ := at_of (l := l) (Int.le_refl 0) h0
  refine Evt.next (Evt.at hv0.idx ?_) (fun n => r142 n l)
  rw [hr.id hv0.mem]
  have hh := (head_at hv0).1
  refine for_evt' 1 (l.length : Int) (fun i (_ : Unit) => (l, mnF (l.take i.toNat) v0, mxF (l.take i.toNat) v0, i, ())) (fun _ _ => True) (b0 := ()) (by
    have := (head_at hv0).2
    show _ = (l, mnF (l.take 1) v0, mxF (l.take 1) v0, 1, ())
    rw [this]; simp [mnF, mxF]) (by omega) trivial ?_ ?_
  · intro i _ h2 h3 _
    obtain ⟨v, hv⟩ := at_of (l := l) (show 0 ≤ i by omega) h3
    simp only [wrap_id (x := i + 1) (by omega) (by omega)]
    refine Round.yes (decide_eq_true h3) (Round.at hv.idx (Round.bind (e129 _ _) (Round.at hv.idx (Round.bind (e38 _ _) (Round.again _ ⟨(), ?_, trivial⟩)))))
    rw [hv.take, mnF_snoc, mxF_snoc, hr.id hv.mem]
  · intro _ _
    have e1 : mnF (l.take (l.length : Int).toNat) v0 = mnL l := by rw [take_all, mnL, hh]
    have e2 : mxF (l.take (l.length : Int).toNat) v0 = mxL l := by rw [take_all, mxL, hh]
    simp only [e1, e2]
    exact Round.no (by simp) (Round.done (Evt.some _))
/- spec.l07Moves -/
theorem e113 (l : List Int) (hr : Rng l) : Evt (fun n => call T C n 113 (l, ())) ((mv l, ()), ()) := by
  have hlen := hr.len'
  refine Evt.next (Evt.bind (e36 l (by omega)) ?_) (fun n => r113 n l)
  unfold mv
  cases hok : okC l with
  | false => exact Evt.yes rfl (Evt.some _)
  | true =>
    have := okC_len hok
    exact Evt.no (by simp) (Evt.bind (e142 l hr (by omega)) (Evt.some _))
/- spec.l07Ok -/
theorem e61 (m : Mch) (h : RngM m) : Evt (fun n => call T C n 61 (m, ())) ((okM m, ()), ()) := by
  have hp := h.p.len'
  refine Evt.next (Evt.bind (e113 m.1 h.x) ?_) (fun n => r61 n m)
  unfold okM
  cases mv m.1 with
  | false => exact Evt.no (by simp) (Evt.some _)
  | true =>
    refine Evt.yes rfl (Evt.bind (e113 m.2.1 h.y) ?_)
    cases mv m.2.1 with
    | false => exact Evt.no (by simp) (Evt.some _)
    | true =>
      refine Evt.yes rfl (Evt.bind (e36 m.2.2.1 (by omega)) ?_)
      cases okC m.2.2.1 with
      | false => exact Evt.no (by simp) (Evt.some _)
      | true =>
        refine Evt.yes rfl ?_
        cases ((m.1.length : Int) == (m.2.1.length : Int)) with
        | false => exact Evt.no (by simp) (Evt.some _)
        | true => exact Evt.yes rfl (Evt.some _)
/- spec.l07Stops -/
theorem e62 (m : Mch) (G : GoodM m) : Evt (fun n => call T C n 62 (m, ())) ((stopsM m, ()), ()) := by
  have lx := okC_len G.x
  have e1 := G.xy
  have e2 := G.xp
  refine Evt.next ?_ (fun n => r62 n m)
  refine for_evt' 0 (m.1.length : Int) (fun i (_ : Unit) => (m, (List.range i.toNat).map (stopM m), i, ())) (fun _ _ => True) (b0 := ()) rfl (by omega) trivial ?_ ?_
  · intro i _ h2 h3 _
    have hx := g_idx (l := m.1) h2 h3
    have hy := g_idx (l := m.2.1) h2 (by omega)
    have hp := g_idx (l := m.2.2.1) h2 (by omega)
    refine Round.yes (decide_eq_true h3) (Round.at hx.idx (Round.at hy.idx (Round.at (v := (0 : Int)) rfl (Round.at (v := (0 : Int)) rfl (Round.at hp.idx (Round.chk (decide_eq_true (by simp; omega)) (Round.again _ ⟨(), ?_, trivial⟩)))))))
    rw [wr_succ h2 h3 (by omega), show (i + 1).toNat = i.toNat + 1 by omega, List.range_succ, List.map_append]
    rfl
  · intro _ _
    exact Round.no (by simp) (Round.done (Evt.some _))
/- spec.StopsOf -/
theorem e23 {m : Mch} (hr : RngM m) (h : okM m = true) : Evt (fun n => call T C n 23 (m, ())) ((stopsM m, 0, ()), ()) := by
  have hV := e61 m hr
  rw [h] at hV
  refine Evt.next (Evt.bind hV (Evt.no (by simp) ?_)) (fun n => r23 n m)
  exact Evt.bind (e62 m (goodM h)) (Evt.some _)
/- impl.ValidShafts$1 -/
theorem e116 (s : Sft) (hl : (s.2.2.2.1.length : Int) ≤ 140737488351232) : Evt (fun n => call T C n 116 (s, ())) ((!okS s, ()), ()) := by
  refine Evt.next (Evt.bind (e45 _ _ _) ?_) (fun n => r116 n s)
  refine Evt.ite (fun h => ?_) (fun h => ?_)
  · have h : inR (wr .i64 s.1) 1 60 = false := by simpa using h
    have : okS s = false := by simp [okS, h]
    rw [this]; exact Evt.some _
  · have h1 : inR (wr .i64 s.1) 1 60 = true := by simpa using h
    refine Evt.bind (e45 _ _ _) (Evt.ite (fun h => ?_) (fun h => ?_))
    · have h : inR (wr .i64 s.2.1) 1 60 = false := by simpa using h
      have : okS s = false := by simp [okS, h]
      rw [this]; exact Evt.some _
    · have h2 : inR (wr .i64 s.2.1) 1 60 = true := by simpa using h
      refine Evt.bind (e32 _ hl) (Evt.ite (fun h => ?_) (fun h => ?_))
      · have h : okC s.2.2.2.1 = false := by simpa using h
        have : okS s = false := by simp [okS, h]
        rw [this]; exact Evt.some _
      · have h3 : okC s.2.2.2.1 = true := by simpa using h
        refine Evt.bind (e105 _ _) ((Evt.some _).of_eq fun n => ?_)
        have : okS s = inR (wr .i64 s.2.2.1) 0 (wr .i64 ((s.2.2.2.1.length : Int) - 1)) := by simp [okS, h1, h2, h3]
        rw [this]
        rfl
/- slices.IndexFunc[[]impl.Shaft,impl.Shaft]{impl.ValidShafts$1} -/
theorem e145 (l : List Sft) (hl : Small l) : Evt (fun n => call T C n 145 (l, ((), ()), ())) ((fi (fun v => !okS v) l 0, ()), ()) := by
  refine Evt.next ?_ (fun n => r145 n l ((), ()))
  refine loop_evt (fun (x : List Sft × (Unit × Unit) × Int × Int × Unit) => x.1 = l ∧ x.2.2.1 = (l.length : Int) ∧ 0 ≤ x.2.2.2.1 ∧ x.2.2.2.1 ≤ (l.length : Int) ∧ fi (fun v => !okS v) l 0 = fi (fun v => !okS v) (l.drop x.2.2.2.1.toNat) x.2.2.2.1) (fun (x : List Sft × (Unit × Unit) × Int × Int × Unit) => ((l.length : Int) - x.2.2.2.1).toNat) (x := (l, ((), ()), (l.length : Int), 0, ())) ⟨rfl, rfl, Int.le_refl _, by simp, by simp⟩ ?_
  rintro ⟨x1, u, m, i, _⟩ ⟨h', hm, h0, h1, h2⟩
  simp only at h' hm h0 h1 h2
  subst h'; subst hm
  have hl1 := hl.1
  refine Round.ite (fun hlt => ?_) (fun hge => ?_)
  · have hlt : i < (x1.length : Int) := of_decide_eq_true hlt
    obtain ⟨v, hv, hv'⟩ := idx_at h0 hlt
    have hd := drop_cons hv'
    refine Round.at hv (Round.bind (e116 _ (hl.get hv')) (Round.ite (fun hb => ?_) (fun hb => ?_)))
    · have hb : okS v = false := by simpa using hb
      have h3 : fi (fun v => !okS v) x1 0 = i := by rw [h2, hd]; simp [fi, hb]
      rw [h3]
      exact Round.done (Evt.some _)
    · have hb : okS v = true := by simpa using hb
      have hw : wr .i64 (i + 1) = i + 1 := wrap_id (by omega) (by omega)
      refine Round.again _ ⟨⟨rfl, rfl, ?_, ?_, ?_⟩, ?_⟩ <;> simp only [hw]
      · omega
      · omega
      · rw [h2, hd, show (i + 1).toNat = i.toNat + 1 by omega]
        simp [fi, hb]
      · omega
  · have hge : ¬ i < (x1.length : Int) := by simpa using hge
    have : x1.drop i.toNat = [] := List.drop_of_length_le (by omega)
    rw [h2, this]
    exact Round.done (Evt.some _)
/- slices.ContainsFunc[[]impl.Shaft,impl.Shaft]{impl.ValidShafts$1} -/
theorem e115 (l : List Sft) (hl : Small l) : Evt (fun n => call T C n 115 (l, ((), ()), ())) ((l.any (fun v => !okS v), ()), ()) := by
  refine Evt.next (Evt.bind (e145 l hl) ((Evt.some _).of_eq fun n => ?_)) (fun n => r115 n l ((), ()))
  simp only [fi_any _ l 0 (Int.le_refl _)]
  rfl
/- impl.ValidShafts -/
theorem e66 (l : List Sft) (hl : Small l) : Evt (fun n => call T C n 66 (l, ())) ((okA l, ()), ()) := by
  refine Evt.next (Evt.bind (e45 _ _ _) ?_) (fun n => r66 n l)
  refine Evt.ite (fun h => ?_) (fun h => ?_)
  · refine Evt.bind (e115 l hl) ((Evt.some _).of_eq fun n => ?_)
    have h : inR (l.length : Int) 1 6 = true := h
    have : okA l = !l.any (fun v => !okS v) := by simp [okA, h, List.any_eq_not_all_not]
    rw [this]
    rfl
  · refine (Evt.some _).of_eq fun n => ?_
    have h : inR (l.length : Int) 1 6 = false := by simpa using h
    simp [okA, h]
    rfl
/- impl.common -/
theorem e144 (a b : Nat) : Evt (fun n => call T C n 144 ((a : Int), (b : Int), ())) ((((Nat.gcd a b : Nat) : Int), ()), ()) := by
  refine Evt.next ?_ (fun n => r144 n a b)
  refine loop_evt (fun (x : Int × Int × Unit) => ∃ p q : Nat, x = ((p : Int), (q : Int), ()) ∧ Nat.gcd p q = Nat.gcd a b) (fun (x : Int × Int × Unit) => x.2.1.toNat) (x := ((a : Int), (b : Int), ())) ⟨a, b, rfl, rfl⟩ ?_
  rintro x ⟨p, q, rfl, hg⟩
  refine Round.ite (fun h => ?_) (fun h => ?_)
  · have h : q ≠ 0 := by simpa using h
    refine Round.chk (by simpa using h) ?_
    refine Round.again _ ⟨⟨q, p % q, ?_, ?_⟩, ?_⟩
    · simp only [Int.ofNat_tmod]
    · rw [← hg, Nat.gcd_comm p q, Nat.gcd_rec q p, Nat.gcd_comm]
    · show (Int.tmod (p : Int) (q : Int)).toNat < ((q : Int)).toNat
      rw [← Int.ofNat_tmod]
      have := Nat.mod_lt p (show q > 0 by omega)
      omega
  · have h : q = 0 := by simpa using h
    subst h
    rw [← hg, Nat.gcd_zero_right]
    exact Round.done (Evt.some _)
theorem e144' {a b : Int} (ha : 0 ≤ a) (hb : 0 ≤ b) : Evt (fun n => call T C n 144 (a, b, ())) ((gg a b, ()), ()) := by
  have := e144 a.toNat b.toNat
  rw [show ((a.toNat : Nat) : Int) = a by omega, show ((b.toNat : Nat) : Int) = b by omega] at this
  exact this
/- (impl.Shaft).period -/
theorem e143 {s : Sft} (h : Good s) : Evt (fun n => call T C n 143 (s, ())) ((own s, ()), ()) := by
  have h1 := dl_eq h
  have hg := gg_pos (a := dl s) (b := wr .i64 s.1) (by omega)
  refine Evt.next (Evt.bind (e43 _) (Evt.bind (e144' (a := dl s) (by omega) (by have := h.num; omega)) (Evt.chk ?_ (Evt.some _)))) (fun n => r143 n s)
  exact bne_pos hg
/- impl.periodOf -/
theorem e114 (l : List Sft) (hok : okA l = true) : Evt (fun n => call T C n 114 (l, ())) (perR l, ()) := by
  have hG := okA_good hok
  refine Evt.next ?_ (fun n => r114 n l)
  refine loop_evt (fun (x : Int × List Sft × Int × Int × Unit) => x.2.1 = l ∧ x.2.2.1 = (l.length : Int) ∧ 1 ≤ x.1 ∧ x.1 ≤ 20000 ∧ 0 ≤ x.2.2.2.1 ∧ x.2.2.2.1 ≤ (l.length : Int) ∧ per l 1 = per (l.drop x.2.2.2.1.toNat) x.1) (fun (x : Int × List Sft × Int × Int × Unit) => ((l.length : Int) - x.2.2.2.1).toNat) (x := (1, l, (l.length : Int), 0, ())) ⟨rfl, rfl, by simp, by simp, by simp, by simp, by simp⟩ ?_
  rintro ⟨t, x1, m, i, _⟩ ⟨h', hm, t0, t1, h0, h1, h2⟩
  simp only at h' hm t0 t1 h0 h1 h2
  subst h'; subst hm
  refine Round.ite (fun hlt => ?_) (fun hge => ?_)
  · have hlt : i < (x1.length : Int) := of_decide_eq_true hlt
    obtain ⟨v, hv, hv'⟩ := idx_at h0 hlt
    have hd := drop_cons hv'
    have hgv := hG.2 v (List.mem_of_getElem? hv')
    have ho := own_eq hgv
    have hg := gg_pos (a := t) (b := own v) (by omega)
    refine Round.at hv (Round.bind (e143 hgv) (Round.bind (e144' (a := t) (b := own v) (by omega) (by omega)) (Round.chk (bne_pos hg) ?_)))
    refine Round.ite (fun hb => ?_) (fun hb => ?_)
    · have hb : nxt t v > 20000 := of_decide_eq_true hb
      have h3 : per x1 1 = none := by rw [h2, hd]; simp [per, hb]
      unfold perR
      rw [h3]
      exact Round.done (Evt.some _)
    · have hb : ¬ nxt t v > 20000 := by simpa [nxt] using hb
      have hw : wr .i64 (i + 1) = i + 1 := wrap_id (by omega) (by omega)
      have hp := nxt_pos hgv t0 t1
      refine Round.again _ ⟨⟨rfl, rfl, hp, by show nxt t v ≤ 20000; omega, ?_, ?_, ?_⟩, ?_⟩ <;> simp only [hw]
      · omega
      · omega
      · rw [h2, hd, show (i + 1).toNat = i.toNat + 1 by omega]
        simp only [per]
        rw [if_neg hb]
        rfl
      · omega
  · have hge : ¬ i < (x1.length : Int) := by simpa using hge
    have : x1.drop i.toNat = [] := List.drop_of_length_le (by omega)
    have h3 : per x1 1 = some t := by rw [h2, this]; rfl
    unfold perR
    rw [h3]
    exact Round.done (Evt.some _)
/- impl.shaftsCode -/
theorem e63 (l : List Sft) (hl : Small l) (room : Bool) : Evt (fun n => call T C n 63 (l, room, ())) (codeR l room, ()) := by
  refine Evt.next (Evt.bind (e66 l hl) (Evt.bind (e65 _ _) (Evt.bind (e65 _ _) (Evt.bind (e64 _ (by simp)) ?_)))) (fun n => r63 n l room)
  unfold codeR
  cases hok : okA l with
  | false =>
    refine Evt.yes (by simp [fst0]) ((Evt.some _).of_eq fun n => ?_)
    simp [fst0]
    rfl
  | true =>
    cases room with
    | false =>
      refine Evt.yes (by simp [fst0]) ((Evt.some _).of_eq fun n => ?_)
      simp [fst0]
      rfl
    | true =>
      refine Evt.no (by simp [fst0]) (Evt.bind (e114 l hok) (Evt.bind (e65 _ _) ((Evt.some _).of_eq fun n => ?_)))
      unfold perR allR
      cases per l 1 <;> rfl
/- impl.PeriodOfAll -/
theorem e24 {l : List Sft} (hl : Small l) {p : Int} (h : codeR l true = (p, 0, ())) : Evt (fun n => call T C n 24 (l, ())) ((p, 0, ()), ()) := by
  have hc := e63 l hl true
  rw [h] at hc
  exact Evt.next (Evt.bind hc (Evt.no (by simp) (Evt.some _))) (fun n => r24 n l)
/- (impl.Shaft).step -/
theorem e152 {s : Sft} (h : Good s) (t : Int) {p : Int} (h0 : 0 ≤ p) (h1 : p ≤ 360) : Evt (fun n => call T C n 152 (s, t, p, ())) ((stp (withP s p) t, ()), ()) := by
  refine Evt.next (Evt.chk (den_ne h) (Evt.bind (e43 _) (Evt.chk (len_ne h) ((Evt.some _).of_eq fun n => ?_)))) (fun n => r152 n s t p)
  unfold stp withP
  simp only [wrap_id (x := p) (by omega) (by omega)]
  rfl
/- (impl.Shaft).lift -/
theorem e146 {s : Sft} (h : Good s) {t : Int} (h0 : 0 ≤ t) (h1 : t ≤ 20000) {p : Int} (p0 : 0 ≤ p) (p1 : p ≤ 360) : Evt (fun n => call T C n 146 (s, t, p, ())) ((lift (withP s p) t, ()), ()) := by
  obtain ⟨⟨v, hv, he⟩, _⟩ := lift_eq (h.withP p0 p1) h0 h1
  rw [he]
  refine Evt.next (Evt.bind (e152 h t p0 p1) ?_) (fun n => r146 n s t p)
  exact Evt.at hv (Evt.some ((wr .i64 v, ()), ()))
/- (impl.Shaft).now -/
theorem e117 {s : Sft} (h : Good s) {t : Int} (h0 : 0 ≤ t) (h1 : t ≤ 20000) : Evt (fun n => call T C n 117 (s, t, ())) ((lift s t, ()), ()) := by
  have e := e146 h h0 h1 (p := wr .i64 s.2.2.1) h.ph.1 h.ph.2
  rw [lift_wr h t] at e
  exact Evt.next (Evt.bind e (Evt.some _)) (fun n => r117 n s t)
/- impl.liftsOn -/
theorem e67 (l : List Sft) (hG : (1 ≤ (l.length : Int) ∧ (l.length : Int) ≤ 6) ∧ ∀ s ∈ l, Good s) {t : Int} (t0 : 0 ≤ t) (t1 : t ≤ 20000) : Evt (fun n => call T C n 67 (l, t, ())) ((l.map (lift · t), ()), ()) := by
  refine Evt.next ?_ (fun n => r67 n l t)
  refine loop_evt (fun (x : Int × List Int × List Sft × Int × Int × Unit) => x.1 = t ∧ x.2.2.1 = l ∧ x.2.2.2.1 = (l.length : Int) ∧ 0 ≤ x.2.2.2.2.1 ∧ x.2.2.2.2.1 ≤ (l.length : Int) ∧ x.2.1 = (l.take x.2.2.2.2.1.toNat).map (lift · t)) (fun (x : Int × List Int × List Sft × Int × Int × Unit) => ((l.length : Int) - x.2.2.2.2.1).toNat) (x := (t, [], l, (l.length : Int), 0, ())) ⟨rfl, rfl, rfl, Int.le_refl _, by simp, by simp⟩ ?_
  rintro ⟨tt, m, x1, mm, i, _⟩ ⟨h', h'', hmm, h0, h1, hm⟩
  simp only at h' h'' hmm h0 h1 hm
  subst h'; subst h''; subst hmm
  have hG1 := hG.1
  refine Round.ite (fun hlt => ?_) (fun hge => ?_)
  · have hlt : i < (x1.length : Int) := of_decide_eq_true hlt
    obtain ⟨v, hv, hv'⟩ := idx_at h0 hlt
    have hw : wr .i64 (i + 1) = i + 1 := wrap_id (by omega) (by omega)
    have hml : m.length ≤ 6 := by rw [hm]; simp; omega
    refine Round.at hv (Round.bind (e117 (hG.2 v (List.mem_of_getElem? hv')) t0 t1) (Round.chk (by simp; omega) (Round.again _ ⟨⟨rfl, rfl, rfl, ?_, ?_, ?_⟩, ?_⟩))) <;> simp only [hw]
    · omega
    · omega
    · rw [hm, show (i + 1).toNat = i.toNat + 1 by omega, List.take_add_one, hv']
      simp
    · omega
  · have hge : ¬ i < (x1.length : Int) := by simpa using hge
    have : m = x1.map (lift · tt) := by rw [hm, List.take_of_length_le (by omega)]
    rw [← this]
    exact Round.done (Evt.some _)
/- impl.LiftsOn -/
theorem e25 {l : List Sft} (hl : Small l) (h : okA l = true) {t : Int} (t0 : 0 ≤ t) (t1 : t ≤ 20000) : Evt (fun n => call T C n 25 (l, t, ())) ((l.map (lift · t), 0, ()), ()) := by
  have hv := e66 l hl
  rw [h] at hv
  have hR := e45 t 0 1000000
  rw [show inR t 0 1000000 = true from inR_iff.2 ⟨by omega, by omega⟩] at hR
  refine Evt.next (Evt.bind hv (Evt.bind (e65 false 1) (Evt.bind hR (Evt.bind (e65 false 2) (Evt.bind (e64 _ (by simp)) ?_))))) (fun n => r25 n l t)
  exact Evt.no (by simp [fst0]) (Evt.bind (e67 l (okA_good h) t0 t1) (Evt.some _))
/- laws.FnTop -/
theorem e3 (x y : List Int) (hd : DomA (C 3).params (x, y, ())) : Evt (fun n => call T C n 3 (x, y, ())) ((true, ()), ()) := by
  have hx : ∀ v ∈ x, 0 ≤ v ∧ v ≤ 255 := byte_of hd.1
  have hy : ∀ v ∈ y, 0 ≤ v ∧ v ≤ 255 := byte_of hd.2.1
  refine Evt.next (Evt.bind (e4 x y) ?_) (fun n => r3 n x y)
  cases hlong : (decide ((x.length : Int) > 3000) || decide ((y.length : Int) > 3000)) with
  | true => exact Evt.yes rfl (Evt.some _)
  | false =>
    simp only [Bool.or_eq_false_iff, decide_eq_false_iff_not] at hlong
    obtain ⟨p, hP, S⟩ := e5 hx (by omega)
    have Sc := S.cam
    have hMk := e6 S.rng S.ok (fun v hv => by
      have h := S.ins v hv
      exact ⟨h.w, h.n, by have := h.t; omega⟩)
    refine Evt.no (by simp) (Evt.bind hP (Evt.bind hMk (Evt.bind (e7 S) ?_)))
    obtain ⟨c, hc⟩ : ∃ c, c = proF p.1 p.2.1 := ⟨_, rfl⟩
    rw [← hc] at Sc ⊢
    have hr := Sc.rng
    have ok := Sc.ok
    have lx := okC_len ok
    have h0 : 0 < c.length := by omega
    have hs := sprF_small h0 (M := 59) (by omega) Sc.el
    obtain ⟨f0, hA, a0, a1⟩ := e12 hy (i := 0) (m := 6) (by omega) (by omega)
    obtain ⟨f, rfl⟩ : ∃ f : Nat, f0 = f := ⟨f0.toNat, by omega⟩
    have hf : f ≤ 15 := by omega
    obtain ⟨k1, k2⟩ := okK_fl0 hf
    have hLB := e14 c _ hr k2 ok k1
    rw [left_rcL hr ok hf] at hLB
    have hrl := rcL_len c f
    refine Evt.bind (e8 hr ok) (Evt.bind (e9 hr ok) ?_)
    refine Evt.no (by simp) (Evt.no (by simp) (Evt.bind (e10 c (by omega)) (Evt.no (by simp) (Evt.no (by simp) (Evt.no (by simp) (Evt.no (by simp) ?_))))))
    refine Evt.bind (e11 hr ok (b := 1) (s := sprF (bends c)) (by omega) (by omega) hs.1 (by omega) (spr_bend h0)) (Evt.bind hA ?_)
    have hw : wr .i64 (wr .i64 (2 * (f : Int)) + 1) = ((2 * f + 1 : Nat) : Int) := by rw [wrap_id (x := 2 * (f : Int)) (by omega) (by omega), wrap_id (by omega) (by omega)]; omega
    simp only [hw]
    refine Evt.bind (e13 hf) (Evt.bind hLB (Evt.bind (e15 hr ok (f := f) (by omega)) (Evt.bind (e16 hr ok (f := f) (by omega)) ?_)))
    refine Evt.no (by simp) (Evt.no (by simp) (Evt.no (by simp) (Evt.no (by simp) (Evt.no (by simp) (Evt.bind (e10 (rcL c f) (by omega)) (Evt.no (by simp) (Evt.bind (e10 (rcL c f) (by omega)) (Evt.no (by simp) ?_))))))))
    obtain ⟨K, hK, SK⟩ := e17 hy (by omega)
    have hrK := SK.rng
    have hcK := skCode_ok (by have := SK.1; omega) SK.good
    have hcl := csR_small K 9
    refine Evt.bind hK (Evt.bind (e18 K hrK 9) (Evt.bind (e19 K hrK 9) (Evt.bind (e20 hrK hcK) ?_)))
    refine Evt.no (by simp) (Evt.bind (e21 (csR K 9).1 (by omega) (by omega) (by omega)) (Evt.no (by simp) (Evt.no (by simp) ?_)))
    rcases csR_cases SK (most := 9) (by omega) (by omega) with ⟨e1, e2⟩ | ⟨e1, hl, e2⟩
    · refine Evt.yes (by rw [e2]; rfl) ((Evt.some _).of_eq fun n => ?_)
      rw [e2]; rfl
    · have M := cmpM SK (most := 9) (by omega) (by omega) hl
      rw [e2]
      generalize hmm : mfR (plP (9 : Int).toNat K) (max 8 (plP (9 : Int).toNat K).length) = m at M
      generalize hll : plP (9 : Int).toNat K = l at *
      have hml := M.mlen
      have hlen := M.len
      have G := goodM M.ok
      have lm := okC_len G.x
      have hxy := G.xy
      have hxp := G.xp
      have hsl : (stopsM m).length = m.1.length := by simp [stopsM]
      have hD := e22 m M.rng
      have hDm : dmR m = (plt (drK K), 0, ()) := by unfold dmR; rw [if_pos M.ok, M.draw]
      rw [hDm] at hD
      obtain ⟨o1, o2⟩ := sfM_ok M.rng G
      have hsm : Small (sfM m) := ⟨by simp [sfM], fun s hs => by
        simp only [sfM, List.mem_cons, List.not_mem_nil, or_false] at hs
        rcases hs with rfl | rfl | rfl
        · show (m.1.length : Int) ≤ 140737488351232; omega
        · show (m.2.1.length : Int) ≤ 140737488351232; omega
        · show (m.2.2.1.length : Int) ≤ 140737488351232; omega⟩
      refine Evt.no (by simp) (Evt.bind hD (Evt.bind (e23 M.rng M.ok) (Evt.bind (e24 hsm o2) ?_)))
      refine Evt.no (by simp) (Evt.no (by simp) (Evt.no (by simp) (Evt.no (by simp) (Evt.no (by simp [hsl]) ?_))))
      refine for_evt' 0 ((stopsM m).length : Int) (fun i (_ : Unit) => (stopsM m, sfM m, (m.1.length : Int), i, ())) (fun _ _ => True) (b0 := ()) rfl (by omega) trivial ?_ ?_
      · intro i _ h2 h3 _
        obtain ⟨t, rfl⟩ : ∃ t : Nat, i = t := ⟨i.toNat, by omega⟩
        have ht : t < m.1.length := by omega
        have hs := stopsM_at m ht
        have hL := e25 hsm o1 (t := (t : Int) + m.1.length) (by omega) (by omega)
        have eL : (sfM m).map (lift · ((t : Int) + m.1.length)) = [g m.1 t, g m.2.1 t, g m.2.2.1 t] := by
          have q1 := lift_one G.x M.rng.x ht
          have q2 := lift_one G.y M.rng.y (t := t) (by omega)
          have q3 := lift_one G.p M.rng.p (t := t) (by omega)
          rw [← hxy] at q2
          rw [← hxp] at q3
          simp only [sfM, List.map_cons, List.map_nil, q1, q2, q3]
        rw [eL] at hL
        have w1 : wr .i64 (g m.1 t) = g m.1 t := M.rng.x.id (g_mem ht)
        have w2 : wr .i64 (g m.2.1 t) = g m.2.1 t := M.rng.y.id (g_mem (by omega))
        refine Round.yes (decide_eq_true h3) ?_
        simp only [wrap_id (x := (t : Int) + (m.1.length : Int)) (by omega) (by omega)]
        refine Round.bind hL (Round.no (by simp) (Round.no (by simp) (Round.chk rfl (Round.at (v := g m.1 t) rfl (Round.at hs.idx (Round.at (v := g m.1 t) rfl (Round.no (by simp [w1]) ?_)))))))
        refine Round.chk rfl (Round.at (v := g m.2.1 t) rfl (Round.at hs.idx (Round.at (v := g m.2.1 t) rfl (Round.no (by simp [w2]) ?_))))
        refine Round.chk rfl (Round.at (v := g m.2.2.1 t) rfl (Round.at hs.idx (Round.no (by simp [stopM]) (Round.again _ ⟨(), ?_, trivial⟩))))
        rw [wr_succ h2 h3 (by omega)]
      · intro _ _
        exact Round.no (by simp) (Round.done (Evt.some _))

end Go.Cams.YtjfkgmidnjiofaaGreatLTo
