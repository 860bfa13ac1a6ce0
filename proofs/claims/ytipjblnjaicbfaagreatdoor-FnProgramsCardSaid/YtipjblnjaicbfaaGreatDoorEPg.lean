/- What the functions that the law reaches come to. -/
import Derived.Test.YtipjblnjaicbfaaGreatDoorRPg
import Derived.Test.YtipjblnjaicbfaaGreatDoorPuAll
namespace Go.Cams.YtipjblnjaicbfaaGreatDoorLPg
open Go Go.Fw Go.Proofs Go.Proofs.YtipjblnjaicbfaaGreatDoor.LPg
/- laws.a2Long -/
theorem e28 (a b : List Int) : Evt (fun n => call T C n 28 (a, b, ())) ((decide ((a.length : Int) > 3000) || decide ((b.length : Int) > 3000), ()), ()) := by
  refine Evt.next ?_ (fun n => r28 n a b)
  cases decide ((a.length : Int) > 3000) with
  | true => exact Evt.yes rfl (Evt.some _)
  | false => exact Evt.no (by simp) (Evt.some _)
/- spec.l00From -/
theorem e63 (a : List Int) : Evt (fun n => call T C n 63 (a, ())) (((a, 0, 0, ()), ()), ()) := Evt.next (Evt.some _) (fun n => r63 n a)
/- (*spec.l00Src).next -/
theorem e157 {k : Int} {s : Src} (h : SrcAt k s) (hk : k ≤ 1000000000000) : ∃ (v : Int) (s' : Src), Evt (fun n => call T C n 157 (s, ())) ((v, ()), (s', ())) ∧ 0 ≤ v ∧ v ≤ 255 ∧ SrcAt (k + 1) s' := by
  obtain ⟨h1, h2, h3, h4⟩ := h
  have hw : wr .i64 (s.2.1 + 1) = s.2.1 + 1 := wrap_id (by omega) (by omega)
  by_cases hp : s.2.1 < (s.1.length : Int)
  · obtain ⟨v, hv⟩ := at_of h3 hp
    have hb := h1 v hv.mem
    have ev : wr .i64 v = v := wrap_id (by omega) (by omega)
    obtain ⟨z, hz⟩ : ∃ z, z = wr .u64 ((wr .u64 ((wr .u64 (s.2.2.1 * (6364136223846793005 : Int))) + (wr .u64 (wr .i64 v)))) + (1442695040888963407 : Int)) := ⟨_, rfl⟩
    refine ⟨v, (s.1, s.2.1 + 1, z, ()), Evt.next (Evt.yes (decide_eq_true hp) (Evt.at hv.idx (Evt.yes (decide_eq_true (by rw [hw]; omega)) ((Evt.some _).of_eq fun n => ?_)))) (fun n => r157 n s), hb.1, hb.2, h1, h2, by show 0 ≤ s.2.1 + 1; omega, by show s.2.1 + 1 ≤ k + 1; omega⟩
    rw [← hz, hw, ev]
    rfl
  · obtain ⟨z, hz⟩ : ∃ z, z = wr .u64 ((wr .u64 ((wr .u64 (s.2.2.1 * (6364136223846793005 : Int))) + (wr .u64 (0 : Int)))) + (1442695040888963407 : Int)) := ⟨_, rfl⟩
    have hzb : 0 ≤ z ∧ z < 18446744073709551616 := by rw [hz]; exact wrap_u64 _
    obtain ⟨y, rfl⟩ : ∃ y : Nat, z = y := ⟨z.toNat, by omega⟩
    have hval : wr .i64 (bitsI .and .u64 (shr_ .u64 (y : Int) (40 : Int)) (255 : Int)) = ((y / 2 ^ 40 % 256 : Nat) : Int) := by
      rw [show (40 : Int) = ((40 : Nat) : Int) from rfl, shr_nat (by omega), and_255 (Nat.lt_of_le_of_lt (Nat.div_le_self _ _) (by omega))]
      have := Nat.mod_lt (y / 2 ^ 40) (show 0 < 256 by omega)
      exact wrap_id (by omega) (by omega)
    have hm := Nat.mod_lt (y / 2 ^ 40) (show 0 < 256 by omega)
    refine ⟨((y / 2 ^ 40 % 256 : Nat) : Int), (s.1, s.2.1 + 1, (y : Int), ()), Evt.next (Evt.no (by simpa using hp) (Evt.no (by rw [hw]; simp; omega) (Evt.chk rfl ((Evt.some _).of_eq fun n => ?_)))) (fun n => r157 n s), by omega, by omega, h1, h2, by show 0 ≤ s.2.1 + 1; omega, by show s.2.1 + 1 ≤ k + 1; omega⟩
    rw [← hz, hw, hval]
    rfl
/- (*spec.l00Src).pick -/
theorem e72 {k : Int} {s : Src} (h : SrcAt k s) (hk : k ≤ 999999999000) {m : Int} (m1 : 1 ≤ m) (m2 : m ≤ 1000000) : ∃ (v : Int) (s' : Src), Evt (fun n => call T C n 72 (s, m, ())) ((v, ()), (s', ())) ∧ 0 ≤ v ∧ v < m ∧ SrcAt (k + 2) s' := by
  by_cases hm : m ≤ 1
  · exact ⟨0, s, Evt.next (Evt.yes (decide_eq_true hm) (Evt.some _)) (fun n => r72 n s m), by omega, by omega, h.mono (by omega)⟩
  · obtain ⟨v, s1, hE, v0, v1, hs1⟩ := e157 h (by omega)
    by_cases hb : m > 200
    · obtain ⟨u, s2, hE2, u0, u1, hs2⟩ := e157 hs1 (by omega)
      have hx : wr .i64 (wr .i64 (v * 256) + u) = v * 256 + u := by rw [wrap_id (x := v * 256) (by omega) (by omega), wrap_id (by omega) (by omega)]
      have ht0 := Int.tmod_nonneg m (show 0 ≤ v * 256 + u by omega)
      have ht1 := Int.tmod_lt_of_pos (v * 256 + u) (show 0 < m by omega)
      refine ⟨Int.tmod (v * 256 + u) m, s2, Evt.next (Evt.no (by simpa using hm) (Evt.bind hE (Evt.yes (decide_eq_true hb) (Evt.bind hE2 (Evt.chk (bne_pos (by omega)) ((Evt.some _).of_eq fun n => ?_)))))) (fun n => r72 n s m), ht0, ht1, hs2.mono (by omega)⟩
      rw [hx]
      rfl
    · have ht0 := Int.tmod_nonneg m v0
      have ht1 := Int.tmod_lt_of_pos v (show 0 < m by omega)
      exact ⟨Int.tmod v m, s1, Evt.next (Evt.no (by simpa using hm) (Evt.bind hE (Evt.no (by simpa using hb) (Evt.chk (bne_pos (by omega)) (Evt.some _))))) (fun n => r72 n s m), ht0, ht1, hs1.mono (by omega)⟩
/- (*spec.l00Src).one -/
theorem e151 {k : Int} {s : Src} (h : SrcAt k s) (hk : k ≤ 999999999000) {m : Int} (m1 : 1 ≤ m) (m2 : m ≤ 1000000) : ∃ (b : Bool) (s' : Src), Evt (fun n => call T C n 151 (s, m, ())) ((b, ()), (s', ())) ∧ SrcAt (k + 2) s' := by
  obtain ⟨v, s1, hE, v0, v1, hs1⟩ := e72 h hk m1 m2
  exact ⟨v == 0, s1, Evt.next (Evt.bind hE (Evt.some _)) (fun n => r151 n s m), hs1⟩
/- spec.l02Drawn -/
theorem e96 {k : Int} {s : Src} (h : SrcAt k s) (hk : k ≤ 999999990000) : ∃ (p : Prg) (s' : Src), Evt (fun n => call T C n 96 (s, ())) ((p, ()), (s', ())) ∧ SmPg p ∧ SrcAt (k + 100) s' := by
  obtain ⟨t, s1, hE1, t0, t1, hs1⟩ := e72 h (by omega) (m := 30) (by omega) (by omega)
  obtain ⟨c, s2, hE2, c0, c1, hs2⟩ := e72 hs1 (by omega) (m := 4) (by omega) (by omega)
  have key : EvtX (fun n => call T C n 96 (s, ())) (fun y => SmPg y.1.1 ∧ SrcAt (k + 100) y.2.1) := by
    refine EvtX.next (EvtX.bind hE1 (EvtX.bind hE2 ?_)) (fun n => r96 n s)
    refine EvtX.loop (fun x => ∃ (src : Src) (L : List Ct) (m : Nat), x = (src, (0, [], ()), (t, L, ()), sumM L, (m : Int), ()) ∧ m ≤ 5 ∧ SrcAt (k + 4 + 8 * (5 - m)) src ∧ (∀ v ∈ L, MoSm v) ∧ (L.length : Int) + m ≤ 5 ∧ 2 ≤ (L.length : Int) + m) (fun x => x.2.2.2.2.1.toNat)
      ⟨s2, [], (2 + c).toNat, ?_, by omega, hs2.mono (by omega), by simp, by simp; omega, by simp; omega⟩ ?_
    · show (s2, _, (wr .i16 t, _, ()), _, wr .i64 (2 + c), ()) = _
      rw [wrap16 (x := t) (by omega) (by omega), wrap_id (x := 2 + c) (by omega) (by omega), show (((2 + c).toNat : Nat) : Int) = 2 + c by omega]
      rfl
    rintro x ⟨src, L, m, rfl, hm, hsrc, hL, hn1, hn2⟩
    have hsm := sumM_sm L hL
    by_cases h0 : 0 < m
    · right
      obtain ⟨a, a1, hA, a0, al, hs3⟩ := e72 hsrc (by omega) (m := 4) (by omega) (by omega)
      obtain ⟨b, b1, hB, b0, bl, hs4⟩ := e72 hs3 (by omega) (m := 9) (by omega) (by omega)
      obtain ⟨d, d1, hD, d0, dl, hs5⟩ := e72 hs4 (by omega) (m := 60) (by omega) (by omega)
      obtain ⟨o, o1, hO, hs6⟩ := e151 hs5 (by omega) (m := 3) (by omega) (by omega)
      have ea : wr .i8 a = a := wr_i8 (by omega) (by omega)
      have eb : wr .i16 (wr .i64 (1 + b)) = 1 + b := by rw [wrap_id (x := 1 + b) (by omega) (by omega), wrap16 (by omega) (by omega)]
      have ed : wr .i16 d = d := wrap16 (by omega) (by omega)
      have es : wr .i64 (sumM L + wr .i64 (1 + b)) = sumM L + (1 + b) := by rw [wrap_id (x := 1 + b) (by omega) (by omega), wrap_id (by omega) (by omega)]
      have em : wr .i64 ((m : Int) - 1) = ((m - 1 : Nat) : Int) := by rw [wrap_id (by omega) (by omega)]; omega
      have next : ∀ w, 0 ≤ w → w ≤ 59 → ∃ (src : Src) (L' : List Ct) (m' : Nat), ((o1, (0, [], ()), (t, L ++ [(a, 1 + b, w, ())], ()), sumM L + (1 + b), ((m - 1 : Nat) : Int), ()) : Src × Prg × Prg × Int × Int × Unit) = (src, (0, [], ()), (t, L', ()), sumM L', (m' : Int), ()) ∧ m' ≤ 5 ∧ SrcAt (k + 4 + 8 * (5 - m')) src ∧ (∀ v ∈ L', MoSm v) ∧ (L'.length : Int) + m' ≤ 5 ∧ 2 ≤ (L'.length : Int) + m' := fun w w0 w1 => by
        refine ⟨o1, L ++ [(a, 1 + b, w, ())], m - 1, by rw [sumM_snoc], by omega, hs6.mono (by omega), fun v hv => ?_, by simp; omega, by simp; omega⟩
        rcases List.mem_append.1 hv with hv | hv
        · exact hL v hv
        · simp at hv; rw [hv]; unfold MoSm; simp only; omega
      have hlen : ((L.length + 1) * 6 : Int) ≤ 140737488355328 := by omega
      by_cases ho : o = true ∧ 0 < L.length
      · obtain ⟨ho, hl⟩ := ho
        obtain ⟨M, v, rfl⟩ := last_split hl
        have hvm := hL v (by simp)
        have hi : wr .i64 (((M ++ [v]).length : Int) - 1) = (M.length : Int) := by rw [wrap_id (by omega) (by omega)]; simp
        have hg : (M ++ [v])[((M.length : Int)).toNat]? = some v := by simp
        refine ⟨(o1, (0, [], ()), (t, (M ++ [v]) ++ [(a, 1 + b, v.2.2.1, ())], ()), sumM (M ++ [v]) + (1 + b), ((m - 1 : Nat) : Int), ()), next _ hvm.2.2.1 hvm.2.2.2, ?_, fun y => ?_⟩
        · show ((m - 1 : Nat) : Int).toNat < (m : Int).toNat
          omega
        · refine Round.yes (decide_eq_true (show (m : Int) > 0 by omega)) (Round.bind hA (Round.bind hB (Round.bind hD (Round.bind hO (Round.yes ho (Round.yes (by simp) ?_))))))
          simp only [hi]
          refine Round.chk (decide_eq_true (by simp; omega)) (Round.at hg (Round.chk (decide_eq_true (by simp only [List.length_cons, List.length_nil]; omega)) (Round.again _ ?_)))
          rw [ea, eb, em, wrap_id (x := 1 + b) (by omega) (by omega), wrap_id (x := sumM (M ++ [v]) + (1 + b)) (by omega) (by omega)]
      · refine ⟨(o1, (0, [], ()), (t, L ++ [(a, 1 + b, d, ())], ()), sumM L + (1 + b), ((m - 1 : Nat) : Int), ()), next _ d0 (by omega), ?_, fun y => ?_⟩
        · show ((m - 1 : Nat) : Int).toNat < (m : Int).toNat
          omega
        · refine Round.yes (decide_eq_true (show (m : Int) > 0 by omega)) (Round.bind hA (Round.bind hB (Round.bind hD (Round.bind hO ?_))))
          have fin : ∀ {z}, z = ((o1, (0, [], ()), (t, L ++ [(a, 1 + b, d, ())], ()), sumM L + (1 + b), ((m - 1 : Nat) : Int), ()) : Src × Prg × Prg × Int × Int × Unit) → z = z := fun _ => rfl
          cases o with
          | true =>
            have hl : L.length = 0 := by
              apply Classical.byContradiction
              intro hx
              exact ho ⟨rfl, by omega⟩
            refine Round.yes rfl (Round.no (by simp [hl]) (Round.chk (decide_eq_true (by simp only [List.length_cons, List.length_nil]; omega)) (Round.again _ ?_)))
            rw [ea, eb, ed, em, wrap_id (x := 1 + b) (by omega) (by omega), wrap_id (x := sumM L + (1 + b)) (by omega) (by omega)]
          | false =>
            refine Round.no (by simp) (Round.chk (decide_eq_true (by simp only [List.length_cons, List.length_nil]; omega)) (Round.again _ ?_))
            rw [ea, eb, ed, em, wrap_id (x := 1 + b) (by omega) (by omega), wrap_id (x := sumM L + (1 + b)) (by omega) (by omega)]
    · left
      have hm0 : m = 0 := by omega
      subst hm0
      obtain ⟨M, v, rfl⟩ := last_split (L := L) (by omega)
      have hvm := hL v (by simp)
      obtain ⟨⟨v1, v2⟩, ⟨v3, v4⟩, v5, v6⟩ := hvm
      have hMs : ∀ u ∈ M, MoSm u := fun u hu => hL u (by simp [hu])
      have hsM := sumM_sm M hMs
      rw [sumM_snoc] at hsm
      have hlM : ((M ++ [v]).length : Int) = M.length + 1 := by simp
      have hi : wr .i64 (((M ++ [v]).length : Int) - 1) = (M.length : Int) := by rw [wrap_id (by omega) (by omega)]; simp
      have hg : (M ++ [v])[((M.length : Int)).toNat]? = some v := by simp
      have hset : ∀ u w : Ct, (M ++ [u]).set ((M.length : Int)).toNat w = M ++ [w] := fun u w => by simp
      have hg2 : ∀ u : Ct, (M ++ [u])[((M.length : Int)).toNat]? = some u := fun u => by simp
      by_cases h8 : sumM (M ++ [v]) < 8
      · refine ⟨(((t, M ++ [(v.1, v.2.1 + (8 - sumM (M ++ [v])), t, ())], ()), ()), (src, ())), ⟨?_, hsrc.mono (by omega)⟩, ?_⟩
        · rw [sumM_snoc] at h8 ⊢
          exact smPg t0 (by omega) hMs (by omega) v1 v2 (by omega) (by omega) (by omega) (by omega)
        · refine Round.no (by simp) ?_
          simp only [hi]
          refine Round.chk (decide_eq_true (show 0 ≤ (M.length : Int) ∧ (M.length : Int) < ((M ++ [v]).length : Int) by omega)) (Round.at hg (Round.yes (decide_eq_true h8) ?_))
          simp only [hset]
          refine Round.at (hg2 _) (Round.at (hg2 _) (Round.done ((Evt.some _).of_eq fun n => ?_)))
          rw [sumM_snoc] at h8 ⊢
          simp only [hset]
          rw [wrap_id (x := 8 - (sumM M + v.2.1)) (by omega) (by omega), wrap16 (x := 8 - (sumM M + v.2.1)) (by omega) (by omega), wrap16 (x := v.2.1 + (8 - (sumM M + v.2.1))) (by omega) (by omega)]
          rfl
      · refine ⟨(((t, M ++ [(v.1, v.2.1, t, ())], ()), ()), (src, ())), ⟨?_, hsrc.mono (by omega)⟩, ?_⟩
        · rw [sumM_snoc] at h8
          exact smPg t0 (by omega) hMs (by omega) v1 v2 (by omega) (by omega) (by omega) (by omega)
        · refine Round.no (by simp) ?_
          simp only [hi]
          refine Round.chk (decide_eq_true (show 0 ≤ (M.length : Int) ∧ (M.length : Int) < ((M ++ [v]).length : Int) by omega)) (Round.at hg (Round.no (by simpa using h8) (Round.done ((Evt.some _).of_eq fun n => ?_))))
          simp only [hset]
          rfl
  obtain ⟨⟨⟨p, _⟩, s', _⟩, ⟨h1, h2⟩, hE⟩ := key
  exact ⟨p, s', hE, h1, h2⟩
/- spec.A2Program -/
theorem e29 {b : List Int} (hb : ∀ v ∈ b, 0 ≤ v ∧ v ≤ 255) (hl : (b.length : Int) ≤ 3000) : ∃ p : Prg, Evt (fun n => call T C n 29 (b, ())) ((p, ()), ()) ∧ SmPg p := by
  obtain ⟨p, s', hE, S, _⟩ := e96 (k := 0) (s := (b, 0, 0, ())) ⟨hb, by show (b.length : Int) ≤ _; omega, by show (0 : Int) ≤ 0; omega, by show (0 : Int) ≤ 0; omega⟩ (by omega)
  exact ⟨p, Evt.next (Evt.bind (e63 b) (Evt.bind hE (Evt.some ((p, ()), ())))) (fun n => r29 n b), S⟩
/- impl.inRange -/
theorem e103 (a b c : Int) : Evt (fun n => call T C n 103 (a, b, c, ())) ((inR a b c, ()), ()) := by
  refine Evt.next ?_ (fun n => r103 n a b c)
  refine Evt.ite (fun h => ?_) (fun h => ?_)
  · refine (Evt.some _).of_eq fun n => ?_
    have h : b ≤ a := of_decide_eq_true h
    simp [inR, h]
    rfl
  · refine (Evt.some _).of_eq fun n => ?_
    have h : ¬ b ≤ a := by simpa using h
    simp [inR, h]
    rfl
/- impl.isLift -/
theorem e102 (a : Int) : Evt (fun n => call T C n 102 (a, ())) ((inR a 0 10000, ()), ()) := Evt.next (Evt.bind (e103 a 0 10000) (Evt.some _)) (fun n => r102 n a)
/- impl.isLaw -/
theorem e111 (w : Int) : Evt (fun n => call T C n 111 (w, ())) ((inR w 0 3, ()), ()) := Evt.next (Evt.bind (e103 _ _ _) (Evt.some _)) (fun n => r111 n w)
/- impl.ValidProgram$1 -/
theorem e110 (v : Ct) : Evt (fun n => call T C n 110 (v, ())) ((!moOk v, ()), ()) := by
  refine Evt.next (Evt.bind (e111 _) ?_) (fun n => r110 n v)
  unfold moOk
  cases inR (wr .i64 v.1) 0 3 with
  | false => exact Evt.yes rfl (Evt.some _)
  | true =>
    refine Evt.no (by simp) ?_
    cases decide (v.2.1 < 1) with
    | true => exact Evt.yes rfl (Evt.some _)
    | false => exact Evt.no (by simp) (Evt.bind (e102 _) (Evt.some _))
/- slices.IndexFunc[[]impl.Motion,impl.Motion]{impl.ValidProgram$1} -/
theorem e180 (l : List Ct) (hr : RngMo l) : Evt (fun n => call T C n 180 (l, ((), ()), ())) ((fi (fun v => !moOk v) l 0, ()), ()) := by
  have hl : (l.length : Int) ≤ 140737488351232 := by have := hr.len'; omega
  refine Evt.next ?_ (fun n => r180 n l ((), ()))
  refine for_evt' 0 (l.length : Int) (fun i (_ : Unit) => (l, ((), ()), (l.length : Int), i, ())) (fun i _ => fi (fun v => !moOk v) l 0 = fi (fun v => !moOk v) (l.drop i.toNat) i) (b0 := ()) rfl (by omega) (by simp) ?_ ?_
  · intro i _ h2 h3 hp
    obtain ⟨v, hv⟩ := at_of h2 h3
    rw [hv.drop] at hp
    simp only [fi] at hp
    refine Round.yes (decide_eq_true h3) (Round.at hv.idx (Round.bind (e110 v) ?_))
    cases hb : !moOk v with
    | true =>
      simp only [hb, if_true] at hp
      rw [hp]
      exact Round.yes rfl (Round.done (Evt.some _))
    | false =>
      simp only [hb, Bool.false_eq_true, if_false] at hp
      exact Round.no (by simp) (Round.again _ ⟨(), by rw [wr_succ h2 h3 (by omega)], hp⟩)
  · intro _ hp
    rw [drop_all] at hp
    rw [hp]
    exact Round.no (by simp) (Round.done (Evt.some _))
/- slices.ContainsFunc[[]impl.Motion,impl.Motion]{impl.ValidProgram$1} -/
theorem e109 (l : List Ct) (hr : RngMo l) : Evt (fun n => call T C n 109 (l, ((), ()), ())) ((l.any (fun v => !moOk v), ()), ()) := by
  refine Evt.next (Evt.bind (e180 l hr) ((Evt.some _).of_eq fun n => ?_)) (fun n => r109 n l ((), ()))
  simp only [fi_any _ l 0 (Int.le_refl _)]
  rfl
/- (impl.Program).steps -/
theorem e100 (p : Prg) (hr : RngPg p) (hn : (p.2.1.length : Int) ≤ 24) : Evt (fun n => call T C n 100 (p, ())) ((sumM p.2.1, ()), ()) := by
  have hb := sumM_take hr.m hn
  refine Evt.next ?_ (fun n => r100 n p)
  refine for_evt' 0 (p.2.1.length : Int) (fun i (_ : Unit) => (sumM (p.2.1.take i.toNat), p.2.1, (p.2.1.length : Int), i, ())) (fun _ _ => True) (b0 := ()) (by simp [sumM]) (by omega) trivial ?_ ?_
  · intro i _ h3 h4 _
    obtain ⟨v, hv⟩ := at_of h3 h4
    have hrv := hr.m.el v hv.mem
    have hbi := hb i.toNat
    refine Round.yes (decide_eq_true h4) (Round.at hv.idx (Round.again _ ⟨(), ?_, trivial⟩))
    rw [hr.m.i2 hv.mem, wrap_id (x := sumM (p.2.1.take i.toNat) + v.2.1) (by omega) (by omega), hv.take, sumM_snoc, wr_succ h3 h4 (by omega)]
  · intro _ _
    simp only [take_all]
    exact Round.no (by simp) (Round.done (Evt.some _))
/- impl.isSteps -/
theorem e112 (a : Int) : Evt (fun n => call T C n 112 (a, ())) ((inR a 8 360, ()), ()) := Evt.next (Evt.bind (e103 a 8 360) (Evt.some _)) (fun n => r112 n a)
/- impl.ValidProgram -/
theorem e38 (p : Prg) (hr : RngPg p) : Evt (fun n => call T C n 38 (p, ())) ((okPg p, ()), ()) := by
  refine Evt.next (Evt.bind (e103 _ _ _) ?_) (fun n => r38 n p)
  unfold okPg
  cases h1 : inR (p.2.1.length : Int) 1 24 with
  | false => exact Evt.yes rfl (Evt.some _)
  | true =>
    have hn := inR_iff.1 h1
    refine Evt.no (by simp) (Evt.bind (e102 _) ?_)
    cases h2 : inR (wr .i64 p.1) 0 10000 with
    | false => exact Evt.yes rfl (Evt.some _)
    | true =>
      refine Evt.no (by simp) (Evt.bind (e109 p.2.1 hr.m) ?_)
      have ha : p.2.1.all moOk = !p.2.1.any (fun v => !moOk v) := by simp [List.any_eq_not_all_not]
      rw [ha]
      cases p.2.1.any (fun v => !moOk v) with
      | true => exact Evt.no (by simp) (Evt.some _)
      | false =>
        refine Evt.yes rfl (Evt.bind (e100 p hr hn.2) (Evt.bind (e112 _) ?_))
        cases k4 : inR (sumM p.2.1) 8 360 with
        | false => exact Evt.no (by simp) (Evt.some _)
        | true =>
          obtain ⟨v, hv⟩ := at_of (l := p.2.1) (i := (p.2.1.length : Int) - 1) (by omega) (by omega)
          have hl : lastT p.2.1 = v.2.2.1 := by unfold lastT; rw [hv.idx]; rfl
          refine Evt.yes rfl ?_
          simp only [wrap_id (x := (p.2.1.length : Int) - 1) (by omega) (by omega)]
          refine Evt.at hv.idx ?_
          rw [hl]
          exact Evt.some _
/- impl.shape -/
theorem e182 {w k n : Int} (w0 : 0 ≤ w) (w1 : w ≤ 3) (k0 : 0 ≤ k) (k1 : k ≤ n) (n1 : n ≤ 360) : Evt (fun m => call T C m 182 (w, k, n, ())) ((shN w k n, shD w n, ()), ()) := by
  refine Evt.next ?_ (fun m => r182 m w k n)
  have W : ∀ x : Int, -9000000000000000000 ≤ x → x ≤ 9000000000000000000 → wr .i64 x = x := fun x a b => wrap_id (by omega) (by omega)
  have q2 := mulB (show 0 ≤ n by omega) n1 (show 0 ≤ n by omega) n1
  have q3 := mulB q2.1 q2.2 (show 0 ≤ n by omega) n1
  have q4 := mulB q3.1 q3.2 (show 0 ≤ n by omega) n1
  have q5 := mulB q4.1 q4.2 (show 0 ≤ n by omega) n1
  have kk := mulB (show 0 ≤ 2 * k by omega) (show 2 * k ≤ 720 by omega) k0 (show k ≤ 360 by omega)
  have dd := mulB (show 0 ≤ 2 * (n - k) by omega) (show 2 * (n - k) ≤ 720 by omega) (show 0 ≤ n - k by omega) (show n - k ≤ 360 by omega)
  have k3 := mulB (show 0 ≤ 3 * k by omega) (show 3 * k ≤ 1080 by omega) k0 (show k ≤ 360 by omega)
  have k3n := mulB k3.1 k3.2 (show 0 ≤ n by omega) n1
  have kkk := mulB kk.1 kk.2 k0 (show k ≤ 360 by omega)
  have c2 := mulB k0 (show k ≤ 360 by omega) k0 (show k ≤ 360 by omega)
  have c3 := mulB c2.1 c2.2 k0 (show k ≤ 360 by omega)
  have e1 := mulB (show 0 ≤ 10 * n by omega) (show 10 * n ≤ 3600 by omega) (show 0 ≤ n by omega) n1
  have e2 := mulB (show 0 ≤ 15 * k by omega) (show 15 * k ≤ 5400 by omega) (show 0 ≤ n by omega) n1
  have e3 := mulB (show 0 ≤ 6 * k by omega) (show 6 * k ≤ 2160 by omega) k0 (show k ≤ 360 by omega)
  have a1 : k * k * k * (-1944000) ≤ k * k * k * (10 * n * n - 15 * k * n + 6 * k * k) := Int.mul_le_mul_of_nonneg_left (by omega) c3.1
  have a2 : k * k * k * (10 * n * n - 15 * k * n + 6 * k * k) ≤ k * k * k * 2073600 := Int.mul_le_mul_of_nonneg_left (by omega) c3.1
  have one : Evt (fun _ => if decide (wr .i64 (2 * k) ≤ n) = true then some ((wr .i64 (wr .i64 (2 * k) * k), wr .i64 (n * n), ()), ()) else some ((wr .i64 (wr .i64 (n * n) - wr .i64 (wr .i64 (2 * wr .i64 (n - k)) * wr .i64 (n - k))), wr .i64 (n * n), ()), ())) ((shN 1 k n, shD 1 n, ()), ()) := by
    rw [W (2 * k) (by omega) (by omega), W (2 * k * k) (by omega) (by omega), W (n * n) (by omega) (by omega), W (n - k) (by omega) (by omega), W (2 * (n - k)) (by omega) (by omega), W (2 * (n - k) * (n - k)) (by omega) (by omega), W (n * n - 2 * (n - k) * (n - k)) (by omega) (by omega)]
    refine Evt.ite (fun h => ?_) (fun h => ?_)
    · have : shN 1 k n = 2 * k * k := by unfold shN; rw [if_pos rfl, if_pos (of_decide_eq_true h)]
      rw [this]; exact Evt.some _
    · have : shN 1 k n = n * n - 2 * (n - k) * (n - k) := by unfold shN; rw [if_pos rfl, if_neg (by simpa using h)]
      rw [this]; exact Evt.some _
  have two : Evt (fun _ => some ((wr .i64 (wr .i64 (wr .i64 (wr .i64 (3 * k) * k) * n) - wr .i64 (wr .i64 (wr .i64 (2 * k) * k) * k)), wr .i64 (wr .i64 (n * n) * n), ()), ())) ((shN 2 k n, shD 2 n, ()), ()) := by
    rw [W (3 * k) (by omega) (by omega), W (3 * k * k) (by omega) (by omega), W (3 * k * k * n) (by omega) (by omega), W (2 * k) (by omega) (by omega), W (2 * k * k) (by omega) (by omega), W (2 * k * k * k) (by omega) (by omega), W (3 * k * k * n - 2 * k * k * k) (by omega) (by omega), W (n * n) (by omega) (by omega), W (n * n * n) (by omega) (by omega)]
    exact Evt.some _
  have three : Evt (fun _ => some ((wr .i64 (wr .i64 (wr .i64 (k * k) * k) * wr .i64 (wr .i64 (wr .i64 (wr .i64 (10 * n) * n) - wr .i64 (wr .i64 (15 * k) * n)) + wr .i64 (wr .i64 (6 * k) * k))), wr .i64 (wr .i64 (wr .i64 (wr .i64 (n * n) * n) * n) * n), ()), ())) ((shN 3 k n, shD 3 n, ()), ()) := by
    rw [W (k * k) (by omega) (by omega), W (k * k * k) (by omega) (by omega), W (10 * n) (by omega) (by omega), W (10 * n * n) (by omega) (by omega), W (15 * k) (by omega) (by omega), W (15 * k * n) (by omega) (by omega), W (10 * n * n - 15 * k * n) (by omega) (by omega), W (6 * k) (by omega) (by omega), W (6 * k * k) (by omega) (by omega), W (10 * n * n - 15 * k * n + 6 * k * k) (by omega) (by omega), W (k * k * k * (10 * n * n - 15 * k * n + 6 * k * k)) (by omega) (by omega), W (n * n) (by omega) (by omega), W (n * n * n) (by omega) (by omega), W (n * n * n * n) (by omega) (by omega), W (n * n * n * n * n) (by omega) (by omega)]
    exact Evt.some _
  rcases (show w = 0 ∨ w = 1 ∨ w = 2 ∨ w = 3 by omega) with rfl | rfl | rfl | rfl
  · exact Evt.yes rfl (Evt.some _)
  · exact Evt.no (by decide) (Evt.yes rfl one)
  · exact Evt.no (by decide) (Evt.no (by decide) (Evt.yes rfl two))
  · exact Evt.no (by decide) (Evt.no (by decide) (Evt.no (by decide) three))
/- impl.floorDiv -/
theorem e187 {a b : Int} (hb : 0 < b) (h1 : -4500000000000000000 ≤ a) (h2 : a ≤ 4500000000000000000) : Evt (fun n => call T C n 187 (a, b, ())) ((a / b, ()), ()) := by
  have hbd := ediv_bd hb h1 h2 (by omega)
  have he := floorDiv_eq (a := a) hb
  refine Evt.next (Evt.chk (bne_pos hb) (Evt.chk (bne_pos hb) (Evt.ite (fun h => ?_) (fun h => ?_)))) (fun n => r187 n a b)
  · have h : Int.tmod a b < 0 := of_decide_eq_true h
    rw [if_pos h] at he
    refine (Evt.some _).of_eq fun n => ?_
    rw [wrap_id (x := Int.tdiv a b) (by omega) (by omega), wrap_id (by omega) (by omega), he]
    rfl
  · have h : ¬ Int.tmod a b < 0 := by simpa using h
    rw [if_neg h] at he
    refine (Evt.some _).of_eq fun n => ?_
    rw [wrap_id (x := Int.tdiv a b) (by omega) (by omega), he]
    rfl
/- impl.nearest -/
theorem e183 {x n : Int} (hn : 0 < n) (hn' : n ≤ 10000000000000) (h1 : -2000000000000000000 ≤ x) (h2 : x ≤ 2000000000000000000) : Evt (fun m => call T C m 183 (x, n, ())) ((nr x n, ()), ()) := by
  refine Evt.next ?_ (fun m => r183 m x n)
  rw [wrap_id (x := 2 * n) (by omega) (by omega), wrap_id (x := 2 * x) (by omega) (by omega), wrap_id (x := 2 * x + n) (by omega) (by omega)]
  exact Evt.bind (e187 (by omega) (by omega) (by omega)) (Evt.some _)
/- impl.liftIn -/
theorem e119 {f t w k n : Int} (f0 : 0 ≤ f) (f1 : f ≤ 10000) (t0 : 0 ≤ t) (t1 : t ≤ 10000) (w0 : 0 ≤ w) (w1 : w ≤ 3) (k0 : 0 ≤ k) (k1 : k ≤ n) (n0 : 1 ≤ n) (n1 : n ≤ 360) : Evt (fun m => call T C m 119 (f, t, w, k, n, ())) ((liftP f t w k n, ()), ()) := by
  have hd := shD_bd (w := w) n0 n1
  have hb := lift_bd (w := w) f0 f1 t0 t1 k0 k1 n0 n1
  refine Evt.next (Evt.bind (e182 w0 w1 k0 k1 n1) ?_) (fun m => r119 m f t w k n)
  show Evt (fun m => (call T C m 183 (wr .i64 (wr .i64 (f * shD w n) + wr .i64 (wr .i64 (t - f) * shN w k n)), shD w n, ())).bind _) _
  rw [wrap_id (x := f * shD w n) (by omega) (by omega), wrap_id (x := t - f) (by omega) (by omega), wrap_id (x := (t - f) * shN w k n) (by omega) (by omega), wrap_id (x := f * shD w n + (t - f) * shN w k n) (by omega) (by omega)]
  exact Evt.bind (e183 (by omega) (by omega) (by omega) (by omega)) (Evt.some _)
/- (impl.Program).profile -/
theorem e97 {p : Prg} (hr : RngPg p) (hn : (p.2.1.length : Int) ≤ 24) (ht : 0 ≤ p.1 ∧ p.1 ≤ 10000) (hi : ∀ v ∈ p.2.1, MoIn 0 10000 v) : Evt (fun n => call T C n 97 (p, ())) ((proF p.1 p.2.1, ()), ()) := by
  refine Evt.next ?_ (fun n => r97 n p)
  rw [wrap_id (x := p.1) (by omega) (by omega)]
  have hpl : ∀ i : Nat, ((proF p.1 (p.2.1.take i)).length : Int) ≤ 1000000 := fun i => by
    have h1 := proF_len (p.2.1.take i) p.1 fun v hv => (hi v (List.mem_of_mem_take hv)).n.1
    have h2 := sumM_take hr.m hn i
    omega
  refine for_evt' 0 (p.2.1.length : Int) (fun i (_ : Unit) => (proF p.1 (p.2.1.take i.toNat), toF p.1 (p.2.1.take i.toNat), p.2.1, (p.2.1.length : Int), i, ())) (fun _ _ => True) (b0 := ()) (by simp [proF, toF]) (by omega) trivial ?_ ?_
  · intro i _ h2 h3 _
    obtain ⟨v, hv⟩ := at_of h2 h3
    have hm := hi v hv.mem
    have hw := hm.w
    have hn1 := hm.n
    have htt := hm.t
    have hf := toF_in (p.2.1.take i.toNat) (f := p.1) (fun u hu => hi u (List.mem_of_mem_take hu)) ht.1 ht.2
    have hl := hpl i.toNat
    have e2 : wr .i64 v.2.1 = v.2.1 := hr.m.i2 hv.mem
    have e1 : wr .i64 v.1 = v.1 := hr.m.i1 hv.mem
    have e3 : wr .i64 v.2.2.1 = v.2.2.1 := hr.m.i3 hv.mem
    refine Round.yes (decide_eq_true h3) (Round.at hv.idx ?_)
    refine for_round' 0 v.2.1 (fun j (_ : Unit) => (proF p.1 (p.2.1.take i.toNat) ++ (seg (toF p.1 (p.2.1.take i.toNat)) v).take j.toNat, toF p.1 (p.2.1.take i.toNat), v, p.2.1, (p.2.1.length : Int), i, v.2.1, j, ())) (fun _ _ => True) (b0 := ()) (by simp [e2]) (by omega) trivial ?_ ?_
    · intro j _ h4 h5 _
      have hb := liftP_in (f := toF p.1 (p.2.1.take i.toNat)) (t := v.2.2.1) (w := v.1) (k := j) (n := v.2.1) (lo := 0) (hi := 10000) hw.1 hw.2 h4 (by omega) hn1.1 hn1.2 hf.1 hf.2 htt.1 htt.2
      have hsl := seg_len (toF p.1 (p.2.1.take i.toNat)) v
      have hlen : ((proF p.1 (p.2.1.take i.toNat) ++ (seg (toF p.1 (p.2.1.take i.toNat)) v).take j.toNat).length : Int) ≤ 1000360 := by
        rw [List.length_append, List.length_take]
        omega
      refine Round.yes (decide_eq_true h5) ?_
      simp only [e1, e2, e3]
      refine Round.bind (e119 hf.1 hf.2 htt.1 htt.2 hw.1 hw.2 h4 (by omega) hn1.1 hn1.2) (Round.chk (decide_eq_true (by simp only [List.length_cons, List.length_nil]; omega)) (Round.inr _ ⟨(), ?_, trivial⟩))
      rw [wrap16 (x := liftP (toF p.1 (p.2.1.take i.toNat)) v.2.2.1 v.1 j v.2.1) (by omega) (by omega), seg_take _ _ h4 h5, List.append_assoc, wr_succ h4 h5 (by omega)]
    · intro _ _
      have ht2 : (seg (toF p.1 (p.2.1.take i.toNat)) v).take v.2.1.toNat = seg (toF p.1 (p.2.1.take i.toNat)) v := List.take_of_length_le (by rw [seg_len]; omega)
      refine Round.no (by simp) (Round.inl _ ⟨(), ?_, trivial⟩)
      rw [hv.take, proF_snoc, toF_snoc, e3, wr_succ h2 h3 (by omega), ht2]
  · intro _ _
    simp only [take_all]
    exact Round.no (by simp) (Round.done (Evt.some _))
/- impl.MakeProfile -/
theorem e30 {p : Prg} (hr : RngPg p) (h : okPg p = true) (hi : ∀ v ∈ p.2.1, MoIn 0 10000 v) : Evt (fun n => call T C n 30 (p, ())) ((proF p.1 p.2.1, 0, ()), ()) := by
  have G := goodPg hr h
  have hv := e38 p hr
  rw [h] at hv
  refine Evt.next (Evt.bind hv ?_) (fun n => r30 n p)
  exact Evt.no (by decide) (Evt.bind (e97 hr G.n.2 G.t hi) (Evt.some _))
/- spec.l00In -/
theorem e116 (a b c : Int) : Evt (fun n => call T C n 116 (a, b, c, ())) ((inR a b c, ()), ()) := by
  refine Evt.next ?_ (fun n => r116 n a b c)
  refine Evt.ite (fun h => ?_) (fun h => ?_)
  · refine (Evt.some _).of_eq fun n => ?_
    have h : b ≤ a := of_decide_eq_true h
    simp [inR, h]
    rfl
  · refine (Evt.some _).of_eq fun n => ?_
    have h : ¬ b ≤ a := by simpa using h
    simp [inR, h]
    rfl
/- spec.l01Lift -/
theorem e172 (a : Int) : Evt (fun n => call T C n 172 (a, ())) ((inR a 0 10000, ()), ()) := Evt.next (Evt.bind (e116 a 0 10000) (Evt.some _)) (fun n => r172 n a)
/- spec.l02Law -/
theorem e173 (a : Int) : Evt (fun n => call T C n 173 (a, ())) ((inR a 0 3, ()), ()) := Evt.next (Evt.bind (e116 a 0 3) (Evt.some _)) (fun n => r173 n a)
/- spec.l01Steps -/
theorem e174 (a : Int) : Evt (fun n => call T C n 174 (a, ())) ((inR a 8 360, ()), ()) := Evt.next (Evt.bind (e116 a 8 360) (Evt.some _)) (fun n => r174 n a)
/- spec.l02Ok -/
theorem e98 (p : Prg) (hr : RngPg p) : Evt (fun n => call T C n 98 (p, ())) ((okPg p, ()), ()) := by
  refine Evt.next (Evt.bind (e116 _ _ _) ?_) (fun n => r98 n p)
  unfold okPg
  cases h1 : inR (p.2.1.length : Int) 1 24 with
  | false => exact Evt.yes rfl (Evt.some _)
  | true =>
    have hn := inR_iff.1 h1
    refine Evt.no (by simp) (Evt.bind (e172 _) ?_)
    cases h2 : inR (wr .i64 p.1) 0 10000 with
    | false => exact Evt.yes rfl (Evt.some _)
    | true =>
      refine Evt.no (by simp) ?_
      have hb := sumM_take hr.m hn.2
      refine for_evt' 0 (p.2.1.length : Int) (fun i (_ : Unit) => (p, (p.2.1.length : Int), sumM (p.2.1.take i.toNat), i, ())) (fun i _ => p.2.1.all moOk = (p.2.1.drop i.toNat).all moOk) (b0 := ()) (by simp [sumM]) (by omega) (by simp) ?_ ?_
      · intro i _ h3 h4 hp
        obtain ⟨v, hv⟩ := at_of h3 h4
        have hrv := hr.m.el v hv.mem
        have hbi := hb i.toNat
        rw [hv.drop] at hp
        simp only [List.all_cons] at hp
        have bad : moOk v = false → (true && true && p.2.1.all moOk && inR (sumM p.2.1) 8 360 && (lastT p.2.1 == p.1)) = false := fun h => by rw [hp, h]; simp
        refine Round.yes (decide_eq_true h4) (Round.at hv.idx (Round.bind (e173 _) ?_))
        cases k1 : inR (wr .i64 v.1) 0 3 with
        | false =>
          rw [bad (by unfold moOk; rw [k1]; rfl)]
          exact Round.yes rfl (Round.done (Evt.some _))
        | true =>
          refine Round.no (by simp) ?_
          cases k2 : decide (v.2.1 < 1) with
          | true =>
            rw [bad (by unfold moOk; rw [k1, k2]; rfl)]
            exact Round.yes rfl (Round.done (Evt.some _))
          | false =>
            refine Round.no (by simp) (Round.bind (e172 _) ?_)
            cases k3 : inR (wr .i64 v.2.2.1) 0 10000 with
            | false =>
              rw [bad (by unfold moOk; rw [k1, k2, k3]; rfl)]
              exact Round.yes rfl (Round.done (Evt.some _))
            | true =>
              have hm : moOk v = true := by unfold moOk; rw [k1, k2, k3]; rfl
              rw [hm, Bool.true_and] at hp
              refine Round.no (by simp) (Round.again _ ⟨(), ?_, hp⟩)
              rw [hr.m.i2 hv.mem, wrap_id (x := sumM (p.2.1.take i.toNat) + v.2.1) (by omega) (by omega), hv.take, sumM_snoc, wr_succ h3 h4 (by omega)]
      · intro _ hp
        rw [drop_all] at hp
        have hp : p.2.1.all moOk = true := by rw [hp]; rfl
        rw [hp]
        simp only [take_all]
        refine Round.no (by simp) (Round.done (Evt.bind (e174 _) ?_))
        cases k4 : inR (sumM p.2.1) 8 360 with
        | false => exact Evt.no (by simp) (Evt.some _)
        | true =>
          obtain ⟨v, hv⟩ := at_of (l := p.2.1) (i := (p.2.1.length : Int) - 1) (by omega) (by omega)
          have hl : lastT p.2.1 = v.2.2.1 := by unfold lastT; rw [hv.idx]; rfl
          refine Evt.yes rfl ?_
          simp only [wrap_id (x := (p.2.1.length : Int) - 1) (by omega) (by omega)]
          refine Evt.at hv.idx ?_
          rw [hl]
          exact Evt.some _
/- spec.l02Shape -/
theorem e211 {w k n : Int} (w0 : 0 ≤ w) (w1 : w ≤ 3) (k0 : 0 ≤ k) (k1 : k ≤ n) (n1 : n ≤ 360) : Evt (fun m => call T C m 211 (w, k, n, ())) ((shN w k n, shD w n, ()), ()) := by
  refine Evt.next ?_ (fun m => r211 m w k n)
  have W : ∀ x : Int, -9000000000000000000 ≤ x → x ≤ 9000000000000000000 → wr .i64 x = x := fun x a b => wrap_id (by omega) (by omega)
  have q2 := mulB (show 0 ≤ n by omega) n1 (show 0 ≤ n by omega) n1
  have q3 := mulB q2.1 q2.2 (show 0 ≤ n by omega) n1
  have q4 := mulB q3.1 q3.2 (show 0 ≤ n by omega) n1
  have q5 := mulB q4.1 q4.2 (show 0 ≤ n by omega) n1
  have kk := mulB (show 0 ≤ 2 * k by omega) (show 2 * k ≤ 720 by omega) k0 (show k ≤ 360 by omega)
  have dd := mulB (show 0 ≤ 2 * (n - k) by omega) (show 2 * (n - k) ≤ 720 by omega) (show 0 ≤ n - k by omega) (show n - k ≤ 360 by omega)
  have k3 := mulB (show 0 ≤ 3 * k by omega) (show 3 * k ≤ 1080 by omega) k0 (show k ≤ 360 by omega)
  have k3n := mulB k3.1 k3.2 (show 0 ≤ n by omega) n1
  have kkk := mulB kk.1 kk.2 k0 (show k ≤ 360 by omega)
  have c2 := mulB k0 (show k ≤ 360 by omega) k0 (show k ≤ 360 by omega)
  have c3 := mulB c2.1 c2.2 k0 (show k ≤ 360 by omega)
  have e1 := mulB (show 0 ≤ 10 * n by omega) (show 10 * n ≤ 3600 by omega) (show 0 ≤ n by omega) n1
  have e2 := mulB (show 0 ≤ 15 * k by omega) (show 15 * k ≤ 5400 by omega) (show 0 ≤ n by omega) n1
  have e3 := mulB (show 0 ≤ 6 * k by omega) (show 6 * k ≤ 2160 by omega) k0 (show k ≤ 360 by omega)
  have a1 : k * k * k * (-1944000) ≤ k * k * k * (10 * n * n - 15 * k * n + 6 * k * k) := Int.mul_le_mul_of_nonneg_left (by omega) c3.1
  have a2 : k * k * k * (10 * n * n - 15 * k * n + 6 * k * k) ≤ k * k * k * 2073600 := Int.mul_le_mul_of_nonneg_left (by omega) c3.1
  have one : Evt (fun _ => if decide (wr .i64 (2 * k) ≤ n) = true then some ((wr .i64 (wr .i64 (2 * k) * k), wr .i64 (n * n), ()), ()) else some ((wr .i64 (wr .i64 (n * n) - wr .i64 (wr .i64 (2 * wr .i64 (n - k)) * wr .i64 (n - k))), wr .i64 (n * n), ()), ())) ((shN 1 k n, shD 1 n, ()), ()) := by
    rw [W (2 * k) (by omega) (by omega), W (2 * k * k) (by omega) (by omega), W (n * n) (by omega) (by omega), W (n - k) (by omega) (by omega), W (2 * (n - k)) (by omega) (by omega), W (2 * (n - k) * (n - k)) (by omega) (by omega), W (n * n - 2 * (n - k) * (n - k)) (by omega) (by omega)]
    refine Evt.ite (fun h => ?_) (fun h => ?_)
    · have : shN 1 k n = 2 * k * k := by unfold shN; rw [if_pos rfl, if_pos (of_decide_eq_true h)]
      rw [this]; exact Evt.some _
    · have : shN 1 k n = n * n - 2 * (n - k) * (n - k) := by unfold shN; rw [if_pos rfl, if_neg (by simpa using h)]
      rw [this]; exact Evt.some _
  have two : Evt (fun _ => some ((wr .i64 (wr .i64 (wr .i64 (wr .i64 (3 * k) * k) * n) - wr .i64 (wr .i64 (wr .i64 (2 * k) * k) * k)), wr .i64 (wr .i64 (n * n) * n), ()), ())) ((shN 2 k n, shD 2 n, ()), ()) := by
    rw [W (3 * k) (by omega) (by omega), W (3 * k * k) (by omega) (by omega), W (3 * k * k * n) (by omega) (by omega), W (2 * k) (by omega) (by omega), W (2 * k * k) (by omega) (by omega), W (2 * k * k * k) (by omega) (by omega), W (3 * k * k * n - 2 * k * k * k) (by omega) (by omega), W (n * n) (by omega) (by omega), W (n * n * n) (by omega) (by omega)]
    exact Evt.some _
  have three : Evt (fun _ => some ((wr .i64 (wr .i64 (wr .i64 (k * k) * k) * wr .i64 (wr .i64 (wr .i64 (wr .i64 (10 * n) * n) - wr .i64 (wr .i64 (15 * k) * n)) + wr .i64 (wr .i64 (6 * k) * k))), wr .i64 (wr .i64 (wr .i64 (wr .i64 (n * n) * n) * n) * n), ()), ())) ((shN 3 k n, shD 3 n, ()), ()) := by
    rw [W (k * k) (by omega) (by omega), W (k * k * k) (by omega) (by omega), W (10 * n) (by omega) (by omega), W (10 * n * n) (by omega) (by omega), W (15 * k) (by omega) (by omega), W (15 * k * n) (by omega) (by omega), W (10 * n * n - 15 * k * n) (by omega) (by omega), W (6 * k) (by omega) (by omega), W (6 * k * k) (by omega) (by omega), W (10 * n * n - 15 * k * n + 6 * k * k) (by omega) (by omega), W (k * k * k * (10 * n * n - 15 * k * n + 6 * k * k)) (by omega) (by omega), W (n * n) (by omega) (by omega), W (n * n * n) (by omega) (by omega), W (n * n * n * n) (by omega) (by omega), W (n * n * n * n * n) (by omega) (by omega)]
    exact Evt.some _
  rcases (show w = 0 ∨ w = 1 ∨ w = 2 ∨ w = 3 by omega) with rfl | rfl | rfl | rfl
  · exact Evt.no (by decide) (Evt.no (by decide) (Evt.no (by decide) (Evt.some _)))
  · exact Evt.yes rfl one
  · exact Evt.no (by decide) (Evt.yes rfl two)
  · exact Evt.no (by decide) (Evt.no (by decide) (Evt.yes rfl three))
/- spec.l01Near -/
theorem e212 {x n : Int} (hn : 0 < n) (hn' : n ≤ 10000000000000) (h1 : -2000000000000000000 ≤ x) (h2 : x ≤ 2000000000000000000) : Evt (fun m => call T C m 212 (x, n, ())) ((nr x n, ()), ()) := by
  have hbd := ediv_bd (a := 2 * x + n) (b := 2 * n) (M := 4500000000000000000) (by omega) (by omega) (by omega) (by omega)
  have he := floorDiv_eq (a := 2 * x + n) (b := 2 * n) (by omega)
  refine Evt.next ?_ (fun m => r212 m x n)
  rw [wrap_id (x := 2 * n) (by omega) (by omega), wrap_id (x := 2 * x) (by omega) (by omega), wrap_id (x := 2 * x + n) (by omega) (by omega)]
  refine Evt.chk (bne_pos (by omega)) (Evt.chk (bne_pos (by omega)) (Evt.ite (fun h => ?_) (fun h => ?_)))
  · have h : Int.tmod (2 * x + n) (2 * n) < 0 := of_decide_eq_true h
    rw [if_pos h] at he
    refine (Evt.some _).of_eq fun m => ?_
    rw [wrap_id (x := Int.tdiv (2 * x + n) (2 * n)) (by omega) (by omega), wrap_id (by omega) (by omega), he]
    rfl
  · have h : ¬ Int.tmod (2 * x + n) (2 * n) < 0 := by simpa using h
    rw [if_neg h] at he
    refine (Evt.some _).of_eq fun m => ?_
    rw [wrap_id (x := Int.tdiv (2 * x + n) (2 * n)) (by omega) (by omega), he]
    rfl
/- spec.l02Lift -/
theorem e175 {f t w k n : Int} (f0 : 0 ≤ f) (f1 : f ≤ 10000) (t0 : 0 ≤ t) (t1 : t ≤ 10000) (w0 : 0 ≤ w) (w1 : w ≤ 3) (k0 : 0 ≤ k) (k1 : k ≤ n) (n0 : 1 ≤ n) (n1 : n ≤ 360) : Evt (fun m => call T C m 175 (f, t, w, k, n, ())) ((liftP f t w k n, ()), ()) := by
  have hd := shD_bd (w := w) n0 n1
  have hb := lift_bd (w := w) f0 f1 t0 t1 k0 k1 n0 n1
  refine Evt.next (Evt.bind (e211 w0 w1 k0 k1 n1) ?_) (fun m => r175 m f t w k n)
  show Evt (fun m => (call T C m 212 (wr .i64 (wr .i64 (f * shD w n) + wr .i64 (wr .i64 (t - f) * shN w k n)), shD w n, ())).bind _) _
  rw [wrap_id (x := f * shD w n) (by omega) (by omega), wrap_id (x := t - f) (by omega) (by omega), wrap_id (x := (t - f) * shN w k n) (by omega) (by omega), wrap_id (x := f * shD w n + (t - f) * shN w k n) (by omega) (by omega)]
  exact Evt.bind (e212 (by omega) (by omega) (by omega) (by omega)) (Evt.some _)
/- spec.l02Make -/
theorem e99 {p : Prg} (hr : RngPg p) (hn : (p.2.1.length : Int) ≤ 24) (ht : 0 ≤ p.1 ∧ p.1 ≤ 10000) (hi : ∀ v ∈ p.2.1, MoIn 0 10000 v) : Evt (fun n => call T C n 99 (p, ())) ((proF p.1 p.2.1, ()), ()) := by
  refine Evt.next ?_ (fun n => r99 n p)
  rw [wrap_id (x := p.1) (by omega) (by omega)]
  have hpl : ∀ i : Nat, ((proF p.1 (p.2.1.take i)).length : Int) ≤ 1000000 := fun i => by
    have h1 := proF_len (p.2.1.take i) p.1 fun v hv => (hi v (List.mem_of_mem_take hv)).n.1
    have h2 := sumM_take hr.m hn i
    omega
  refine for_evt' 0 (p.2.1.length : Int) (fun i (_ : Unit) => (p, proF p.1 (p.2.1.take i.toNat), toF p.1 (p.2.1.take i.toNat), i, ())) (fun _ _ => True) (b0 := ()) (by simp [proF, toF]) (by omega) trivial ?_ ?_
  · intro i _ h2 h3 _
    obtain ⟨v, hv⟩ := at_of h2 h3
    have hm := hi v hv.mem
    have hw := hm.w
    have hn1 := hm.n
    have htt := hm.t
    have hf := toF_in (p.2.1.take i.toNat) (f := p.1) (fun u hu => hi u (List.mem_of_mem_take hu)) ht.1 ht.2
    have hl := hpl i.toNat
    refine Round.yes (decide_eq_true h3) (Round.at hv.idx ?_)
    have e2 : wr .i64 v.2.1 = v.2.1 := hr.m.i2 hv.mem
    have e1 : wr .i64 v.1 = v.1 := hr.m.i1 hv.mem
    have e3 : wr .i64 v.2.2.1 = v.2.2.1 := hr.m.i3 hv.mem
    refine for_round' 0 v.2.1 (fun j (_ : Unit) => (p, proF p.1 (p.2.1.take i.toNat) ++ (seg (toF p.1 (p.2.1.take i.toNat)) v).take j.toNat, toF p.1 (p.2.1.take i.toNat), i, v, j, ())) (fun _ _ => True) (b0 := ()) (by simp) (by omega) trivial ?_ ?_
    · intro j _ h4 h5 _
      have hb := liftP_in (f := toF p.1 (p.2.1.take i.toNat)) (t := v.2.2.1) (w := v.1) (k := j) (n := v.2.1) (lo := 0) (hi := 10000) hw.1 hw.2 h4 (by omega) hn1.1 hn1.2 hf.1 hf.2 htt.1 htt.2
      have hsl := seg_len (toF p.1 (p.2.1.take i.toNat)) v
      have hlen : ((proF p.1 (p.2.1.take i.toNat) ++ (seg (toF p.1 (p.2.1.take i.toNat)) v).take j.toNat).length : Int) ≤ 1000360 := by
        rw [List.length_append, List.length_take]
        omega
      refine Round.yes (decide_eq_true (show j < wr .i64 v.2.1 by rw [e2]; exact h5)) ?_
      simp only [e1, e2, e3]
      refine Round.bind (e175 hf.1 hf.2 htt.1 htt.2 hw.1 hw.2 h4 (by omega) hn1.1 hn1.2) (Round.chk (decide_eq_true (by simp only [List.length_cons, List.length_nil]; omega)) (Round.inr _ ⟨(), ?_, trivial⟩))
      rw [wrap16 (x := liftP (toF p.1 (p.2.1.take i.toNat)) v.2.2.1 v.1 j v.2.1) (by omega) (by omega), seg_take _ _ h4 h5, List.append_assoc, wr_succ h4 h5 (by omega)]
    · intro _ _
      have ht2 : (seg (toF p.1 (p.2.1.take i.toNat)) v).take v.2.1.toNat = seg (toF p.1 (p.2.1.take i.toNat)) v := List.take_of_length_le (by rw [seg_len]; omega)
      refine Round.no (by simp [e2]) (Round.inl _ ⟨(), ?_, trivial⟩)
      rw [hv.take, proF_snoc, toF_snoc, e3, wr_succ h2 h3 (by omega), ht2]
  · intro _ _
    simp only [take_all]
    exact Round.no (by simp) (Round.done (Evt.some _))
/- spec.MakeProfile -/
theorem e31 {p : Prg} (S : SmPg p) : Evt (fun n => call T C n 31 (p, ())) ((proF p.1 p.2.1, 0, ()), ()) := by
  have ho := e98 p S.rng
  rw [S.ok] at ho
  have ht := S.t
  have hn := S.n
  refine Evt.next (Evt.bind ho (Evt.no (by simp) ?_)) (fun n => r31 n p)
  exact Evt.bind (e99 S.rng (by omega) (by omega) (fun v hv => by
    have h := S.ins v hv
    exact ⟨h.w, h.n, by have := h.t; omega⟩)) (Evt.some _)
/- impl.StepsIn -/
theorem e32 {p : Prg} (S : SmPg p) : Evt (fun n => call T C n 32 (p, ())) ((sumM p.2.1, 0, ()), ()) := by
  have hv := e38 p S.rng
  rw [S.ok] at hv
  refine Evt.next ?_ (fun n => r32 n p)
  exact Evt.bind hv (Evt.no (by simp) (Evt.bind (e100 p S.rng (by have := S.n; omega)) (Evt.some _)))
/- strconv.FormatInt -/
theorem e178 (u : Nat) (h : u ≤ 9223372036854775807) : Evt (fun n => call T C n 178 ((u : Int), 10, ())) ((tx (Lib.decDigits u), ()), ()) := by
  refine Evt.next ?_ (fun n => r178 n u 10)
  dsimp only
  rw [if_pos ⟨rfl, by omega, by omega⟩, Lib.itoa_nonneg]
  exact Evt.some _
theorem e178_2 (v : Int) (h0 : -9223372036854775808 ≤ v) (h1 : v ≤ 9223372036854775807) : Evt (fun n => call T C n 178 (v, 10, ())) ((tx (Lib.itoa v), ()), ()) := by
  refine Evt.next ?_ (fun n => r178 n v 10)
  dsimp only
  rw [if_pos ⟨rfl, h0, h1⟩]
  exact Evt.some _
/- impl.decimal -/
theorem e105 (u : Nat) (h : u ≤ 9223372036854775807) : Evt (fun n => call T C n 105 ((u : Int), ())) ((tx (Lib.decDigits u), ()), ()) :=
  Evt.next (Evt.bind (e178 u h) (Evt.some _)) (fun n => r105 n u)
theorem e105_2 (v : Int) (h0 : -9223372036854775808 ≤ v) (h1 : v ≤ 9223372036854775807) : Evt (fun n => call T C n 105 (v, ())) ((tx (Lib.itoa v), ()), ()) :=
  Evt.next (Evt.bind (e178_2 v h0 h1) (Evt.some _)) (fun n => r105 n v)
/- strings.Join -/
theorem e106 (ws : List (List UInt8)) (s : List UInt8) (h1 : ws.length ≤ 1000000) (h2 : (Lib.join ws s).length ≤ 1000000000) : Evt (fun n => call T C n 106 (ws.map tx, tx s, ())) ((tx (Lib.join ws s), ()), (ws.map tx, ())) := by
  refine Evt.next ?_ (fun n => r106 n (ws.map tx) (tx s))
  have e : (ws.map tx).map (fun s => s.data.toList) = ws := by
    rw [List.map_map]
    exact (List.map_congr_left fun a _ => rfl).trans (List.map_id ws)
  dsimp only
  rw [e]
  show Evt (fun n => if (ws.map tx).length ≤ 140737488355328 ∧ (Lib.join ws s).length ≤ 140737488355328 then some ((tx (Lib.join ws s), ()), (ws.map tx, ())) else none) _
  rw [if_pos ⟨by simp; omega, by omega⟩]
  exact Evt.some _
/- impl.ProgramText -/
theorem e34 (p : Prg) (hr : RngPg p) : Evt (fun n => call T C n 34 (p, ())) ((ptR p, ()), ()) := by
  refine Evt.next (Evt.bind (e38 p hr) ?_) (fun n => r34 n p)
  unfold ptR
  cases h : okPg p with
  | false => exact Evt.yes rfl (Evt.some _)
  | true =>
    have G := goodPg hr h
    have hn := G.n
    have ht := G.t
    obtain ⟨t, et⟩ : ∃ t : Nat, p.1 = t := ⟨p.1.toNat, by omega⟩
    have c32 : (⟨#[32]⟩ : ByteArray) = tx [32] := rfl
    have c58 : (⟨#[58]⟩ : ByteArray) = tx [58] := rfl
    refine Evt.no (by simp) ?_
    rw [wrap_id (x := p.1) (by omega) (by omega)]
    have hD := e105 t (by omega)
    rw [← et] at hD
    have ett : p.1.toNat = t := by omega
    refine Evt.bind hD ?_
    refine for_evt' 0 (p.2.1.length : Int) (fun i (_ : Unit) => ((pgW p.1 (p.2.1.take i.toNat)).map tx, p.2.1, (p.2.1.length : Int), i, ())) (fun _ _ => True) (b0 := ()) (by simp [pgW, ett]) (by omega) trivial ?_ ?_
    · intro i _ h2 h3 _
      obtain ⟨v, hv⟩ := at_of h2 h3
      obtain ⟨g1, g2, g3⟩ := G.el v hv.mem
      have hrv := hr.m.el v hv.mem
      obtain ⟨a, ea⟩ : ∃ a : Nat, v.2.1 = a := ⟨v.2.1.toNat, by omega⟩
      obtain ⟨b, eb⟩ : ∃ b : Nat, v.2.2.1 = b := ⟨v.2.2.1.toNat, by omega⟩
      have hA := e105 a (by omega)
      have hB := e105 b (by omega)
      rw [← ea] at hA
      rw [← eb] at hB
      have z1 := dec_len (u := a) (by omega)
      have z2 := dec_len (u := b) (by omega)
      have hJ := (pgW_len hr.m hr.t.2 hn.2 i.toNat).2
      have hJ2 : ((pgW p.1 (p.2.1.take i.toNat)).map tx).length ≤ 25 := by simpa using hJ
      have hcut := ltr_cut g1.1 g1.2
      refine Round.yes (decide_eq_true h3) (Round.at hv.idx ?_)
      simp only [wr_i8 (x := v.1 + 1) (by omega) (by omega), hr.m.i2 hv.mem, hr.m.i3 hv.mem, hcut, c58, tx_app]
      refine Round.chk (decide_eq_true ⟨g1.1, by omega, by show v.1 + 1 ≤ 4; omega⟩) (Round.bind hA ?_)
      simp only [tx_app]
      refine Round.chk (szT (by simp) (by omega)) (Round.chk (szT (by simp; omega) (by simp)) (Round.bind hB ?_))
      simp only [tx_app]
      refine Round.chk (szT (by simp; omega) (by omega)) (Round.chk (decide_eq_true (by simp only [List.length_cons, List.length_nil]; omega)) (Round.again _ ⟨(), ?_, trivial⟩))
      rw [hv.take, pgW_snoc, wr_succ h2 h3 (by omega)]
      have : motW v = ltr v.1 :: (Lib.decDigits a ++ 58 :: Lib.decDigits b) := by unfold motW; rw [ea, eb]; rfl
      rw [this]
      simp
    · intro _ _
      obtain ⟨hJ, hJl⟩ := pgW_len hr.m hr.t.2 hn.2 p.2.1.length
      rw [List.take_length] at hJ hJl
      simp only [take_all, c32]
      exact Round.no (by simp) (Round.done (Evt.bind (e106 (pgW p.1 p.2.1) [32] (by omega) (by omega)) (Evt.some _)))
/- strings.Split -/
theorem e90 {c : UInt8} {w : List UInt8} {ws : List (List UInt8)} (h : c ∉ w) (hs : ∀ v ∈ ws, c ∉ v) (hl : (Lib.join (w :: ws) [c]).length ≤ 1000000) : Evt (fun n => call T C n 90 (tx (Lib.join (w :: ws) [c]), tx [c], ())) (((w :: ws).map tx, ()), ()) := by
  refine Evt.next ?_ (fun n => r90 n (tx (Lib.join (w :: ws) [c])) (tx [c]))
  dsimp only
  rw [if_pos ⟨by rw [tx_size]; omega, by rw [tx_size]; simp⟩, split_tx h hs]
  exact Evt.some _
theorem e90_2 (c : UInt8) (l : List UInt8) (hl : l.length ≤ 10000000) : Evt (fun n => call T C n 90 (tx l, tx [c], ())) (((splitC c l).map tx, ()), ()) := by
  refine Evt.next ?_ (fun n => r90 n (tx l) (tx [c]))
  dsimp only
  rw [if_pos ⟨by rw [tx_size]; omega, by rw [tx_size]; simp⟩, split_all]
  exact Evt.some _
/- strconv.ParseInt -/
theorem e176 {u : Nat} (h : u ≤ 9223372036854775807) : Evt (fun n => call T C n 176 (tx (Lib.decDigits u), 10, 64, ())) (((u : Int), false, ()), ()) := by
  have l1 := dec_len h
  refine Evt.next ?_ (fun n => r176 n (tx (Lib.decDigits u)) 10 64)
  dsimp only
  rw [if_pos ⟨by rw [tx_size]; omega, rfl, rfl⟩, tx_list, parse_int h]
  exact Evt.some _
/- impl.number -/
theorem e101 {u : Nat} (h : u ≤ 9223372036854775807) : Evt (fun n => call T C n 101 (tx (Lib.decDigits u), ())) (((u : Int), true, ()), ()) := by
  refine Evt.next (Evt.bind (e176 h) (Evt.chk rfl (Evt.yes rfl (Evt.bind (e105 u h) ?_)))) (fun n => r101 n (tx (Lib.decDigits u)))
  simp only [beq_self_eq_true, cond_true]
  exact Evt.some _
theorem e101_2 (l : List UInt8) (hl : l.length ≤ 10000000) : Evt (fun n => call T C n 101 (tx l, ())) (((numI l).1, (numI l).2, ()), ()) := by
  have hP : Evt (fun n => call T C n 176 (tx l, 10, 64, ())) (((numI l).1, (match Lib.parseIntB 64 l with | .ok _ => false | _ => true), ()), ()) := by
    refine Evt.next ?_ (fun n => r176 n (tx l) 10 64)
    dsimp only
    rw [if_pos ⟨by rw [tx_size]; omega, rfl, rfl⟩, tx_list]
    unfold numI
    cases Lib.parseIntB 64 l <;> exact Evt.some _
  have hb := numI_bd l
  refine Evt.next (Evt.bind hP (Evt.chk rfl ?_)) (fun n => r101 n (tx l))
  have hd := e105_2 (numI l).1 hb.1 hb.2
  revert hd
  rcases h : Lib.parseIntB 64 l with v | _ | _
  · intro hd
    refine Evt.yes rfl (Evt.bind hd ?_)
    simp only [tx_toList, cond_true]
    have e1 : (numI l).2 = (Lib.itoa (numI l).1 == l) := by unfold numI; rw [h]
    rw [e1]
    exact Evt.some _
  · intro _
    have e1 : (numI l).2 = false := by unfold numI; rw [h]
    rw [e1]
    exact Evt.no (by simp) (Evt.some _)
  · intro _
    have e1 : (numI l).2 = false := by unfold numI; rw [h]
    rw [e1]
    exact Evt.no (by simp) (Evt.some _)
/- strings.Cut -/
theorem e86 (l s : List UInt8) (hl : l.length ≤ 10000000) : Evt (fun n => call T C n 86 (tx l, tx s, ())) ((tx (Lib.cut l s).1, tx (Lib.cut l s).2.1, (Lib.cut l s).2.2, ()), ()) := by
  refine Evt.next ?_ (fun n => r86 n (tx l) (tx s))
  dsimp only
  rw [if_pos (by rw [tx_size]; omega)]
  exact Evt.some _
/- strings.IndexByte -/
theorem e104 (c : UInt8) : Evt (fun n => call T C n 104 ((⟨#[101, 115, 99, 102]⟩ : ByteArray), (c.toNat : Int), ())) ((lawOf c, ()), ()) := by
  refine Evt.next ?_ (fun n => r104 n (⟨#[101, 115, 99, 102]⟩ : ByteArray) (c.toNat : Int))
  have := c.toNat_lt
  dsimp only
  rw [if_pos ⟨by omega, by omega⟩, Int.toNat_natCast, show c.toNat.toUInt8 = c from UInt8.ofNat_toNat]
  exact Evt.some _
/- impl.ReadProgram -/
theorem e33 (l : List UInt8) (hl : l.length ≤ 1048576) : Evt (fun n => call T C n 33 (tx l, ())) (((rdPg l).1, (rdPg l).2, ()), ()) := by
  refine Evt.next ?_ (fun n => r33 n (tx l))
  obtain ⟨w, ws, e⟩ := splitC_ne 32 l
  have hS := e90_2 32 l (by omega)
  have hn := splitC_len 32 l
  have hw := splitC_wlen (c := 32) (l := l)
  rw [e] at hS hn hw
  simp only [List.length_cons] at hn
  have hlw : ((((w :: ws).map tx).length : Nat) : Int) = (ws.length : Int) + 1 := by simp
  have hww := hw w (by simp)
  have bd := numI_bd w
  have hrd := rdPg_eq hl
  have no : irPg l = none → ∀ {f : Nat → Option ((Prg × Int × Unit) × Unit)}, Evt f ((((0 : Int), ([] : List Ct), ()), (5 : Int), ()), ()) → Evt f (((rdPg l).1, (rdPg l).2, ()), ()) := fun h f hf => by
    have : rdPg l = ((0, [], ()), 5) := by rw [hrd, h]
    rw [this]; exact hf
  have hsr : irPg l = if inR (numI w).1 0 10000 = true then (mapO irMo ws).map fun L => ((numI w).1, L, ()) else none := by unfold irPg; rw [e]
  refine Evt.bind hS (Evt.chk (decide_eq_true ⟨Int.le_refl _, by show (0 : Int) < ((((w :: ws).map tx).length : Nat) : Int); omega⟩) (Evt.at (x := tx w) rfl (Evt.bind (e101_2 w (by omega)) (Evt.bind (e102 _) ?_))))
  by_cases c2 : inR (numI w).1 0 10000 = true
  case neg => exact Evt.yes (by simpa using c2) (no (by rw [hsr, if_neg c2]) (Evt.some _))
  have hi := inR_iff.1 c2
  rw [if_pos c2] at hsr
  refine Evt.no (by simp [c2]) (Evt.chk (decide_eq_true ⟨by omega, by show (1 : Int) ≤ ((((w :: ws).map tx).length : Nat) : Int); omega, Int.le_refl _⟩) ?_)
  have hz : wr .i16 (numI w).1 = (numI w).1 := wrap16 (by omega) (by omega)
  have ht : ((((w :: ws).map tx).take (Int.toNat ((((w :: ws).map tx).length : Nat) : Int))).drop (Int.toNat (1 : Int))) = ws.map tx := by
    rw [Int.toNat_natCast, List.take_length]; rfl
  dsimp only
  rw [ht, hz]
  have hlm : (((ws.map tx).length : Nat) : Int) = (ws.length : Int) := by simp
  refine for_evt' 0 (ws.length : Int) (fun i (L : List Ct) => (tx l, (((0 : Int), ([] : List Ct), ()) : Prg), (((numI w).1, L, ()) : Prg), ws.map tx, (((ws.map tx).length : Nat) : Int), i, ())) (fun i L => mapO irMo (ws.take i.toNat) = some L) (b0 := []) rfl (by omega) rfl ?_ ?_
  · intro i L i0 i1 hL
    obtain ⟨i, rfl⟩ := Int.eq_ofNat_of_zero_le i0
    obtain ⟨v, hv⟩ : ∃ v, ws[i]? = some v := ⟨_, List.getElem?_eq_getElem (by omega)⟩
    rw [Int.toNat_natCast] at hL
    have hvl := hw v (by simp [List.mem_of_getElem? hv])
    have hvi : idx (ws.map tx) (i : Int) = some (tx v) := by
      unfold idx
      rw [if_pos (by omega), Int.toNat_natCast, List.getElem?_map, hv]; rfl
    have hll := (mapO_el hL).1
    have htl : (ws.take i).length ≤ i := by rw [List.length_take]; omega
    have bad : irMo v = none → irPg l = none := fun h => by rw [hsr, mapO_none h (List.mem_of_getElem? hv)]; rfl
    dsimp only
    refine Round.yes (decide_eq_true (by rw [hlm]; exact i1)) (Round.at hvi ?_)
    cases v with
    | nil => exact Round.yes (beq_self_eq_true (tx []).toList) (Round.done (no (bad rfl) (Evt.some _)))
    | cons k r =>
    simp only [List.length_cons] at hvl
    have hsz : ((tx (k :: r)).size : Int) = (r.length : Int) + 1 := by rw [tx_size]; simp
    have hx : (tx (k :: r)).extract (Int.toNat (1 : Int)) (Int.toNat ((tx (k :: r)).size : Int)) = tx r := by
      rw [hsz, tx_ext]
      show tx (r.take _) = _
      rw [List.take_of_length_le (by omega)]
    rw [hx]
    have hC := e86 r [58] (by omega)
    have hcl : (Lib.cut r [58]).1.length ≤ r.length ∧ (Lib.cut r [58]).2.1.length ≤ r.length := by
      unfold Lib.cut
      split
      · exact ⟨by rw [List.length_take]; omega, by rw [List.length_drop]; omega⟩
      · exact ⟨Nat.le_refl _, by simp⟩
    have b1 := numI_bd (Lib.cut r [58]).1
    have b2 := numI_bd (Lib.cut r [58]).2.1
    have hm : irMo (k :: r) = if inR (numI (Lib.cut r [58]).2.1).1 0 10000 = true ∧ inR (numI (Lib.cut r [58]).1).1 1 360 = true then some (lawOf k, (numI (Lib.cut r [58]).1).1, (numI (Lib.cut r [58]).2.1).1, ()) else none := rfl
    refine Round.no (by show ¬ (((tx (k :: r)).toList == (tx []).toList) = true); rw [tx_toList, tx_toList]; simp) (Round.chk (decide_eq_true ⟨by omega, by omega, Int.le_refl _⟩) (Round.bind hC (Round.bind (e101_2 _ (by omega)) (Round.bind (e101_2 _ (by omega)) (Round.bind (e102 _) ?_)))))
    by_cases c3 : inR (numI (Lib.cut r [58]).2.1).1 0 10000 = true
    case neg => exact Round.yes (by simpa using c3) (Round.done (no (bad (by rw [hm, if_neg (fun h => c3 h.1)])) (Evt.some _)))
    refine Round.no (by simp [c3]) (Round.bind (e103 _ _ _) ?_)
    by_cases c4 : inR (numI (Lib.cut r [58]).1).1 1 360 = true
    case neg => exact Round.yes (by simpa using c4) (Round.done (no (bad (by rw [hm, if_neg (fun h => c4 h.2)])) (Evt.some _)))
    have i3 := inR_iff.1 c3
    have i4 := inR_iff.1 c4
    have hlb := lawOf_bd k
    rw [if_pos ⟨c3, c4⟩] at hm
    refine Round.no (by simp [c4]) (Round.at (nums_at (l := k :: r) (i := 0) rfl) (Round.bind (e104 k) (Round.chk (decide_eq_true (by simp only [List.length_singleton]; omega)) (Round.again _ ⟨L ++ [(lawOf k, (numI (Lib.cut r [58]).1).1, (numI (Lib.cut r [58]).2.1).1, ())], ?_, ?_⟩))))
    · rw [wr_succ i0 i1 (by omega), wr_i8 (x := lawOf k) (by omega) (by omega), wrap16 (x := (numI (Lib.cut r [58]).1).1) (by omega) (by omega), wrap16 (x := (numI (Lib.cut r [58]).2.1).1) (by omega) (by omega)]
    · rw [show ((i : Int) + 1).toNat = i + 1 by omega, List.take_add_one, hv]
      exact mapO_snoc hm hL
  · intro L hL
    rw [Int.toNat_natCast, List.take_length] at hL
    rw [hL] at hsr
    have hr := irPg_rng hl hsr
    rw [hsr] at hrd
    simp only [Option.map_some] at hrd
    dsimp only
    refine Round.no (by rw [hlm]; simp) (Round.bind (e38 ((numI w).1, L, ()) hr) ?_)
    cases ho : okPg ((numI w).1, L, ()) with
    | false =>
      rw [hrd, if_neg (fun h => by rw [ho] at h; cases h.1)]
      exact Round.yes rfl (Round.done (Evt.some _))
    | true =>
      have hpt : ptR ((numI w).1, L, ()) = tx (pgT ((numI w).1, L, ())) := if_pos ho
      refine Round.no (by simp) (Round.bind (e34 ((numI w).1, L, ()) hr) ?_)
      rw [hpt]
      simp only [tx_toList]
      by_cases hq : pgT ((numI w).1, L, ()) = l
      · have e9 : rdPg l = (((numI w).1, L, ()), 0) := by rw [hrd, if_pos ⟨ho, hq⟩]
        rw [e9, hq]
        exact Round.no (by simp) (Round.done (Evt.some _))
      · have e9 : rdPg l = ((0, [], ()), 5) := by rw [hrd, if_neg (fun h => hq h.2)]
        rw [e9]
        exact Round.yes (by simpa using hq) (Round.done (Evt.some _))
/- spec.l01Same -/
theorem e75 (l : List Int) (hl : (l.length : Int) ≤ 1000000) : Evt (fun n => call T C n 75 (l, l, ())) ((true, ()), ()) := by
  refine Evt.next (Evt.no (by simp) ?_) (fun n => r75 n l l)
  refine for_evt' 0 (l.length : Int) (fun i (_ : Unit) => (l, l, i, ())) (fun _ _ => True) (b0 := ()) rfl (by omega) trivial ?_ ?_
  · intro i _ h2 h3 _
    obtain ⟨v, hv⟩ := at_of h2 h3
    exact Round.yes (decide_eq_true h3) (Round.at hv.idx (Round.at hv.idx (Round.no (by simp) (Round.again _ ⟨(), by rw [wr_succ h2 h3 (by omega)], trivial⟩))))
  · intro _ _
    exact Round.no (by simp) (Round.done (Evt.some _))
theorem e75_2 (a b : List Int) (hl : (a.length : Int) ≤ 1000000) : Evt (fun n => call T C n 75 (a, b, ())) ((decide (a = b), ()), ()) := by
  by_cases hlen : a.length = b.length
  · refine Evt.next (Evt.no (by simp [hlen]) ?_) (fun n => r75 n a b)
    refine for_evt' 0 (a.length : Int) (fun i (_ : Unit) => (a, b, i, ())) (fun i _ => a.take i.toNat = b.take i.toNat) (b0 := ()) rfl (by omega) (by simp) ?_ ?_
    · intro i _ h2 h3 he
      obtain ⟨u, hu⟩ := at_of h2 h3
      obtain ⟨v, hv⟩ := at_of (l := b) h2 (by omega)
      refine Round.yes (decide_eq_true h3) (Round.at hu.idx (Round.at hv.idx (Round.ite (fun h => ?_) (fun h => ?_))))
      · have h : u ≠ v := by simpa using h
        have : a ≠ b := fun e => by
          subst e
          have := hu.get.symm.trans hv.get
          exact h (Option.some.inj this)
        rw [decide_eq_false this]
        exact Round.done (Evt.some _)
      · have h : u = v := by simpa using h
        exact Round.again _ ⟨(), by rw [wr_succ h2 h3 (by omega)], by rw [hu.take, hv.take, he, h]⟩
    · intro _ he
      have he : a = b := by rwa [take_all, hlen, take_all] at he
      rw [decide_eq_true he]
      exact Round.no (by simp) (Round.done (Evt.some _))
  · have : a ≠ b := fun e => hlen (by rw [e])
    rw [decide_eq_false this]
    exact Evt.next (Evt.yes (by simp; omega) (Evt.some _)) (fun n => r75 n a b)
/- spec.SameCam -/
theorem e35 (l : List Int) (hl : (l.length : Int) ≤ 1000000) : Evt (fun n => call T C n 35 (l, l, ())) ((true, ()), ()) := Evt.next (Evt.bind (e75 l hl) (Evt.some _)) (fun n => r35 n l l)
theorem e35_2 (a b : List Int) (hl : (a.length : Int) ≤ 1000000) : Evt (fun n => call T C n 35 (a, b, ())) ((decide (a = b), ()), ()) := Evt.next (Evt.bind (e75_2 a b hl) (Evt.some _)) (fun n => r35 n a b)
/- slices.Equal[[]impl.Motion,impl.Motion] -/
theorem e107 (l : List Ct) (hl : (l.length : Int) ≤ 1000000) : Evt (fun n => call T C n 107 (l, l, ())) ((true, ()), ()) := by
  refine Evt.next (Evt.no (by simp) ?_) (fun n => r107 n l l)
  refine for_evt' 0 (l.length : Int) (fun i (_ : Unit) => (l, l, (l.length : Int), i, ())) (fun _ _ => True) (b0 := ()) rfl (by omega) trivial ?_ ?_
  · intro i _ h2 h3 _
    obtain ⟨v, hv⟩ := at_of h2 h3
    exact Round.yes (decide_eq_true h3) (Round.at hv.idx (Round.at hv.idx (Round.no (by simp) (Round.again _ ⟨(), by rw [wr_succ h2 h3 (by omega)], trivial⟩))))
  · intro _ _
    exact Round.no (by simp) (Round.done (Evt.some _))
/- impl.SameProgram -/
theorem e36 (p : Prg) (hl : (p.2.1.length : Int) ≤ 1000000) : Evt (fun n => call T C n 36 (p, p, ())) ((true, ()), ()) :=
  Evt.next (Evt.yes (by simp) (Evt.bind (e107 p.2.1 hl) (Evt.some _))) (fun n => r36 n p p)
/- spec.l02Same -/
theorem e108 (p : Prg) (hl : (p.2.1.length : Int) ≤ 1000000) : Evt (fun n => call T C n 108 (p, p, ())) ((true, ()), ()) := by
  refine Evt.next (Evt.no (by simp) (Evt.no (by simp) ?_)) (fun n => r108 n p p)
  refine for_evt' 0 (p.2.1.length : Int) (fun i (_ : Unit) => (p, p, i, ())) (fun _ _ => True) (b0 := ()) rfl (by omega) trivial ?_ ?_
  · intro i _ h2 h3 _
    obtain ⟨v, hv⟩ := at_of h2 h3
    exact Round.yes (decide_eq_true h3) (Round.at hv.idx (Round.at hv.idx (Round.no (by simp) (Round.again _ ⟨(), by rw [wr_succ h2 h3 (by omega)], trivial⟩))))
  · intro _ _
    exact Round.no (by simp) (Round.done (Evt.some _))
/- spec.SameProgram -/
theorem e37 (p : Prg) (hl : (p.2.1.length : Int) ≤ 1000000) : Evt (fun n => call T C n 37 (p, p, ())) ((true, ()), ()) := Evt.next (Evt.bind (e108 p hl) (Evt.some _)) (fun n => r37 n p p)
/- (impl.Cam).steps -/
theorem e113 (a : List Int) : Evt (fun n => call T C n 113 (a, ())) (((a.length : Int), ()), ()) := Evt.next (Evt.some _) (fun n => r113 n a)
/- impl.ValidCam$1 -/
theorem e115 (v : Int) : Evt (fun n => call T C n 115 (v, ())) ((!okV v, ()), ()) := Evt.next (Evt.bind (e102 _) (Evt.some _)) (fun n => r115 n v)
/- slices.IndexFunc[impl.Cam,int16]{impl.ValidCam$1} -/
theorem e181 (l : List Int) (hl : (l.length : Int) ≤ 140737488351232) : Evt (fun n => call T C n 181 (l, ((), ()), ())) ((fi (fun v => !okV v) l 0, ()), ()) := by
  refine Evt.next ?_ (fun n => r181 n l ((), ()))
  refine loop_evt (fun (x : List Int × (Unit × Unit) × Int × Int × Unit) => x.1 = l ∧ x.2.2.1 = (l.length : Int) ∧ 0 ≤ x.2.2.2.1 ∧ x.2.2.2.1 ≤ (l.length : Int) ∧ fi (fun v => !okV v) l 0 = fi (fun v => !okV v) (l.drop x.2.2.2.1.toNat) x.2.2.2.1) (fun (x : List Int × (Unit × Unit) × Int × Int × Unit) => ((l.length : Int) - x.2.2.2.1).toNat) (x := (l, ((), ()), (l.length : Int), 0, ())) ⟨rfl, rfl, Int.le_refl _, by simp, by simp⟩ ?_
  rintro ⟨x1, u, m, i, _⟩ ⟨h', hm, h0, h1, h2⟩
  simp only at h' hm h0 h1 h2
  subst h'; subst hm
  refine Round.ite (fun hlt => ?_) (fun hge => ?_)
  · have hlt : i < (x1.length : Int) := of_decide_eq_true hlt
    obtain ⟨v, hv, hv'⟩ := idx_at h0 hlt
    have hd := drop_cons hv'
    refine Round.at hv (Round.bind (e115 _) (Round.ite (fun hb => ?_) (fun hb => ?_)))
    · have hb : okV v = false := by simpa using hb
      have h3 : fi (fun v => !okV v) x1 0 = i := by rw [h2, hd]; simp [fi, hb]
      rw [h3]
      exact Round.done (Evt.some _)
    · have hb : okV v = true := by simpa using hb
      have hw : wr .i64 (i + 1) = i + 1 := wrap_id (by omega) (by omega)
      refine Round.again _ ⟨⟨rfl, rfl, ?_, ?_, ?_⟩, ?_⟩ <;> simp only [hw]
      · omega
      · omega
      · rw [h2, hd, show (i + 1).toNat = i.toNat + 1 by omega]
        simp [fi, hb]
      · omega
  · have hge : ¬ i < (x1.length : Int) := by simpa using hge
    have : x1.drop i.toNat = [] := List.drop_of_length_le (by omega)
    rw [h2, this]
    exact Round.done (Evt.some _)
/- slices.ContainsFunc[impl.Cam,int16]{impl.ValidCam$1} -/
theorem e114 (l : List Int) (hl : (l.length : Int) ≤ 140737488351232) : Evt (fun n => call T C n 114 (l, ((), ()), ())) ((l.any (fun v => !okV v), ()), ()) := by
  refine Evt.next (Evt.bind (e181 l hl) ((Evt.some _).of_eq fun n => ?_)) (fun n => r114 n l ((), ()))
  simp only [fi_any _ l 0 (Int.le_refl _)]
  rfl
/- impl.ValidCam -/
theorem e39 (l : List Int) (hl : (l.length : Int) ≤ 140737488351232) : Evt (fun n => call T C n 39 (l, ())) ((okC l, ()), ()) := by
  refine Evt.next (Evt.bind (e113 l) (Evt.bind (e112 _) ?_)) (fun n => r39 n l)
  refine Evt.ite (fun h => ?_) (fun h => ?_)
  · refine Evt.bind (e114 l hl) ((Evt.some _).of_eq fun n => ?_)
    have h : inR (l.length : Int) 8 360 = true := h
    have : okC l = !l.any (fun v => !okV v) := by simp [okC, h, List.any_eq_not_all_not]
    rw [this]
    rfl
  · refine (Evt.some _).of_eq fun n => ?_
    have h : inR (l.length : Int) 8 360 = false := by simpa using h
    simp [okC, h]
    rfl
/- laws.a2At -/
theorem e40 {b : List Int} (hb : ∀ v ∈ b, 0 ≤ v ∧ v ≤ 255) {i m : Int} (i0 : 0 ≤ i) (m1 : 1 ≤ m) : ∃ v : Int, Evt (fun n => call T C n 40 (b, i, m, ())) ((v, ()), ()) ∧ 0 ≤ v ∧ v < m := by
  by_cases h : i < (b.length : Int)
  · obtain ⟨v, hv⟩ := at_of i0 h
    have hvb := hb v hv.mem
    have ev : wr .i64 v = v := wrap_id (by omega) (by omega)
    refine ⟨Int.tmod v m, Evt.next (Evt.no (by simp; omega) (Evt.no (by simp; omega) (Evt.at hv.idx (Evt.chk (bne_pos (by omega)) ((Evt.some _).of_eq fun n => ?_))))) (fun n => r40 n b i m), Int.tmod_nonneg m hvb.1, Int.tmod_lt_of_pos v (by omega)⟩
    rw [ev]
    rfl
  · exact ⟨0, Evt.next (Evt.yes (decide_eq_true (by omega)) (Evt.some _)) (fun n => r40 n b i m), by omega, by omega⟩
/- impl.MotionAt -/
theorem e41 {p : Prg} (S : SmPg p) {a : Int} (a0 : 0 ≤ a) (a1 : a < sumM p.2.1) {j : Nat} {v : Ct} (hj : p.2.1[j]? = some v) (h1 : sumM (p.2.1.take j) ≤ a) (h2 : a < sumM (p.2.1.take j) + v.2.1) : Evt (fun n => call T C n 41 (p, a, ())) (((j : Int), a - sumM (p.2.1.take j), 0, ()), ()) := by
  have hv := e38 p S.rng
  rw [S.ok] at hv
  have hs := S.sum
  have hn := S.n
  have hi := e103 a 0 (sumM p.2.1 - 1)
  rw [inR_iff.2 ⟨a0, by omega⟩] at hi
  have hjl := (List.getElem?_eq_some_iff.1 hj).1
  have h1' : ∀ u ∈ p.2.1, 1 ≤ u.2.1 := fun u hu => (S.ins u hu).n.1
  refine Evt.next (Evt.bind hv (Evt.no (by simp) (Evt.bind (e100 p S.rng (by omega)) ?_))) (fun n => r41 n p a)
  dsimp only
  rw [wrap_id (x := sumM p.2.1 - 1) (by omega) (by omega)]
  refine Evt.bind hi (Evt.no (by simp) ?_)
  refine for_evt' 0 (j : Int) (fun i (_ : Unit) => (a - sumM (p.2.1.take i.toNat), p, i, ())) (fun _ _ => True) (b0 := ()) (by simp [sumM]) (by omega) trivial ?_ ?_
  · intro i _ i0 i1 _
    obtain ⟨u, hu⟩ := at_of (l := p.2.1) i0 (by omega)
    have hm := sumM_mono h1' (i := (i + 1).toNat) (j := j) (by omega)
    have hm0 := sumM_mono h1' (i := 0) (j := i.toNat) (by omega)
    have e0 : sumM (p.2.1.take 0) = 0 := rfl
    have hu1 := h1' u hu.mem
    have et : sumM (p.2.1.take (i + 1).toNat) = sumM (p.2.1.take i.toNat) + u.2.1 := by rw [hu.take, sumM_snoc]
    have eu : wr .i64 u.2.1 = u.2.1 := S.rng.m.i2 hu.mem
    refine Round.at hu.idx (Round.yes (decide_eq_true (by dsimp only; rw [eu]; omega)) (Round.at hu.idx (Round.again _ ⟨(), ?_, trivial⟩)))
    dsimp only
    rw [eu, wr_succ i0 i1 (by omega), wrap_id (x := a - sumM (p.2.1.take i.toNat) - u.2.1) (by omega) (by omega), et, show a - sumM (p.2.1.take i.toNat) - u.2.1 = a - (sumM (p.2.1.take i.toNat) + u.2.1) by omega]
  · intro _ _
    rw [Int.toNat_natCast]
    have hm0 := sumM_mono h1' (i := 0) (j := j) (by omega)
    have e0 : sumM (p.2.1.take 0) = 0 := rfl
    obtain ⟨u, hu⟩ := at_of (l := p.2.1) (i := (j : Int)) (by omega) (by omega)
    have hvu : u = v := by
      have := hu.get
      rw [Int.toNat_natCast, hj] at this
      injection this with this
      exact this.symm
    subst hvu
    have eu : wr .i64 u.2.1 = u.2.1 := S.rng.m.i2 hu.mem
    exact Round.at hu.idx (Round.no (by dsimp only; rw [eu]; simp; omega) (Round.done (Evt.some _)))
/- spec.l02Steps -/
theorem e117 (p : Prg) (hr : RngPg p) (hn : (p.2.1.length : Int) ≤ 24) : Evt (fun n => call T C n 117 (p, ())) ((sumM p.2.1, ()), ()) := by
  refine Evt.next ?_ (fun n => r117 n p)
  refine for_evt' 0 (p.2.1.length : Int) (fun i (_ : Unit) => (p, sumM (p.2.1.take i.toNat), i, ())) (fun _ _ => True) (b0 := ()) (by simp [sumM]) (by omega) trivial ?_ ?_
  · intro i _ i0 i1 _
    obtain ⟨u, hu⟩ := at_of i0 i1
    have h1 := sumM_take hr.m hn i.toNat
    have h2 := sumM_take hr.m hn (i + 1).toNat
    have et : sumM (p.2.1.take (i + 1).toNat) = sumM (p.2.1.take i.toNat) + u.2.1 := by rw [hu.take, sumM_snoc]
    have eu : wr .i64 u.2.1 = u.2.1 := hr.m.i2 hu.mem
    refine Round.yes (decide_eq_true i1) (Round.at hu.idx (Round.again _ ⟨(), ?_, trivial⟩))
    dsimp only
    rw [eu, wr_succ i0 i1 (by omega), wrap_id (x := sumM (p.2.1.take i.toNat) + u.2.1) (by omega) (by omega), et]
  · intro _ _
    simp only [take_all]
    exact Round.no (by simp) (Round.done (Evt.some _))
/- spec.MotionAt -/
theorem e42 {p : Prg} (S : SmPg p) {a : Int} (a0 : 0 ≤ a) (a1 : a < sumM p.2.1) {j : Nat} {v : Ct} (hj : p.2.1[j]? = some v) (h1 : sumM (p.2.1.take j) ≤ a) (h2 : a < sumM (p.2.1.take j) + v.2.1) : Evt (fun n => call T C n 42 (p, a, ())) (((j : Int), a - sumM (p.2.1.take j), 0, ()), ()) := by
  have hv := e98 p S.rng
  rw [S.ok] at hv
  have hs := S.sum
  have hn := S.n
  have hi := e116 a 0 (sumM p.2.1 - 1)
  rw [inR_iff.2 ⟨a0, by omega⟩] at hi
  have hjl := (List.getElem?_eq_some_iff.1 hj).1
  have h1' : ∀ u ∈ p.2.1, 1 ≤ u.2.1 := fun u hu => (S.ins u hu).n.1
  refine Evt.next (Evt.bind hv (Evt.no (by simp) (Evt.bind (e117 p S.rng (by omega)) ?_))) (fun n => r42 n p a)
  dsimp only
  rw [wrap_id (x := sumM p.2.1 - 1) (by omega) (by omega)]
  refine Evt.bind hi (Evt.no (by simp) ?_)
  refine for_evt' 0 (j : Int) (fun i (_ : Unit) => (a - sumM (p.2.1.take i.toNat), p, i, ())) (fun _ _ => True) (b0 := ()) (by simp [sumM]) (by omega) trivial ?_ ?_
  · intro i _ i0 i1 _
    obtain ⟨u, hu⟩ := at_of (l := p.2.1) i0 (by omega)
    have hm := sumM_mono h1' (i := (i + 1).toNat) (j := j) (by omega)
    have hm0 := sumM_mono h1' (i := 0) (j := i.toNat) (by omega)
    have e0 : sumM (p.2.1.take 0) = 0 := rfl
    have hu1 := h1' u hu.mem
    have et : sumM (p.2.1.take (i + 1).toNat) = sumM (p.2.1.take i.toNat) + u.2.1 := by rw [hu.take, sumM_snoc]
    have eu : wr .i64 u.2.1 = u.2.1 := S.rng.m.i2 hu.mem
    refine Round.at hu.idx (Round.yes (decide_eq_true (by dsimp only; rw [eu]; omega)) (Round.at hu.idx (Round.again _ ⟨(), ?_, trivial⟩)))
    dsimp only
    rw [eu, wr_succ i0 i1 (by omega), wrap_id (x := a - sumM (p.2.1.take i.toNat) - u.2.1) (by omega) (by omega), et, show a - sumM (p.2.1.take i.toNat) - u.2.1 = a - (sumM (p.2.1.take i.toNat) + u.2.1) by omega]
  · intro _ _
    rw [Int.toNat_natCast]
    have hm0 := sumM_mono h1' (i := 0) (j := j) (by omega)
    have e0 : sumM (p.2.1.take 0) = 0 := rfl
    obtain ⟨u, hu⟩ := at_of (l := p.2.1) (i := (j : Int)) (by omega) (by omega)
    have hvu : u = v := by
      have := hu.get
      rw [Int.toNat_natCast, hj] at this
      injection this with this
      exact this.symm
    subst hvu
    have eu : wr .i64 u.2.1 = u.2.1 := S.rng.m.i2 hu.mem
    exact Round.at hu.idx (Round.no (by dsimp only; rw [eu]; simp; omega) (Round.done (Evt.some _)))
/- impl.isShape -/
theorem e118 {w k n0 : Int} (w0 : 0 ≤ w) (w1 : w ≤ 3) (k0 : 0 ≤ k) (k1 : k ≤ n0) (n1 : 1 ≤ n0) (n2 : n0 ≤ 360) : Evt (fun n => call T C n 118 (w, k, n0, ())) ((true, ()), ()) := by
  have h1 := e111 w
  rw [show inR w 0 3 = true from inR_iff.2 ⟨w0, w1⟩] at h1
  have h2 := e103 n0 1 360
  rw [show inR n0 1 360 = true from inR_iff.2 ⟨n1, n2⟩] at h2
  have h3 := e103 k 0 n0
  rw [show inR k 0 n0 = true from inR_iff.2 ⟨k0, k1⟩] at h3
  refine Evt.next (Evt.bind h1 ?_) (fun n => r118 n w k n0)
  refine Evt.yes rfl (Evt.bind h2 ?_)
  exact Evt.yes rfl (Evt.bind h3 (Evt.some _))
/- impl.LiftIn -/
theorem e43 {f t w k n0 : Int} (f0 : 0 ≤ f) (f1 : f ≤ 10000) (t0 : 0 ≤ t) (t1 : t ≤ 10000) (w0 : 0 ≤ w) (w1 : w ≤ 3) (k0 : 0 ≤ k) (k1 : k ≤ n0) (n1 : 1 ≤ n0) (n2 : n0 ≤ 360) : Evt (fun n => call T C n 43 (f, t, w, k, n0, ())) ((liftP f t w k n0, 0, ()), ()) := by
  have h2 := e102 f
  rw [show inR f 0 10000 = true from inR_iff.2 ⟨f0, f1⟩] at h2
  have h3 := e102 t
  rw [show inR t 0 10000 = true from inR_iff.2 ⟨t0, t1⟩] at h3
  refine Evt.next (Evt.bind (e118 w0 w1 k0 k1 n1 n2) ?_) (fun n => r43 n f t w k n0)
  refine Evt.no (by decide) (Evt.bind h2 ?_)
  refine Evt.no (by decide) (Evt.bind h3 ?_)
  exact Evt.no (by decide) (Evt.bind (e119 f0 f1 t0 t1 w0 w1 k0 k1 n1 n2) (Evt.some _))
/- impl.ReverseProgram -/
theorem e44 {p : Prg} (S : SmPg p) : Evt (fun n => call T C n 44 (p, ())) ((revP p, 0, ()), ()) := by
  refine Evt.next ?_ (fun n => r44 n p)
  dsimp only
  rw [if_pos (pgIn_of S.rng S.ok)]
  exact Evt.some _
/- spec.ReverseProgram -/
theorem e45 {p : Prg} (S : SmPg p) : Evt (fun n => call T C n 45 (p, ())) ((revP p, 0, ()), ()) := by
  have hv := e98 p S.rng
  rw [S.ok] at hv
  have hn := S.n
  have hl := S.len1
  refine Evt.next (Evt.bind hv (Evt.no (by simp) ?_)) (fun n => r45 n p)
  rw [wrap_id (x := (p.2.1.length : Int) - 1) (by omega) (by omega)]
  refine for_evt' 0 (p.2.1.length : Int) (fun i (_ : Unit) => (p, ((0 : Int), (([] : List Ct), ())), (p.1, rvk p.1 p.2.1 i.toNat, ()), (p.2.1.length : Int) - 1 - i, ())) (fun _ _ => True) (b0 := ()) (by simp [rvk]) (by omega) trivial ?_ ?_
  · intro i' _ i0 i1 _
    obtain ⟨i, rfl⟩ := Int.eq_ofNat_of_zero_le i0
    obtain ⟨k, hk⟩ : ∃ k, p.2.1.length = i + k + 1 := ⟨p.2.1.length - i - 1, by omega⟩
    have ek : (p.2.1.length : Int) - 1 - (i : Int) = (k : Int) := by omega
    rw [ek]
    obtain ⟨u, hu⟩ := at_of (l := p.2.1) (i := (k : Int)) (by omega) (by omega)
    have hul : p.2.1[k]? = some u := by simpa using hu.get
    have hlen := rvk_len p.1 p.2.1 i
    have es : ((i : Int) + 1).toNat = i + 1 := by omega
    refine Round.yes (decide_eq_true (by dsimp only; omega)) (Round.at hu.idx ?_)
    by_cases hk0 : 0 < k
    · obtain ⟨w, hw⟩ := at_of (l := p.2.1) (i := (k : Int) - 1) (by omega) (by omega)
      have hwl : p.2.1[k - 1]? = some w := by
        have := hw.get
        rwa [show ((k : Int) - 1).toNat = k - 1 by omega] at this
      have ee : revEl p.1 p.2.1 (p.2.1.length - 1 - i) = (u.1, u.2.1, w.2.2.1, ()) := by
        rw [show p.2.1.length - 1 - i = k by omega]
        unfold revEl prevT
        rw [hul]
        simp only
        rw [if_neg (by omega), hwl]
      rw [wrap_id (x := (k : Int) - 1) (by omega) (by omega)]
      refine Round.yes (decide_eq_true (by dsimp only; omega)) (Round.at hw.idx (Round.chk (decide_eq_true (by simp only [List.length_cons, List.length_nil, Int.toNat_natCast, hlen]; omega)) (Round.again _ ⟨(), ?_, trivial⟩)))
      rw [es, rvk_succ, ee, Int.toNat_natCast, show (p.2.1.length : Int) - 1 - ((i : Int) + 1) = (k : Int) - 1 by omega]
    · have ee : revEl p.1 p.2.1 (p.2.1.length - 1 - i) = (u.1, u.2.1, p.1, ()) := by
        rw [show p.2.1.length - 1 - i = k by omega]
        unfold revEl prevT
        rw [hul]
        simp only
        rw [if_pos (by omega)]
      refine Round.no (by simp; omega) (Round.chk (decide_eq_true (by simp only [List.length_cons, List.length_nil, Int.toNat_natCast, hlen]; omega)) (Round.again _ ⟨(), ?_, trivial⟩))
      rw [wrap_id (x := (k : Int) - 1) (by omega) (by omega), es, rvk_succ, ee, Int.toNat_natCast, show (p.2.1.length : Int) - 1 - ((i : Int) + 1) = (k : Int) - 1 by omega]
  · intro _ _
    rw [Int.toNat_natCast, ← revL_rvk]
    exact Round.no (by simp; omega) (Round.done (Evt.some _))
/- spec.l01Ok -/
theorem e121 (l : List Int) (hl : (l.length : Int) ≤ 140737488351232) : Evt (fun n => call T C n 121 (l, ())) ((okC l, ()), ()) := by
  refine Evt.next ?_ (fun n => r121 n l)
  refine Evt.bind (e174 _) ?_
  refine Evt.ite (fun h => ?_) (fun h => ?_)
  · refine (Evt.some _).of_eq fun n => ?_
    have h : inR (l.length : Int) 8 360 = false := by simpa using h
    simp [okC, h]
    rfl
  · have h : inR (l.length : Int) 8 360 = true := by simpa using h
    have he : okC l = l.all okV := by simp [okC, h]
    rw [he]
    refine loop_evt (fun (x : List Int × Int × Unit) => x.1 = l ∧ 0 ≤ x.2.1 ∧ x.2.1 ≤ (l.length : Int) ∧ l.all okV = (l.drop x.2.1.toNat).all okV) (fun (x : List Int × Int × Unit) => ((l.length : Int) - x.2.1).toNat) (x := (l, 0, ())) ⟨rfl, Int.le_refl _, by simp, by simp⟩ ?_
    rintro ⟨x1, i, _⟩ ⟨h', h0, h1, h2⟩
    simp only at h' h0 h1 h2
    subst h'
    refine Round.ite (fun hlt => ?_) (fun hge => ?_)
    · have hlt : i < (x1.length : Int) := of_decide_eq_true hlt
      obtain ⟨v, hv, hv'⟩ := idx_at h0 hlt
      have hd := drop_cons hv'
      refine Round.at hv (Round.bind (e172 _) (Round.ite (fun hb => ?_) (fun hb => ?_)))
      · have hb : okV v = false := by simpa [okV] using hb
        have h3 : x1.all okV = false := by rw [h2, hd]; simp [hb]
        rw [h3]
        exact Round.done (Evt.some _)
      · have hb : okV v = true := by simpa [okV] using hb
        have hw : wr .i64 (i + 1) = i + 1 := wrap_id (by omega) (by omega)
        refine Round.again _ ⟨⟨rfl, ?_, ?_, ?_⟩, ?_⟩ <;> simp only [hw]
        · omega
        · omega
        · rw [h2, hd, show (i + 1).toNat = i.toNat + 1 by omega]
          simp [hb]
        · omega
    · have hge : ¬ i < (x1.length : Int) := by simpa using hge
      have : x1.drop i.toNat = [] := List.drop_of_length_le (by omega)
      rw [h2, this]
      exact Round.done (Evt.some _)
/- spec.l01At -/
theorem e122 {l : List Int} (hr : Rng l) (h0 : 0 < (l.length : Int)) (h1 : (l.length : Int) ≤ 1000000) {x : Int} (hx : -4000000 ≤ x) (hx' : x ≤ 4000000) : ∃ v, l[(x % l.length).toNat]? = some v ∧ v ∈ l ∧ Evt (fun n => call T C n 122 (l, x, ())) ((v, ()), ()) := by
  have hp := Int.emod_nonneg x (show (l.length : Int) ≠ 0 by omega)
  obtain ⟨v, hv⟩ := at_of (l := l) hp (Int.emod_lt_of_pos x h0)
  refine ⟨v, hv.get, hv.mem, ?_⟩
  refine Evt.next (Evt.chk (bne_pos h0) (Evt.chk (bne_pos h0) ?_)) (fun n => r122 n l x)
  rw [turn_at h0 h1 hx hx']
  refine Evt.at hv.idx ((Evt.some _).of_eq fun n => ?_)
  rw [hr.id hv.mem]
  rfl
theorem e122' {l : List Int} (hr : Rng l) (h0 : 0 < (l.length : Int)) (h1 : (l.length : Int) ≤ 1000000) {x : Int} (hx : -4000000 ≤ x) (hx' : x ≤ 4000000) : Evt (fun n => call T C n 122 (l, x, ())) ((cAt l x, ()), ()) := by
  obtain ⟨v, hv, hm, he⟩ := e122 hr h0 h1 hx hx'
  have : cAt l x = v := by unfold cAt g; rw [List.getD_eq_getElem?_getD, hv]; rfl
  rw [this]; exact he
/- spec.MirrorCam -/
theorem e46 {c : List Int} (hr : Rng c) (ok : okC c = true) : Evt (fun n => call T C n 46 (c, ())) ((mir c, 0, ()), ()) := by
  have hl := okC_len ok
  have hC := okC_el ok hr
  have hv := e121 c (by omega)
  rw [ok] at hv
  refine Evt.next (Evt.bind hv (Evt.no (by simp) ?_)) (fun n => r46 n c)
  refine for_evt' 0 (c.length : Int) (fun i (_ : Unit) => (c, tb i.toNat (fun i => cAt c (-(i : Nat) : Int)), i, ())) (fun _ _ => True) (b0 := ()) rfl (by omega) trivial ?_ ?_
  · intro i _ i0 i1 _
    obtain ⟨i, rfl⟩ := Int.eq_ofNat_of_zero_le i0
    have hb := hC _ (cAt_mem (show 0 < c.length by omega) (-(i : Int)))
    have hA := e122' hr (by omega) (by omega) (x := -(i : Int)) (by omega) (by omega)
    refine Round.yes (decide_eq_true i1) ?_
    dsimp only
    rw [show (0 : Int) - (i : Int) = -(i : Int) by omega, wrap_id (x := -(i : Int)) (by omega) (by omega)]
    refine Round.bind hA (Round.chk (decide_eq_true (by rw [tb_len]; simp only [List.length_singleton]; omega)) (Round.again _ ⟨(), ?_, trivial⟩))
    rw [wr_succ i0 i1 (by omega), wrap16 (x := cAt c (-(i : Int))) (by omega) (by omega), show ((i : Int) + 1).toNat = i + 1 by omega, Int.toNat_natCast, ← tb_snoc]
  · intro _ _
    rw [Int.toNat_natCast]
    exact Round.no (by simp) (Round.done (Evt.some _))
/- slices.Clone[[]impl.Motion,impl.Motion] -/
theorem e123 (l : List Ct) (h0 : l.length ≠ 0) (hl : (l.length : Int) ≤ 1000000) : Evt (fun n => call T C n 123 (l, ())) ((l, ()), ()) :=
  Evt.next (Evt.yes (decide_eq_true h0) (Evt.chk (by simp; omega) (Evt.some _))) (fun n => r123 n l)
/- impl.orLimit -/
theorem e124 {p : Prg} (hr : RngPg p) (ok : okPg p = true) : Evt (fun n => call T C n 124 (p, ())) ((p, 0, ()), ()) := by
  have hv := e38 p hr
  rw [ok] at hv
  exact Evt.next (Evt.bind hv (Evt.no (by simp) (Evt.some _))) (fun n => r124 n p)
/- impl.RaiseProgram -/
theorem e47 {p : Prg} (S : SmPg p) {y : Int} (y0 : 0 ≤ y) (y1 : y ≤ 60) : Evt (fun n => call T C n 47 (p, y, ())) (((p.1 + y, upL y p.2.1, ()), 0, ()), ()) := by
  obtain ⟨u1, u2, u3⟩ := S.up y0 y1
  have hv := e38 p S.rng
  rw [S.ok] at hv
  have hn := S.n
  have hl := S.len1
  have ht := S.t
  have hi := e103 y (-10000) 10000
  rw [show inR y (-10000) 10000 = true from inR_iff.2 ⟨by omega, by omega⟩] at hi
  refine Evt.next (Evt.bind hv (Evt.no (by simp) (Evt.bind hi (Evt.no (by simp) (Evt.bind (e123 p.2.1 (by omega) (by omega)) ?_))))) (fun n => r47 n p y)
  dsimp only
  have ey : wr .i16 y = y := wrap16 (by omega) (by omega)
  rw [ey, wrap16 (x := p.1 + y) (by omega) (by omega)]
  have hal : ∀ i : Nat, i ≤ p.2.1.length → (upL y (p.2.1.take i) ++ p.2.1.drop i).length = p.2.1.length := fun i hi => by
    rw [List.length_append, upL_len, ← List.length_append, List.take_append_drop]
  refine for_evt' 0 (p.2.1.length : Int) (fun i (_ : Unit) => (y, ((0 : Int), (([] : List Ct), ())), (p.1 + y, upL y (p.2.1.take i.toNat) ++ p.2.1.drop i.toNat, ()), (p.2.1.length : Int), i, ())) (fun _ _ => True) (b0 := ()) (by simp [upL]) (by omega) trivial ?_ ?_
  · intro i' _ i0 i1 _
    obtain ⟨i, rfl⟩ := Int.eq_ofNat_of_zero_le i0
    have hi' : i < p.2.1.length := by omega
    have hu : p.2.1[i]? = some p.2.1[i] := List.getElem?_eq_getElem hi'
    have hb := S.ins _ (List.getElem_mem hi')
    have hb3 := hb.t
    generalize p.2.1[i] = u at hu hb hb3
    have es : ((i : Int) + 1).toNat = i + 1 := by omega
    have hla := hal i (by omega)
    have hd : p.2.1.drop i = u :: p.2.1.drop (i + 1) := by
      rw [List.drop_eq_getElem_cons hi']
      congr 1
      rw [List.getElem?_eq_getElem hi'] at hu
      injection hu
    have htk : p.2.1.take (i + 1) = p.2.1.take i ++ [u] := by
      rw [List.take_add_one, hu]
      rfl
    have hlt : (upL y (p.2.1.take i)).length = i := by rw [upL_len, List.length_take]; omega
    have hat : (upL y (p.2.1.take i) ++ p.2.1.drop i)[i]? = some u := by
      rw [List.getElem?_append_right (by omega), hlt, Nat.sub_self, hd]
      rfl
    dsimp only
    rw [Int.toNat_natCast, es]
    have hch : decide (0 ≤ (i : Int) ∧ (i : Int) < ((upL y (p.2.1.take i) ++ p.2.1.drop i).length : Int)) = true := decide_eq_true ⟨by omega, by rw [hla]; omega⟩
    refine Round.yes (decide_eq_true i1) (Round.chk hch ?_)
    rw [hat]
    refine Round.chk hch ?_
    refine Round.again _ ⟨(), ?_, trivial⟩
    rw [ey, wrap16 (x := u.2.2.1 + y) (by omega) (by omega), wr_succ i0 i1 (by omega)]
    have e : (upL y (p.2.1.take i) ++ p.2.1.drop i).set i (u.1, u.2.1, u.2.2.1 + y, u.2.2.2) = upL y (p.2.1.take (i + 1)) ++ p.2.1.drop (i + 1) := by
      rw [List.set_append_right _ _ (by omega), hlt, Nat.sub_self, hd, htk]
      simp [upL]
    rw [e]
  · intro _ _
    rw [Int.toNat_natCast, List.take_length, List.drop_length, List.append_nil]
    exact Round.no (by simp) (Round.bind (e124 u1 u2) (Round.done (Evt.some _)))
/- spec.l01Made -/
theorem e125 {l : List Int} (hl : l.length ≤ 1000) (he : ∀ v ∈ l, 0 ≤ v ∧ v ≤ 10000) : Evt (fun n => call T C n 125 (l, ())) ((l, 0, ()), ()) := by
  refine Evt.next ?_ (fun n => r125 n l)
  refine for_evt' 0 (l.length : Int) (fun i (_ : Unit) => (l, l.take i.toNat, i, ())) (fun _ _ => True) (b0 := ()) rfl (by omega) trivial ?_ ?_
  · intro i _ h2 h3 _
    obtain ⟨v, hv⟩ := at_of h2 h3
    have hvb := he v hv.mem
    have hA := e172 v
    rw [inR_iff.2 hvb] at hA
    refine Round.yes (decide_eq_true h3) (Round.at hv.idx (Round.bind hA (Round.no (by simp) (Round.at hv.idx (Round.chk (decide_eq_true (by simp only [List.length_cons, List.length_nil, List.length_take]; omega)) (Round.again _ ⟨(), ?_, trivial⟩))))))
    rw [wrap16 (x := v) (by omega) (by omega), ← hv.take, wr_succ h2 h3 (by omega)]
  · intro _ _
    simp only [take_all]
    exact Round.no (by simp) (Round.done (Evt.some _))
/- spec.RaiseCam -/
theorem e48 {c : List Int} (hr : Rng c) (ok : okC c = true) {y : Int} (y0 : -10000 ≤ y) (y1 : y ≤ 10000) (hy : ∀ v ∈ c, 0 ≤ v + y ∧ v + y ≤ 10000) : Evt (fun n => call T C n 48 (c, y, ())) ((c.map (fun v => v + y), 0, ()), ()) := by
  have hl := okC_len ok
  have hC := okC_el ok hr
  have hv := e121 c (by omega)
  rw [ok] at hv
  have hi := e116 y (-10000) 10000
  rw [show inR y (-10000) 10000 = true from inR_iff.2 ⟨y0, y1⟩] at hi
  refine Evt.next (Evt.bind hv (Evt.no (by simp) (Evt.bind hi (Evt.no (by simp) ?_)))) (fun n => r48 n c y)
  refine for_evt' 0 (c.length : Int) (fun i (_ : Unit) => (c, y, (c.take i.toNat).map (fun v => v + y), i, ())) (fun _ _ => True) (b0 := ()) (by simp) (by omega) trivial ?_ ?_
  · intro i _ i0 i1 _
    obtain ⟨v, hv⟩ := at_of i0 i1
    have hb := hC v hv.mem
    have hlen : ((c.take i.toNat).map fun v => v + y).length ≤ c.length := by rw [List.length_map, List.length_take]; omega
    refine Round.yes (decide_eq_true i1) (Round.at hv.idx (Round.chk (decide_eq_true (by simp only [List.length_cons, List.length_nil]; omega)) (Round.again _ ⟨(), ?_, trivial⟩)))
    dsimp only
    rw [wr_succ i0 i1 (by omega), wrap_id (x := v) (by omega) (by omega), wrap_id (x := v + y) (by omega) (by omega), hv.take, List.map_append]
    rfl
  · intro _ _
    simp only [take_all]
    refine Round.no (by simp) (Round.bind (e125 (l := c.map fun v => v + y) (by rw [List.length_map]; omega) (fun x hx => ?_)) (Round.done (Evt.some _)))
    obtain ⟨v, hv, rfl⟩ := List.mem_map.1 hx
    exact hy v hv
/- slices.Grow[[]impl.Motion,impl.Motion] -/
theorem e185 (a : Int) (h0 : 0 ≤ a) (h1 : a ≤ 1000000) : Evt (fun n => call T C n 185 ((), a, ())) (([], ()), ()) := by
  have hw : wr .i64 (a - wr .i64 (0 - 0)) = a := by
    have : wr .i64 (0 - 0) = 0 := rfl
    rw [this, wrap_id (by omega) (by omega)]; omega
  refine Evt.next ?_ (fun n => r185 n () a)
  simp only [hw]
  refine Evt.no (by simp; omega) (Evt.ite (fun h => ?_) (fun h => ?_))
  · exact Evt.chk rfl (Evt.chk (by simp; omega) (Evt.chk (by simp; omega) ((Evt.some _).of_eq fun n => by simp; rfl)))
  · exact Evt.some _
/- slices.Concat[[]impl.Motion,impl.Motion] -/
theorem e126 (l : List (List Ct)) (h : (l.flatten.length : Int) ≤ 1000000) (hl : (l.length : Int) ≤ 1000000) : Evt (fun n => call T C n 126 (l, ())) ((l.flatten, ()), ()) := by
  have hsplit : ∀ i : Nat, (l.take i).flatten.length + (l.drop i).flatten.length = l.flatten.length := by
    intro i
    rw [← List.length_append, ← List.flatten_append, List.take_append_drop]
  refine Evt.next ?_ (fun n => r126 n l)
  refine for_evt' 0 (l.length : Int) (fun i (_ : Unit) => (l, ((l.take i.toNat).flatten.length : Int), l, (l.length : Int), i, ())) (fun _ _ => True) (b0 := ()) (by simp) (by omega) trivial ?_ ?_
  · intro i _ h2 h3 _
    obtain ⟨v, hv⟩ := at_of (l := l) h2 h3
    have hs := hsplit (i + 1).toNat
    rw [hv.take, List.flatten_append, List.length_append] at hs
    simp only [List.flatten_cons, List.flatten_nil, List.append_nil] at hs
    simp only [wr_succ h2 h3 (by omega), wrap_id (x := ((l.take i.toNat).flatten.length : Int) + (v.length : Int)) (by omega) (by omega)]
    refine Round.yes (decide_eq_true h3) (Round.at hv.idx ?_)
    simp only [wrap_id (x := ((l.take i.toNat).flatten.length : Int) + (v.length : Int)) (by omega) (by omega)]
    refine Round.no (by simp; omega) (Round.again _ ⟨(), ?_, trivial⟩)
    rw [hv.take, List.flatten_append, List.length_append]
    simp
  · intro _ _
    simp only [take_all]
    refine Round.no (by simp) (Round.bind (e185 _ (by omega) h) (Round.done ?_))
    refine for_evt' 0 (l.length : Int) (fun i (_ : Unit) => ((l.take i.toNat).flatten, l, (l.length : Int), i, ())) (fun _ _ => True) (b0 := ()) (by simp) (by omega) trivial ?_ ?_
    · intro i _ h2 h3 _
      obtain ⟨v, hv⟩ := at_of (l := l) h2 h3
      have hs := hsplit (i + 1).toNat
      rw [hv.take, List.flatten_append, List.length_append] at hs
      simp only [List.flatten_cons, List.flatten_nil, List.append_nil] at hs
      refine Round.yes (decide_eq_true h3) (Round.at hv.idx (Round.chk (decide_eq_true (by show ((l.take i.toNat).flatten.length + v.length) * 6 ≤ 140737488355328; omega)) (Round.again _ ⟨(), ?_, trivial⟩)))
      rw [hv.take, List.flatten_append, wr_succ h2 h3 (by omega)]
      simp
    · intro _ _
      simp only [take_all]
      exact Round.no (by simp) (Round.done (Evt.some _))
/- impl.JoinPrograms -/
theorem e49 {p q : Prg} (S : SmPg p) (Q : SmPg q) (e : p.1 = q.1) : Evt (fun n => call T C n 49 (p, q, ())) (((p.1, p.2.1 ++ q.2.1, ()), 0, ()), ()) := by
  obtain ⟨j1, j2, _, _⟩ := S.join Q e
  have hv := e38 p S.rng
  rw [S.ok] at hv
  have hw := e38 q Q.rng
  rw [Q.ok] at hw
  have h1 := S.n
  have h2 := Q.n
  have ef : [p.2.1, q.2.1].flatten = p.2.1 ++ q.2.1 := by simp
  have hc := e126 [p.2.1, q.2.1] (by rw [ef, List.length_append]; omega) (by simp)
  rw [ef] at hc
  exact Evt.next (Evt.bind hv (Evt.no (by simp) (Evt.bind hw (Evt.no (by simp) (Evt.no (by simp [e]) (Evt.bind hc (Evt.bind (e124 j1 j2) (Evt.some _)))))))) (fun n => r49 n p q)
/- impl.mod -/
theorem e136 {a b : Int} (hb : 0 < b) (hb' : b ≤ 1000000000000) (h1 : -1000000000000 ≤ a) (h2 : a ≤ 1000000000000) : Evt (fun n => call T C n 136 (a, b, ())) ((a % b, ()), ()) := by
  have hd := Int.emod_def a b
  have h3 := Int.emod_nonneg a (show b ≠ 0 by omega)
  have h4 := Int.emod_lt_of_pos a hb
  refine Evt.next (Evt.bind (e187 hb (by omega) (by omega)) ((Evt.some _).of_eq fun n => ?_)) (fun n => r136 n a b)
  simp only
  rw [wrap_id (x := b * (a / b)) (by omega) (by omega), ← hd, wrap_id (by omega) (by omega)]
  rfl
/- (impl.Cam).at -/
theorem e160 {l : List Int} (hr : Rng l) (h0 : 0 < (l.length : Int)) (h1 : (l.length : Int) ≤ 1000000) {x : Int} (hx : -4000000 ≤ x) (hx' : x ≤ 4000000) : Evt (fun n => call T C n 160 (l, x, ())) ((cAt l x, ()), ()) := by
  have hp := Int.emod_nonneg x (show (l.length : Int) ≠ 0 by omega)
  have hq := Int.emod_lt_of_pos x h0
  have hv := g_idx (l := l) hp hq
  refine Evt.next (Evt.bind (e113 l) (Evt.bind (e136 (a := x) h0 (by omega) (by omega) (by omega)) (Evt.at hv.idx ((Evt.some _).of_eq fun n => ?_)))) (fun n => r160 n l x)
  rw [hr.id hv.mem]
  rfl
/- (impl.Cam).change -/
theorem e129 {c : List Int} (hr : Rng c) (h0 : 0 < c.length) (h1 : c.length ≤ 1000) {x : Int} (x0 : -1000000 ≤ x) (x1 : x ≤ 1000000) : Evt (fun n => call T C n 129 (c, x, ())) ((cAt c (x + 1) - cAt c x, ()), ()) := by
  have b1 := hr.el _ (cAt_mem h0 (x + 1))
  have b2 := hr.el _ (cAt_mem h0 x)
  refine Evt.next ?_ (fun n => r129 n c x)
  rw [wrap_id (x := x + 1) (by omega) (by omega)]
  refine Evt.bind (e160 hr (by omega) (by omega) (by omega) (by omega)) (Evt.bind (e160 hr (by omega) (by omega) (by omega) (by omega)) ((Evt.some _).of_eq fun n => ?_))
  show some ((wr .i64 (cAt c (x + 1) - cAt c x), ()), ()) = _
  rw [wrap_id (x := cAt c (x + 1) - cAt c x) (by omega) (by omega)]
  rfl
/- (impl.Cam).numbers{(impl.Cam).change} -/
theorem e128 {c : List Int} (hr : Rng c) (h0 : 0 < c.length) (h1 : c.length ≤ 1000) : Evt (fun n => call T C n 128 (c, ((c, ()), ()), ())) ((tb c.length (fun i : Nat => cAt c ((i : Nat) + 1) - cAt c (i : Nat)), ()), (((c, ()), ()), ())) := by
  refine Evt.next (Evt.bind (e113 c) ?_) (fun n => r128 n c ((c, ()), ()))
  have hE : ∀ i : Nat, i < c.length → Evt (fun n => call T C n 129 (c, (i : Int), ())) ((cAt c ((i : Nat) + 1) - cAt c (i : Nat), ()), ()) := fun i hi => e129 hr h0 h1 (by omega) (by omega)
  obtain ⟨F, eF⟩ : ∃ F : Nat → Int, F = (fun i : Nat => cAt c ((i : Nat) + 1) - cAt c (i : Nat)) := ⟨_, rfl⟩
  rw [← eF]
  refine for_evt' 0 (c.length : Int) (fun i (_ : Unit) => (((c, ()), ()), tb i.toNat F, (c.length : Int), i, ())) (fun _ _ => True) (b0 := ()) rfl (by omega) trivial ?_ ?_
  · intro i' _ h2 h3 _
    obtain ⟨i, rfl⟩ : ∃ i : Nat, i' = i := ⟨i'.toNat, by omega⟩
    have hi : i < c.length := by omega
    have hc := hE i hi
    have lT : (tb i F).length = i := tb_len _ _
    have eFi : F i = cAt c ((i : Nat) + 1) - cAt c (i : Nat) := by rw [eF]
    rw [Int.toNat_natCast, show ((i : Int) + 1).toNat = i + 1 by omega]
    refine Round.yes (decide_eq_true h3) (Round.bind hc (Round.chk (decide_eq_true (by simp only [List.length_cons, List.length_nil, lT]; omega)) (Round.again _ ⟨(), ?_, trivial⟩)))
    rw [wrap_id (x := (i : Int) + 1) (by omega) (by omega), ← tb_snoc, eFi]
  · intro _ _
    rw [Int.toNat_natCast]
    exact Round.no (by simp) (Round.done (Evt.some _))
/- impl.abs -/
theorem e134 {a : Int} (h1 : -1000000000000 ≤ a) (h2 : a ≤ 1000000000000) : Evt (fun n => call T C n 134 (a, ())) ((siz a, ()), ()) := by
  refine Evt.next ((Evt.some _).of_eq fun n => ?_) (fun n => r134 n a)
  rw [wrap_id (x := 0 - a) (by omega) (by omega)]
  unfold siz
  have : (if 0 - a > a then 0 - a else a) = if a < 0 then -a else a := by split <;> split <;> omega
  rw [this]
  rfl
/- impl.greatest -/
theorem e127 {l : List Int} (hl : (l.length : Int) ≤ 1000000) (hb : ∀ v ∈ l, -1000000000000 ≤ v ∧ v ≤ 1000000000000) : Evt (fun n => call T C n 127 (l, ())) (((gr l).1, (gr l).2.1, ()), ()) := by
  refine Evt.next ?_ (fun n => r127 n l)
  refine for_evt' 0 (l.length : Int) (fun i (_ : Unit) => ((gr (l.take i.toNat)).1, (gr (l.take i.toNat)).2.1, l, (l.length : Int), i, ())) (fun _ _ => True) (b0 := ()) rfl (by omega) trivial ?_ ?_
  · intro i _ h2 h3 _
    obtain ⟨v, hv⟩ := at_of h2 h3
    have hvb := hb v hv.mem
    have hA := e134 hvb.1 hvb.2
    have hn : (gr (l.take i.toNat)).2.2 = i := by
      have := gr_n (l.take i.toNat) (0, -1, 0)
      have h4 : (l.take i.toNat).length = i.toNat := by rw [List.length_take]; omega
      rw [h4] at this
      unfold gr
      rw [this]
      show (0 : Int) + ((i.toNat : Nat) : Int) = i
      omega
    refine Round.yes (decide_eq_true h3) (Round.at hv.idx (Round.bind hA (Round.ite (fun hc => ?_) (fun hc => ?_))))
    · have hc : siz v > (gr (l.take i.toNat)).2.1 := of_decide_eq_true hc
      refine Round.bind hA (Round.again _ ⟨(), ?_, trivial⟩)
      rw [hv.take, gr_snoc, wr_succ h2 h3 (by omega)]
      unfold grS
      rw [if_pos hc, hn]
    · have hc : ¬ siz v > (gr (l.take i.toNat)).2.1 := by simpa using hc
      refine Round.again _ ⟨(), ?_, trivial⟩
      rw [hv.take, gr_snoc, wr_succ h2 h3 (by omega)]
      unfold grS
      rw [if_neg hc]
  · intro _ _
    simp only [take_all]
    exact Round.no (by simp) (Round.done (Evt.some _))
/- impl.GreatestChange -/
theorem e50 {p : Prg} (S : SmPg p) : Evt (fun n => call T C n 50 (p, ())) (((gr (chgL (proF p.1 p.2.1))).2.1, 0, ()), ()) := by
  have hv := e38 p S.rng
  rw [S.ok] at hv
  have SC := S.cam
  have hl := SC.len
  have ht := S.t
  have hn := S.n
  have hP := e97 S.rng (by omega) (by omega) (fun v hv => (S.ins v hv).wide (by omega) (by omega))
  generalize proF p.1 p.2.1 = c at *
  have hC := SC.el
  have hN := e128 SC.rng (by omega) (by omega)
  have hG := e127 (l := chgL c) (by rw [chgL_len]; omega) (fun v hv => by
    obtain ⟨x, rfl⟩ := chgL_mem hv
    have := hC _ (cAt_mem (show 0 < c.length by omega) x)
    have := hC _ (cAt_mem (show 0 < c.length by omega) (x + 1))
    omega)
  refine Evt.next ?_ (fun n => r50 n p)
  exact Evt.bind hv (Evt.no (by simp) (Evt.bind hP (Evt.bind hN (Evt.bind hG (Evt.some _)))))
/- spec.l01Changes -/
theorem e131 {c : List Int} (hr : Rng c) (h0 : 0 < c.length) (h1 : c.length ≤ 1000) : Evt (fun n => call T C n 131 (c, ())) ((chgL c, ()), ()) := by
  refine Evt.next ?_ (fun n => r131 n c)
  refine for_evt' 0 (c.length : Int) (fun i (_ : Unit) => (c, (List.range i.toNat).map (fun i => cAt c ((i : Nat) + 1) - cAt c (i : Nat)), i, ())) (fun _ _ => True) (b0 := ()) rfl (by omega) trivial ?_ ?_
  · intro i _ h2 h3 _
    have b1 := hr.el _ (cAt_mem h0 (i + 1))
    have b2 := hr.el _ (cAt_mem h0 i)
    simp only [wr_succ h2 h3 (by omega)]
    refine Round.yes (decide_eq_true h3) (Round.bind (e122' hr (by omega) (by omega) (by omega) (by omega)) (Round.bind (e122' hr (by omega) (by omega) (by omega) (by omega)) (Round.chk (decide_eq_true (by simp; omega)) (Round.again _ ⟨(), ?_, trivial⟩))))
    show (c, _ ++ [wr .i64 (cAt c (i + 1) - cAt c i)], i + 1, ()) = _
    rw [wrap_id (x := cAt c (i + 1) - cAt c i) (by omega) (by omega), show (i + 1).toNat = i.toNat + 1 by omega, List.range_succ, List.map_append]
    simp [show ((i.toNat : Nat) : Int) = i by omega]
  · intro _ _
    exact Round.no (by simp) (Round.done (Evt.some ((chgL c, ()), ())))
/- spec.l01Size -/
theorem e142 {a : Int} (h1 : -1000000000000 ≤ a) (h2 : a ≤ 1000000000000) : Evt (fun n => call T C n 142 (a, ())) ((siz a, ()), ()) := by
  refine Evt.next ?_ (fun n => r142 n a)
  unfold siz
  rw [wrap_id (x := 0 - a) (by omega) (by omega)]
  refine Evt.ite (fun h => ?_) (fun h => ?_)
  · rw [if_pos (of_decide_eq_true h), Int.zero_sub]; exact Evt.some _
  · rw [if_neg (by simpa using h)]; exact Evt.some _
/- spec.l01Greatest -/
theorem e130 {l : List Int} (h0 : 0 < l.length) (hl : l.length ≤ 1000000) (hb : ∀ v ∈ l, -1000000 ≤ v ∧ v ≤ 1000000) : Evt (fun n => call T C n 130 (l, ())) ((((gb l l.length : Nat) : Int), gbM l, ()), ()) := by
  refine Evt.next ?_ (fun n => r130 n l)
  have hat : ∀ i, i < l.length → idx l (i : Int) = some (l.getD i 0) := fun i hi => by
    unfold idx
    rw [if_pos (by omega), Int.toNat_natCast, List.getD_eq_getElem?_getD, List.getElem?_eq_getElem hi]
    rfl
  have hsz : ∀ i, i < l.length → Evt (fun n => call T C n 142 (l.getD i 0, ())) ((siz (l.getD i 0), ()), ()) := fun i hi => by
    have := hb _ (getD_mem hi)
    exact e142 (by omega) (by omega)
  refine for_evt' 1 (l.length : Int) (fun i (_ : Unit) => (l, ((gb l i.toNat : Nat) : Int), i, ())) (fun _ _ => True) (b0 := ()) (by rw [show (1 : Int).toNat = 1 from rfl, gb_one]; rfl) (by omega) trivial ?_ ?_
  · intro i _ i0 i1 _
    obtain ⟨i, rfl⟩ := Int.eq_ofNat_of_zero_le (a := i) (by omega)
    have hi : i < l.length := by omega
    have hg := gb_lt l i (by omega) h0
    have hws := wr_succ (i := (i : Int)) (by omega) i1 (by omega)
    rw [Int.toNat_natCast]
    dsimp only
    refine Round.yes (decide_eq_true i1) (Round.at (hat i hi) (Round.bind (hsz i hi) (Round.at (hat _ hg) (Round.bind (hsz _ hg) ?_))))
    dsimp only
    have en : gb l (i + 1) = gbS l (gb l i) i := rfl
    by_cases h : siz (l.getD i 0) > siz (l.getD (gb l i) 0)
    · refine Round.yes (decide_eq_true h) (Round.again _ ⟨(), ?_, trivial⟩)
      have e : gbS l (gb l i) i = i := if_pos h
      rw [hws, show ((i : Int) + 1).toNat = i + 1 by omega, en, e]
    · refine Round.no (by simpa using h) (Round.again _ ⟨(), ?_, trivial⟩)
      have e : gbS l (gb l i) i = gb l i := if_neg h
      rw [hws, show ((i : Int) + 1).toNat = i + 1 by omega, en, e]
  · intro _ _
    rw [Int.toNat_natCast]
    have hg := gb_lt l l.length (Nat.le_refl _) h0
    dsimp only
    exact Round.no (by simp) (Round.at (hat _ hg) (Round.bind (hsz _ hg) (Round.done (Evt.some _))))
/- spec.SteepestOf -/
theorem e51 {c : List Int} (SC : SmC c) : Evt (fun n => call T C n 51 (c, ())) (((((gb (chgL c) (chgL c).length : Nat) : Int)), (gr (chgL c)).2.1, 0, ()), ()) := by
  have hl := SC.len
  have hC := SC.el
  have hv := e121 c (by omega)
  rw [SC.ok] at hv
  have hL := chgL_len c
  have hG := e130 (l := chgL c) (by omega) (by omega) (fun v hv => by
    obtain ⟨x, rfl⟩ := chgL_mem hv
    have := hC _ (cAt_mem (show 0 < c.length by omega) x)
    have := hC _ (cAt_mem (show 0 < c.length by omega) (x + 1))
    omega)
  rw [gbM_gr (by omega)] at hG
  refine Evt.next ?_ (fun n => r51 n c)
  exact Evt.bind hv (Evt.no (by simp) (Evt.bind (e131 SC.rng (by omega) (by omega)) (Evt.bind hG (Evt.some _))))
/- laws.FnPrograms -/
theorem e4 (a b : List Int) (hd : DomA (C 4).params (a, b, ())) : Evt (fun n => call T C n 4 (a, b, ())) ((true, ()), ()) := by
  have ha : ∀ v ∈ a, 0 ≤ v ∧ v ≤ 255 := byte_of hd.1
  have hb : ∀ v ∈ b, 0 ≤ v ∧ v ≤ 255 := byte_of hd.2.1
  refine Evt.next (Evt.bind (e28 a b) (Evt.ite (fun _ => Evt.some _) (fun hx => ?_))) (fun n => r4 n a b)
  have hx : (a.length : Int) ≤ 3000 ∧ (b.length : Int) ≤ 3000 := by simpa using hx
  obtain ⟨p, hP, S⟩ := e29 ha hx.1
  have hl1 := S.len1
  have hn := S.n
  have ht := S.t
  have hs := S.sum
  have SC := S.cam
  have SQ := S.rev
  have hcl : ((proF p.1 p.2.1).length : Int) = sumM p.2.1 := proF_len _ _ fun v hv => (S.ins v hv).n.1
  have hin : ∀ v ∈ p.2.1, MoIn 0 10000 v := fun v hv => (S.ins v hv).wide (by omega) (by omega)
  have h1' : ∀ u ∈ p.2.1, 1 ≤ u.2.1 := fun u hu => (S.ins u hu).n.1
  have hM1 := e30 S.rng S.ok hin
  have hM2 := e31 S
  have hSt := e32 S
  have hT := e34 p S.rng
  have eT : ptR p = tx (pgT p) := by
    unfold ptR
    rw [if_pos S.ok]
    rfl
  rw [eT] at hT
  have hR := e33 (pgT p) (by
    have := (pgW_len (t := p.1) S.rng.m (by omega) (by omega) p.2.1.length).1
    rw [List.take_length] at this
    unfold pgT
    omega)
  have eR : rdPg (pgT p) = (p, 0) := by
    unfold rdPg
    rw [srPg_text S.rng S.ok]
    simp only
    rw [if_pos S.ok]
  rw [eR] at hR
  have hSm1 := e36 p (by omega)
  have hSm2 := e37 p (by omega)
  have hV := e38 p S.rng
  rw [S.ok] at hV
  have hVC := e39 (proF p.1 p.2.1) (by omega)
  rw [SC.ok] at hVC
  obtain ⟨x, hA, x0, x1⟩ := e40 hb (i := 0) (m := sumM p.2.1) (by omega) (by omega)
  obtain ⟨j, u, hj, j1, j2⟩ := mo_at p.2.1 x h1' x0 x1
  have hMA := e41 S x0 x1 hj j1 j2
  have hMB := e42 S x0 x1 hj j1 j2
  have hat := proF_at (f := p.1) h1' hj j1 j2 x0
  rw [toF_prev hj] at hat
  have hjl := (List.getElem?_eq_some_iff.1 hj).1
  have hu := List.mem_of_getElem? hj
  have hui := hin u hu
  have uw := hui.w
  have un := hui.n
  have ut := hui.t
  have eu1 : wr .i64 u.1 = u.1 := S.rng.m.i1 hu
  have eu2 : wr .i64 u.2.1 = u.2.1 := S.rng.m.i2 hu
  have eu3 : wr .i64 u.2.2.1 = u.2.2.1 := S.rng.m.i3 hu
  have hRv := e44 S
  have hRs := e45 S
  have hM3 := e30 SQ.rng SQ.ok (fun v hv => (SQ.ins v hv).wide (by omega) (by omega))
  rw [rev_mir S] at hM3
  have hMi := e46 SC.rng SC.ok
  have hSR := e37 (revP p) (by have := SQ.n; omega)
  have hSC2 := e35 (mir (proF p.1 p.2.1)) (by rw [mir_len]; omega)
  obtain ⟨y, hY, y0, y1⟩ := e40 hb (i := 1) (m := 60) (by omega) (by omega)
  obtain ⟨u1, u2, u3⟩ := S.up y0 (by omega)
  have hUp := e47 S y0 (by omega)
  have hM4 := e30 u1 u2 u3
  have eUp : proF (p.1 + y) (upL y p.2.1) = (proF p.1 p.2.1).map fun v => v + y := pro_up y p.2.1 p.1 fun v hv => (S.ins v hv).n
  simp only at hM4
  rw [eUp] at hM4
  have hRc := e48 SC.rng SC.ok (y := y) (by omega) (by omega) (fun v hv => by have := SC.el v hv; omega)
  have hSC3 := e35 ((proF p.1 p.2.1).map fun v => v + y) (by rw [List.length_map]; omega)
  obtain ⟨j3, j4, j5, j6⟩ := S.join SQ rfl
  have hJ := e49 S SQ rfl
  have hM5 := e30 j3 j4 j5
  have hG := e50 S
  have hG2 := e51 SC
  have hSC1 := e35 (proF p.1 p.2.1) (by omega)
  have hsr : sumM (revP p).2.1 = sumM p.2.1 := revL_sum _ _
  rw [hsr] at j6
  simp only at hM5
  refine Evt.bind hP (Evt.bind hM1 (Evt.bind hM2 (Evt.bind hSt (Evt.bind hT (Evt.bind hR ?_)))))
  refine Evt.no (by simp) (Evt.no (by simp) (Evt.bind hSC1 (Evt.no (by simp) (Evt.no (by simp) (Evt.no (by simp [hcl]) (Evt.no (by simp) ?_))))))
  refine Evt.bind hSm1 (Evt.no (by simp) (Evt.bind hSm2 (Evt.no (by simp) (Evt.bind hV (Evt.no (by simp) (Evt.bind hVC (Evt.no (by simp) ?_)))))))
  refine Evt.bind hA (Evt.bind hMA (Evt.bind hMB ?_))
  refine Evt.no (by simp) (Evt.no (by simp) (Evt.no (by simp) (Evt.no (by simp) (Evt.no (by simp) (Evt.no (by simp; omega) (Evt.no (by simp; omega) ?_))))))
  obtain ⟨u', hAt⟩ := at_of (l := p.2.1) (i := (j : Int)) (by omega) (by omega)
  have hvu : u' = u := by
    have := hAt.get
    rw [Int.toNat_natCast, hj] at this
    injection this with this
    exact this.symm
  subst hvu
  have hpre := toF_in (p.2.1.take j) (f := p.1) (fun v hv => S.ins v (List.mem_of_mem_take hv)) ht.1 ht.2
  rw [toF_prev hj] at hpre
  have hL := e43 (f := prevT p.1 p.2.1 j) (t := u'.2.2.1) (w := u'.1) (k := x - sumM (p.2.1.take j)) (n0 := u'.2.1) (by omega) (by omega) (by omega) (by omega) (by omega) (by omega) (by omega) (by omega) (by omega) (by omega)
  have hxl : x.toNat < (proF p.1 p.2.1).length := by omega
  have hlv := SC.el (liftP (prevT p.1 p.2.1 j) u'.2.2.1 u'.1 (x - sumM (p.2.1.take j)) u'.2.1) (List.mem_of_getElem? hat)
  have ev : wr .i64 (liftP (prevT p.1 p.2.1 j) u'.2.2.1 u'.1 (x - sumM (p.2.1.take j)) u'.2.1) = liftP (prevT p.1 p.2.1 j) u'.2.2.1 u'.1 (x - sumM (p.2.1.take j)) u'.2.1 := wrap_id (by omega) (by omega)
  have ckx : decide (0 ≤ x ∧ x < ((proF p.1 p.2.1).length : Int)) = true := decide_eq_true ⟨by omega, by omega⟩
  have j6' : ((proF p.1 (p.2.1 ++ (revP p).2.1)).length : Int) = sumM p.2.1 + sumM p.2.1 := j6
  refine Evt.at hAt.idx (Evt.no (by dsimp only; rw [eu2]; simp; omega) ?_)
  by_cases hj0 : 0 < j
  · obtain ⟨w, hw⟩ := at_of (l := p.2.1) (i := (j : Int) - 1) (by omega) (by omega)
    have hwl : p.2.1[j - 1]? = some w := by
      have := hw.get
      rwa [show ((j : Int) - 1).toNat = j - 1 by omega] at this
    have epw : prevT p.1 p.2.1 j = w.2.2.1 := by
      unfold prevT
      rw [if_neg (by omega), hwl]
    have ew : wr .i64 w.2.2.1 = prevT p.1 p.2.1 j := by rw [epw]; exact S.rng.m.i3 (List.mem_of_getElem? hwl)
    dsimp only
    rw [wrap_id (x := (j : Int) - 1) (by omega) (by omega)]
    refine Evt.yes (by simp; omega) (Evt.at hw.idx (Evt.at hAt.idx (Evt.at hAt.idx (Evt.at hAt.idx ?_))))
    rw [ew, eu3, eu1, eu2]
    refine Evt.bind hL (Evt.bind hRv (Evt.bind hRs (Evt.bind hM3 (Evt.bind hMi (Evt.no (by simp) (Evt.chk ckx ?_))))))
    dsimp only
    rw [hat]
    refine Evt.no (by simp [ev]) (Evt.no (by simp) (Evt.no (by simp) (Evt.bind hSR (Evt.no (by simp) (Evt.no (by simp) (Evt.no (by simp) (Evt.bind hSC2 (Evt.no (by simp) ?_))))))))
    refine Evt.bind hY (Evt.bind hUp (Evt.bind hM4 (Evt.bind hRc (Evt.bind hJ (Evt.bind hM5 (Evt.no (by simp) (Evt.no (by simp) (Evt.no (by simp) (Evt.bind hSC3 (Evt.no (by simp) (Evt.no (by simp) (Evt.no (by simp) ?_))))))))))))
    refine Evt.no (by dsimp only; rw [j6', hcl, wrap_id (x := 2 * sumM p.2.1) (by omega) (by omega)]; simp; omega) (Evt.bind hG (Evt.bind hG2 (Evt.yes (by simp) (Evt.yes (by simp) ((Evt.some _).of_eq fun n => ?_)))))
    simp
    rfl
  · have epw : prevT p.1 p.2.1 j = p.1 := if_pos (by omega)
    have ew : wr .i64 p.1 = prevT p.1 p.2.1 j := by rw [epw]; exact wrap_id (by omega) (by omega)
    dsimp only
    refine Evt.no (by simp; omega) (Evt.at hAt.idx (Evt.at hAt.idx (Evt.at hAt.idx ?_)))
    rw [ew, eu3, eu1, eu2]
    refine Evt.bind hL (Evt.bind hRv (Evt.bind hRs (Evt.bind hM3 (Evt.bind hMi (Evt.no (by simp) (Evt.chk ckx ?_))))))
    dsimp only
    rw [hat]
    refine Evt.no (by simp [ev]) (Evt.no (by simp) (Evt.no (by simp) (Evt.bind hSR (Evt.no (by simp) (Evt.no (by simp) (Evt.no (by simp) (Evt.bind hSC2 (Evt.no (by simp) ?_))))))))
    refine Evt.bind hY (Evt.bind hUp (Evt.bind hM4 (Evt.bind hRc (Evt.bind hJ (Evt.bind hM5 (Evt.no (by simp) (Evt.no (by simp) (Evt.no (by simp) (Evt.bind hSC3 (Evt.no (by simp) (Evt.no (by simp) (Evt.no (by simp) ?_))))))))))))
    refine Evt.no (by dsimp only; rw [j6', hcl, wrap_id (x := 2 * sumM p.2.1) (by omega) (by omega)]; simp; omega) (Evt.bind hG (Evt.bind hG2 (Evt.yes (by simp) (Evt.yes (by simp) ((Evt.some _).of_eq fun n => ?_)))))
    simp
    rfl

end Go.Cams.YtipjblnjaicbfaaGreatDoorLPg
