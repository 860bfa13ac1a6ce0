/- What the functions that the law reaches come to. -/
import Derived.Test.YtoafnbpahdnchaaGreatDoorRFo
import Derived.Test.YtoafnbpahdnchaaGreatDoorPuAll
namespace Go.Cams.YtoafnbpahdnchaaGreatDoorLFo
open Go Go.Fw Go.Proofs Go.Proofs.YtoafnbpahdnchaaGreatDoor.LFo
/- laws.f6big -/
theorem e4 (a : List Int) : Evt (fun n => call T C n 4 (a, ())) ((decide ((a.length : Int) > 4096), ()), ()) := Evt.next (Evt.some _) (fun n => r4 n a)
/- spec.l00From -/
theorem e22 (a : List Int) : Evt (fun n => call T C n 22 (a, ())) (((a, 0, 0, ()), ()), ()) := Evt.next (Evt.some _) (fun n => r22 n a)
/- (*spec.l00Src).next -/
theorem e55 {k : Int} {s : Src} (h : SrcAt k s) (hk : k ≤ 1000000000000) : ∃ (v : Int) (s' : Src), Evt (fun n => call T C n 55 (s, ())) ((v, ()), (s', ())) ∧ 0 ≤ v ∧ v ≤ 255 ∧ SrcAt (k + 1) s' := by
  obtain ⟨h1, h2, h3, h4⟩ := h
  have hw : wr .i64 (s.2.1 + 1) = s.2.1 + 1 := wrap_id (by omega) (by omega)
  by_cases hp : s.2.1 < (s.1.length : Int)
  · obtain ⟨v, hv⟩ := at_of h3 hp
    have hb := h1 v hv.mem
    have ev : wr .i64 v = v := wrap_id (by omega) (by omega)
    obtain ⟨z, hz⟩ : ∃ z, z = wr .u64 ((wr .u64 ((wr .u64 (s.2.2.1 * (6364136223846793005 : Int))) + (wr .u64 (wr .i64 v)))) + (1442695040888963407 : Int)) := ⟨_, rfl⟩
    refine ⟨v, (s.1, s.2.1 + 1, z, ()), Evt.next (Evt.yes (decide_eq_true hp) (Evt.at hv.idx (Evt.yes (decide_eq_true (by rw [hw]; omega)) ((Evt.some _).of_eq fun n => ?_)))) (fun n => r55 n s), hb.1, hb.2, h1, h2, by show 0 ≤ s.2.1 + 1; omega, by show s.2.1 + 1 ≤ k + 1; omega⟩
    rw [← hz, hw, ev]
    rfl
  · obtain ⟨z, hz⟩ : ∃ z, z = wr .u64 ((wr .u64 ((wr .u64 (s.2.2.1 * (6364136223846793005 : Int))) + (wr .u64 (0 : Int)))) + (1442695040888963407 : Int)) := ⟨_, rfl⟩
    have hzb : 0 ≤ z ∧ z < 18446744073709551616 := by rw [hz]; exact wrap_u64 _
    obtain ⟨y, rfl⟩ : ∃ y : Nat, z = y := ⟨z.toNat, by omega⟩
    have hval : wr .i64 (bitsI .and .u64 (shr_ .u64 (y : Int) (40 : Int)) (255 : Int)) = ((y / 2 ^ 40 % 256 : Nat) : Int) := by
      rw [show (40 : Int) = ((40 : Nat) : Int) from rfl, shr_nat (by omega), and_255 (Nat.lt_of_le_of_lt (Nat.div_le_self _ _) (by omega))]
      have := Nat.mod_lt (y / 2 ^ 40) (show 0 < 256 by omega)
      exact wrap_id (by omega) (by omega)
    have hm := Nat.mod_lt (y / 2 ^ 40) (show 0 < 256 by omega)
    refine ⟨((y / 2 ^ 40 % 256 : Nat) : Int), (s.1, s.2.1 + 1, (y : Int), ()), Evt.next (Evt.no (by simpa using hp) (Evt.no (by rw [hw]; simp; omega) (Evt.chk rfl ((Evt.some _).of_eq fun n => ?_)))) (fun n => r55 n s), by omega, by omega, h1, h2, by show 0 ≤ s.2.1 + 1; omega, by show s.2.1 + 1 ≤ k + 1; omega⟩
    rw [← hz, hw, hval]
    rfl
/- (*spec.l00Src).pick -/
theorem e23 {k : Int} {s : Src} (h : SrcAt k s) (hk : k ≤ 999999999000) {m : Int} (m1 : 1 ≤ m) (m2 : m ≤ 1000000) : ∃ (v : Int) (s' : Src), Evt (fun n => call T C n 23 (s, m, ())) ((v, ()), (s', ())) ∧ 0 ≤ v ∧ v < m ∧ SrcAt (k + 2) s' := by
  by_cases hm : m ≤ 1
  · exact ⟨0, s, Evt.next (Evt.yes (decide_eq_true hm) (Evt.some _)) (fun n => r23 n s m), by omega, by omega, h.mono (by omega)⟩
  · obtain ⟨v, s1, hE, v0, v1, hs1⟩ := e55 h (by omega)
    by_cases hb : m > 200
    · obtain ⟨u, s2, hE2, u0, u1, hs2⟩ := e55 hs1 (by omega)
      have hx : wr .i64 (wr .i64 (v * 256) + u) = v * 256 + u := by rw [wrap_id (x := v * 256) (by omega) (by omega), wrap_id (by omega) (by omega)]
      have ht0 := Int.tmod_nonneg m (show 0 ≤ v * 256 + u by omega)
      have ht1 := Int.tmod_lt_of_pos (v * 256 + u) (show 0 < m by omega)
      refine ⟨Int.tmod (v * 256 + u) m, s2, Evt.next (Evt.no (by simpa using hm) (Evt.bind hE (Evt.yes (decide_eq_true hb) (Evt.bind hE2 (Evt.chk (bne_pos (by omega)) ((Evt.some _).of_eq fun n => ?_)))))) (fun n => r23 n s m), ht0, ht1, hs2.mono (by omega)⟩
      rw [hx]
      rfl
    · have ht0 := Int.tmod_nonneg m v0
      have ht1 := Int.tmod_lt_of_pos v (show 0 < m by omega)
      exact ⟨Int.tmod v m, s1, Evt.next (Evt.no (by simpa using hm) (Evt.bind hE (Evt.no (by simpa using hb) (Evt.chk (bne_pos (by omega)) (Evt.some _))))) (fun n => r23 n s m), ht0, ht1, hs1.mono (by omega)⟩
/- (*spec.l00Src).among -/
theorem e52 {k : Int} {s : Src} (h : SrcAt k s) (hk : k ≤ 999999999000) {l : List Int} (l1 : 1 ≤ (l.length : Int)) (l2 : (l.length : Int) ≤ 1000000) : ∃ (v : Int) (s' : Src), Evt (fun n => call T C n 52 (s, l, ())) ((v, ()), (s', ())) ∧ v ∈ l ∧ SrcAt (k + 2) s' := by
  obtain ⟨i, s1, hE, i0, i1, hs1⟩ := e23 h hk l1 l2
  obtain ⟨v, hv⟩ := at_of i0 i1
  refine ⟨v, s1, Evt.next ?_ (fun n => r52 n s l), hv.mem, hs1⟩
  exact Evt.bind hE (Evt.at hv.idx (Evt.some _))
/- spec.l00Min -/
theorem e53 (a b : Int) : Evt (fun n => call T C n 53 (a, b, ())) ((min a b, ()), ()) := by
  refine Evt.next (Evt.ite (fun h => ?_) (fun h => ?_)) (fun n => r53 n a b)
  · have h : a < b := of_decide_eq_true h
    rw [show min a b = a by omega]; exact Evt.some _
  · have h : ¬ a < b := by simpa using h
    rw [show min a b = b by omega]; exact Evt.some _
/- spec.l00Max -/
theorem e30 (a b : Int) : Evt (fun n => call T C n 30 (a, b, ())) ((max a b, ()), ()) := by
  refine Evt.next (Evt.ite (fun h => ?_) (fun h => ?_)) (fun n => r30 n a b)
  · have h : a > b := of_decide_eq_true h
    rw [show max a b = a by omega]; exact Evt.some _
  · have h : ¬ a > b := by simpa using h
    rw [show max a b = b by omega]; exact Evt.some _
/- (*spec.l00Src).one -/
theorem e54 {k : Int} {s : Src} (h : SrcAt k s) (hk : k ≤ 999999999000) {m : Int} (m1 : 1 ≤ m) (m2 : m ≤ 1000000) : ∃ (b : Bool) (s' : Src), Evt (fun n => call T C n 54 (s, m, ())) ((b, ()), (s', ())) ∧ SrcAt (k + 2) s' := by
  obtain ⟨v, s1, hE, v0, v1, hs1⟩ := e23 h hk m1 m2
  exact ⟨v == 0, s1, Evt.next (Evt.bind hE (Evt.some _)) (fun n => r54 n s m), hs1⟩
/- spec.l01Drawn -/
theorem e21 {k : Int} {s : Src} (h : SrcAt k s) (hk : k ≤ 999999990000) : ∃ (c : List Int) (s' : Src), Evt (fun n => call T C n 21 (s, ())) ((c, ()), (s', ())) ∧ SmD c ∧ SrcAt (k + 200) s' := by
  obtain ⟨n0, s1, hE1, hn0, hs1⟩ := e52 h (by omega) (l := [8, 9, 12, 16, 24, 36]) (by simp) (by simp)
  have hn : 8 ≤ n0 ∧ n0 ≤ 36 := by simp at hn0; omega
  obtain ⟨nn, rfl⟩ : ∃ m : Nat, n0 = m := ⟨n0.toNat, by omega⟩
  obtain ⟨l0, s2, hE2, l00, l01, hs2⟩ := e23 hs1 (by omega) (m := 20) (by omega) (by omega)
  have key : EvtX (fun n => call T C n 21 (s, ())) (fun y => SmD y.1.1 ∧ SrcAt (k + 200) y.2.1) := by
    refine EvtX.next (EvtX.bind hE1 (EvtX.bind hE2 ?_)) (fun n => r21 n s)
    refine EvtX.loop (fun x => ∃ (src : Src) (o : List Int) (l : Int), x = (src, (nn : Int), o, l, ()) ∧ SrcAt (k + 4 + 4 * o.length) src ∧ GoodG2 nn (o, l)) (fun x => nn - x.2.2.1.length)
      ⟨s2, [], l0, rfl, hs2.mono (by simp; omega), ⟨fun v hv => (by cases hv), by show 0 ≤ l0 ∧ l0 ≤ 60; omega, by show 0 ≤ nn; omega⟩⟩ ?_
    rintro x ⟨src, out, l, rfl, hsrc, G⟩
    have hle : out.length ≤ nn := G.le
    by_cases hlt : out.length < nn
    · right
      obtain ⟨a, a1, hA, a0, al, hs3⟩ := e23 hsrc (by omega) (m := 7) (by omega) (by omega)
      obtain ⟨b, b1, hB, b0, bl, hs4⟩ := e23 hs3 (by omega) (m := 5) (by omega) (by omega)
      obtain ⟨m, hm⟩ : ∃ m : Nat, 1 + b = m := ⟨(1 + b).toNat, by omega⟩
      have G2 := grow_good (b := a - 3) m G
      have G3 := grow_more (b := a - 3) (k := m) G hlt (by omega)
      obtain ⟨R, eR⟩ : ∃ R, R = grow (a - 3) nn m (out, l) := ⟨_, rfl⟩
      rw [← eR] at G2 G3
      have G3 : out.length < R.1.length := G3
      have hRle : R.1.length ≤ nn := G2.1.le
      refine ⟨(b1, (nn : Int), R.1, R.2, ()), ⟨b1, R.1, R.2, rfl, hs4.mono (by omega), G2.1⟩, by show nn - R.1.length < nn - out.length; omega, fun y => ?_⟩
      refine Round.yes (decide_eq_true (show (out.length : Int) < (nn : Int) by omega)) (Round.bind hA (Round.bind hB ?_))
      simp only [wrap_id (x := a - 3) (by omega) (by omega), hm, wrap_id (x := (m : Int)) (by omega) (by omega)]
      refine for_round' 0 (m : Int) (fun i (s : List Int × Int) => (b1, (nn : Int), s.1, s.2, a - 3, (m : Int) - i, ())) (fun i s => GoodG2 nn s ∧ grow (a - 3) nn ((m : Int) - i).toNat s = R) (b0 := (out, l)) (by rw [Int.sub_zero]) (by omega) ⟨G, by rw [Int.sub_zero, Int.toNat_natCast, eR]⟩ ?_ ?_
      · intro i s h2 h3 ⟨hG, he⟩
        rw [show ((m : Int) - i).toNat = ((m : Int) - (i + 1)).toNat + 1 by omega, grow] at he
        refine Round.yes (decide_eq_true (show (m : Int) - i > 0 by omega)) ?_
        have hsle : s.1.length ≤ nn := hG.le
        have hlf := hG.lf
        by_cases hl : s.1.length < nn
        · rw [if_pos hl] at he
          have hone := grow_one (b := a - 3) hG hl
          refine Round.yes (show (bif true then decide ((s.1.length : Int) < (nn : Int)) else false) = true from decide_eq_true (by omega)) ?_
          simp only [wrap_id (x := s.2 + (a - 3)) (by omega) (by omega)]
          refine Round.bind (e53 60 _) (Round.bind (e30 0 _) (Round.chk (decide_eq_true (by simp only [List.length_cons, List.length_nil]; omega)) (Round.inr _ ⟨(s.1 ++ [max 0 (min 60 (s.2 + (a - 3)))], max 0 (min 60 (s.2 + (a - 3)))), ?_, hone, he⟩)))
          rw [wrap16 (x := max 0 (min 60 (s.2 + (a - 3)))) (by omega) (by omega), wrap_id (x := (m : Int) - i - 1) (by omega) (by omega), show (m : Int) - (i + 1) = (m : Int) - i - 1 by omega]
        · rw [if_neg hl] at he
          refine Round.no (show ¬ (bif true then decide ((s.1.length : Int) < (nn : Int)) else false) = true from fun h => by have := of_decide_eq_true (p := (s.1.length : Int) < (nn : Int)) h; omega) (Round.inl _ ?_)
          rw [← he]
      · intro s ⟨hG, he⟩
        rw [Int.sub_self] at he
        have he : s = R := he
        rw [he]
        exact Round.no (by simp) (Round.inl _ rfl)
    · left
      have hlen : out.length = nn := by omega
      obtain ⟨bo, s3, hO, hs3⟩ := e54 hsrc (by omega) (m := 8) (by omega) (by omega)
      have S0 : SmD out := ⟨by omega, G.el⟩
      have hs5 : SrcAt (k + 200) s3 := hs3.mono (by omega)
      cases bo with
      | false => exact ⟨((out, ()), (s3, ())), ⟨S0, hs5⟩, Round.no (by simp; omega) (Round.bind hO (Round.no (by simp) (Round.done (Evt.some _))))⟩
      | true =>
        have ht : wr .i64 (Int.tdiv (nn : Int) 2) = ((nn / 2 : Nat) : Int) := by
          rw [Int.tdiv_eq_ediv_of_nonneg (by omega), wrap_id (by omega) (by omega)]; omega
        by_cases he : nn % 2 = 0
        · obtain ⟨p, hp⟩ : ∃ p, p = (out.take (nn / 2)).drop 0 := ⟨_, rfl⟩
          have lp : p.length = nn / 2 := by rw [hp, List.drop_zero, List.length_take]; omega
          refine ⟨(((([] : List Int) ++ p) ++ p, ()), (s3, ())), ⟨⟨by show 8 ≤ (((([] : List Int) ++ p) ++ p).length : Int) ∧ (((([] : List Int) ++ p) ++ p).length : Int) ≤ 36; simp only [List.length_append, List.length_nil, lp]; omega, fun v hv => ?_⟩, hs5⟩, ?_⟩
          · have hv : v ∈ p := by simpa using hv
            rw [hp, List.drop_zero] at hv
            exact G.el v (List.mem_of_mem_take hv)
          · refine Round.no (by simp; omega) (Round.bind hO (Round.yes rfl (Round.chk rfl ?_)))
            simp only [ht, Int.toNat_natCast, show Int.toNat 0 = 0 from rfl, ← hp]
            refine Round.chk (decide_eq_true (by omega)) (Round.chk rfl (Round.yes (by rw [beq_iff_eq, Int.tmod_eq_emod_of_nonneg (by omega)]; omega) (Round.chk (decide_eq_true (by simp only [List.length_append, List.length_nil, lp]; omega)) (Round.chk (decide_eq_true (by simp only [List.length_append, List.length_nil, lp]; omega)) (Round.done (Evt.some _))))))
        · refine ⟨((out, ()), (s3, ())), ⟨S0, hs5⟩, Round.no (by simp; omega) (Round.bind hO (Round.yes rfl (Round.chk rfl ?_)))⟩
          simp only [ht]
          exact Round.chk (decide_eq_true (by omega)) (Round.chk rfl (Round.no (by rw [beq_iff_eq, Int.tmod_eq_emod_of_nonneg (by omega)]; omega) (Round.done (Evt.some _))))
  obtain ⟨⟨⟨c, _⟩, ⟨s', _⟩⟩, ⟨h1, h2⟩, hE⟩ := key
  exact ⟨c, s', hE, h1, h2⟩
/- spec.P6Cam -/
theorem e5 {b : List Int} (hb : ∀ v ∈ b, 0 ≤ v ∧ v ≤ 255) (hl : (b.length : Int) ≤ 4096) : ∃ c : List Int, Evt (fun n => call T C n 5 (b, ())) ((c, ()), ()) ∧ SmD c := by
  have h0 : SrcAt 0 ((b, 0, 0, ()) : Src) := ⟨hb, by show (b.length : Int) ≤ 1000000; omega, Int.le_refl _, Int.le_refl _⟩
  obtain ⟨c, s1, hE, S, _⟩ := e21 h0 (by omega)
  refine ⟨c, Evt.next ?_ (fun n => r5 n b), S⟩
  exact Evt.bind (e22 b) (Evt.bind hE (Evt.some _))
/- spec.P6Follower -/
theorem e6 {b : List Int} (hb : ∀ v ∈ b, 0 ≤ v ∧ v ≤ 255) (hl : (b.length : Int) ≤ 4096) : ∃ B s : Int, Evt (fun n => call T C n 6 (b, ())) (((B, s, ()), ()), ()) ∧ (1 ≤ B ∧ B ≤ 100) ∧ 1 ≤ s ∧ s ≤ 6 := by
  have h0 : SrcAt 0 ((b, 0, 0, ()) : Src) := ⟨hb, by show (b.length : Int) ≤ 1000000; omega, Int.le_refl _, Int.le_refl _⟩
  obtain ⟨a, s1, hE1, a0, a1, hs1⟩ := e23 h0 (by omega) (m := 100) (by omega) (by omega)
  obtain ⟨d, s2, hE2, d0, d1, hs2⟩ := e23 hs1 (by omega) (m := 6) (by omega) (by omega)
  refine ⟨1 + a, 1 + d, Evt.next (Evt.bind (e22 b) (Evt.bind hE1 (Evt.bind hE2 ((Evt.some _).of_eq fun n => ?_)))) (fun n => r6 n b), by omega, by omega⟩
  rw [wrap_id (x := 1 + a) (by omega) (by omega), wrap_id (x := 1 + d) (by omega) (by omega)]
  rfl
/- (impl.Cam).steps -/
theorem e36 (a : List Int) : Evt (fun n => call T C n 36 (a, ())) (((a.length : Int), ()), ()) := Evt.next (Evt.some _) (fun n => r36 n a)
/- impl.inRange -/
theorem e31 (a b c : Int) : Evt (fun n => call T C n 31 (a, b, c, ())) ((inR a b c, ()), ()) := by
  refine Evt.next ?_ (fun n => r31 n a b c)
  refine Evt.ite (fun h => ?_) (fun h => ?_)
  · refine (Evt.some _).of_eq fun n => ?_
    have h : b ≤ a := of_decide_eq_true h
    simp [inR, h]
    rfl
  · refine (Evt.some _).of_eq fun n => ?_
    have h : ¬ b ≤ a := by simpa using h
    simp [inR, h]
    rfl
/- impl.isSteps -/
theorem e56 (a : Int) : Evt (fun n => call T C n 56 (a, ())) ((inR a 8 360, ()), ()) := Evt.next (Evt.bind (e31 a 8 360) (Evt.some _)) (fun n => r56 n a)
/- impl.isLift -/
theorem e44 (a : Int) : Evt (fun n => call T C n 44 (a, ())) ((inR a 0 10000, ()), ()) := Evt.next (Evt.bind (e31 a 0 10000) (Evt.some _)) (fun n => r44 n a)
/- impl.ValidCam$1 -/
theorem e58 (v : Int) : Evt (fun n => call T C n 58 (v, ())) ((!okV v, ()), ()) := Evt.next (Evt.bind (e44 _) (Evt.some _)) (fun n => r58 n v)
/- slices.IndexFunc[impl.Cam,int16]{impl.ValidCam$1} -/
theorem e70 (l : List Int) (hl : (l.length : Int) ≤ 140737488351232) : Evt (fun n => call T C n 70 (l, ((), ()), ())) ((fi (fun v => !okV v) l 0, ()), ()) := by
  refine Evt.next ?_ (fun n => r70 n l ((), ()))
  refine loop_evt (fun (x : List Int × (Unit × Unit) × Int × Int × Unit) => x.1 = l ∧ x.2.2.1 = (l.length : Int) ∧ 0 ≤ x.2.2.2.1 ∧ x.2.2.2.1 ≤ (l.length : Int) ∧ fi (fun v => !okV v) l 0 = fi (fun v => !okV v) (l.drop x.2.2.2.1.toNat) x.2.2.2.1) (fun (x : List Int × (Unit × Unit) × Int × Int × Unit) => ((l.length : Int) - x.2.2.2.1).toNat) (x := (l, ((), ()), (l.length : Int), 0, ())) ⟨rfl, rfl, Int.le_refl _, by simp, by simp⟩ ?_
  rintro ⟨x1, u, m, i, _⟩ ⟨h', hm, h0, h1, h2⟩
  simp only at h' hm h0 h1 h2
  subst h'; subst hm
  refine Round.ite (fun hlt => ?_) (fun hge => ?_)
  · have hlt : i < (x1.length : Int) := of_decide_eq_true hlt
    obtain ⟨v, hv, hv'⟩ := idx_at h0 hlt
    have hd := drop_cons hv'
    refine Round.at hv (Round.bind (e58 _) (Round.ite (fun hb => ?_) (fun hb => ?_)))
    · have hb : okV v = false := by simpa using hb
      have h3 : fi (fun v => !okV v) x1 0 = i := by rw [h2, hd]; simp [fi, hb]
      rw [h3]
      exact Round.done (Evt.some _)
    · have hb : okV v = true := by simpa using hb
      have hw : wr .i64 (i + 1) = i + 1 := wrap_id (by omega) (by omega)
      refine Round.again _ ⟨⟨rfl, rfl, ?_, ?_, ?_⟩, ?_⟩ <;> simp only [hw]
      · omega
      · omega
      · rw [h2, hd, show (i + 1).toNat = i.toNat + 1 by omega]
        simp [fi, hb]
      · omega
  · have hge : ¬ i < (x1.length : Int) := by simpa using hge
    have : x1.drop i.toNat = [] := List.drop_of_length_le (by omega)
    rw [h2, this]
    exact Round.done (Evt.some _)
/- slices.ContainsFunc[impl.Cam,int16]{impl.ValidCam$1} -/
theorem e57 (l : List Int) (hl : (l.length : Int) ≤ 140737488351232) : Evt (fun n => call T C n 57 (l, ((), ()), ())) ((l.any (fun v => !okV v), ()), ()) := by
  refine Evt.next (Evt.bind (e70 l hl) ((Evt.some _).of_eq fun n => ?_)) (fun n => r57 n l ((), ()))
  simp only [fi_any _ l 0 (Int.le_refl _)]
  rfl
/- impl.ValidCam -/
theorem e24 (l : List Int) (hl : (l.length : Int) ≤ 140737488351232) : Evt (fun n => call T C n 24 (l, ())) ((okC l, ()), ()) := by
  refine Evt.next (Evt.bind (e36 l) (Evt.bind (e56 _) ?_)) (fun n => r24 n l)
  refine Evt.ite (fun h => ?_) (fun h => ?_)
  · refine Evt.bind (e57 l hl) ((Evt.some _).of_eq fun n => ?_)
    have h : inR (l.length : Int) 8 360 = true := h
    have : okC l = !l.any (fun v => !okV v) := by simp [okC, h, List.any_eq_not_all_not]
    rw [this]
    rfl
  · refine (Evt.some _).of_eq fun n => ?_
    have h : inR (l.length : Int) 8 360 = false := by simpa using h
    simp [okC, h]
    rfl
/- impl.floorDiv -/
theorem e79 {a b : Int} (hb : 0 < b) (h1 : -4500000000000000000 ≤ a) (h2 : a ≤ 4500000000000000000) : Evt (fun n => call T C n 79 (a, b, ())) ((a / b, ()), ()) := by
  have hbd := ediv_bd hb h1 h2 (by omega)
  have he := floorDiv_eq (a := a) hb
  refine Evt.next (Evt.chk (bne_pos hb) (Evt.chk (bne_pos hb) (Evt.ite (fun h => ?_) (fun h => ?_)))) (fun n => r79 n a b)
  · have h : Int.tmod a b < 0 := of_decide_eq_true h
    rw [if_pos h] at he
    refine (Evt.some _).of_eq fun n => ?_
    rw [wrap_id (x := Int.tdiv a b) (by omega) (by omega), wrap_id (by omega) (by omega), he]
    rfl
  · have h : ¬ Int.tmod a b < 0 := by simpa using h
    rw [if_neg h] at he
    refine (Evt.some _).of_eq fun n => ?_
    rw [wrap_id (x := Int.tdiv a b) (by omega) (by omega), he]
    rfl
/- impl.mod -/
theorem e71 {a b : Int} (hb : 0 < b) (hb' : b ≤ 1000000000000) (h1 : -1000000000000 ≤ a) (h2 : a ≤ 1000000000000) : Evt (fun n => call T C n 71 (a, b, ())) ((a % b, ()), ()) := by
  have hd := Int.emod_def a b
  have h3 := Int.emod_nonneg a (show b ≠ 0 by omega)
  have h4 := Int.emod_lt_of_pos a hb
  refine Evt.next (Evt.bind (e79 hb (by omega) (by omega)) ((Evt.some _).of_eq fun n => ?_)) (fun n => r71 n a b)
  simp only
  rw [wrap_id (x := b * (a / b)) (by omega) (by omega), ← hd, wrap_id (by omega) (by omega)]
  rfl
/- (impl.Cam).at -/
theorem e62 {l : List Int} (hr : Rng l) (h0 : 0 < (l.length : Int)) (h1 : (l.length : Int) ≤ 1000000) {x : Int} (hx : -4000000 ≤ x) (hx' : x ≤ 4000000) : Evt (fun n => call T C n 62 (l, x, ())) ((cAt l x, ()), ()) := by
  have hp := Int.emod_nonneg x (show (l.length : Int) ≠ 0 by omega)
  have hq := Int.emod_lt_of_pos x h0
  have hv := g_idx (l := l) hp hq
  refine Evt.next (Evt.bind (e36 l) (Evt.bind (e71 (a := x) h0 (by omega) (by omega) (by omega)) (Evt.at hv.idx ((Evt.some _).of_eq fun n => ?_)))) (fun n => r62 n l x)
  rw [hr.id hv.mem]
  rfl
/- (impl.Cam).change -/
theorem e59 {c : List Int} (hr : Rng c) (h0 : 0 < c.length) (h1 : c.length ≤ 1000) {x : Int} (x0 : -1000000 ≤ x) (x1 : x ≤ 1000000) : Evt (fun n => call T C n 59 (c, x, ())) ((cAt c (x + 1) - cAt c x, ()), ()) := by
  have b1 := hr.el _ (cAt_mem h0 (x + 1))
  have b2 := hr.el _ (cAt_mem h0 x)
  refine Evt.next ?_ (fun n => r59 n c x)
  rw [wrap_id (x := x + 1) (by omega) (by omega)]
  refine Evt.bind (e62 hr (by omega) (by omega) (by omega) (by omega)) (Evt.bind (e62 hr (by omega) (by omega) (by omega) (by omega)) ((Evt.some _).of_eq fun n => ?_))
  show some ((wr .i64 (cAt c (x + 1) - cAt c x), ()), ()) = _
  rw [wrap_id (x := cAt c (x + 1) - cAt c x) (by omega) (by omega)]
  rfl
/- (impl.Cam).bend -/
theorem e27 {c : List Int} (hr : Rng c) (h0 : 0 < c.length) (h1 : c.length ≤ 1000) {x : Int} (x0 : -100000 ≤ x) (x1 : x ≤ 100000) : Evt (fun n => call T C n 27 (c, x, ())) ((bendP c x, ()), ()) := by
  have b1 := hr.el _ (cAt_mem h0 (x + 1))
  have b2 := hr.el _ (cAt_mem h0 x)
  have b3 := hr.el _ (cAt_mem h0 (x - 1))
  refine Evt.next ?_ (fun n => r27 n c x)
  rw [wrap_id (x := x - 1) (by omega) (by omega)]
  refine Evt.bind (e59 hr h0 h1 (by omega) (by omega)) (Evt.bind (e59 hr h0 h1 (by omega) (by omega)) ((Evt.some _).of_eq fun n => ?_))
  show some ((wr .i64 (cAt c (x + 1) - cAt c x - (cAt c (x - 1 + 1) - cAt c (x - 1))), ()), ()) = _
  rw [show x - 1 + 1 = x by omega, wrap_id (by omega) (by omega), show cAt c (x + 1) - cAt c x - (cAt c x - cAt c (x - 1)) = bendP c x by unfold bendP; omega]
  rfl
/- (impl.Cam).numbers{(impl.Cam).bend} -/
theorem e26 {c : List Int} (hr : Rng c) (h0 : 0 < c.length) (h1 : c.length ≤ 1000) : Evt (fun n => call T C n 26 (c, ((c, ()), ()), ())) ((bends c, ()), (((c, ()), ()), ())) := by
  refine Evt.next (Evt.bind (e36 c) ?_) (fun n => r26 n c ((c, ()), ()))
  refine for_evt' 0 (c.length : Int) (fun i (_ : Unit) => (((c, ()), ()), tb i.toNat (fun i => bendP c (i : Nat)), (c.length : Int), i, ())) (fun _ _ => True) (b0 := ()) rfl (by omega) trivial ?_ ?_
  · intro i _ h2 h3 _
    obtain ⟨k, rfl⟩ : ∃ k : Nat, i = k := ⟨i.toNat, by omega⟩
    refine Round.yes (decide_eq_true h3) (Round.bind (e27 hr h0 h1 (x := (k : Int)) (by omega) (by omega)) (Round.chk (decide_eq_true (by simp only [tb_len, List.length_cons, List.length_nil]; omega)) (Round.again _ ⟨(), ?_, trivial⟩)))
    rw [wr_succ h2 h3 (by omega), show ((k : Int) + 1).toNat = k + 1 by omega, ← tb_snoc, Int.toNat_natCast]
  · intro _ _
    rw [Int.toNat_natCast]
    exact Round.no (by simp) (Round.done (Evt.some _))
/- slices.Min[[]int64,int64] -/
theorem e25 (l : List Int) (hlen : (l.length : Int) ≤ 1000000) (h0 : 0 < (l.length : Int)) : Evt (fun n => call T C n 25 (l, ())) ((mnL l, ()), ()) := by
  obtain ⟨v0, hv0⟩ := at_of (l := l) (Int.le_refl 0) h0
  refine Evt.next (Evt.no (by simp; omega) (Evt.at hv0.idx ?_)) (fun n => r25 n l)
  have hh := (head_at hv0).1
  refine for_evt' 1 (l.length : Int) (fun i (_ : Unit) => (l, mnF (l.take i.toNat) v0, i, ())) (fun _ _ => True) (b0 := ()) (by
    have := (head_at hv0).2
    show _ = (l, mnF (l.take 1) v0, 1, ())
    rw [this]; simp [mnF]) (by omega) trivial ?_ ?_
  · intro i _ h2 h3 _
    obtain ⟨v, hv⟩ := at_of (l := l) (show 0 ≤ i by omega) h3
    simp only [wrap_id (x := i + 1) (by omega) (by omega)]
    refine Round.yes (decide_eq_true h3) (Round.at hv.idx (Round.again _ ⟨(), ?_, trivial⟩))
    rw [hv.take, mnF_snoc]
    congr 2
    split <;> omega
  · intro _ _
    have e2 : mnF (l.take (l.length : Int).toNat) v0 = mnL l := by rw [take_all, mnL, hh]
    simp only [e2]
    exact Round.no (by simp) (Round.done (Evt.some _))
/- impl.LeastSpring -/
theorem e7 {c : List Int} (hr : Rng c) (ok : okC c = true) : Evt (fun n => call T C n 7 (c, ())) ((sprF (bends c), 0, ()), ()) := by
  have lx := okC_len ok
  have hC := okC_el ok hr
  have h0 : 0 < c.length := by omega
  have hv := e24 c (by omega)
  rw [ok] at hv
  have hb : ∀ v ∈ bends c, -20000 ≤ v ∧ v ≤ 20000 := fun v hv => by
    obtain ⟨i, _, rfl⟩ := tb_mem hv
    exact bends_bd h0 hC i
  have hmn := mnL_bd (bends_ne h0) hb
  have hw : wr .i64 (0 - mnL (bends c)) = -(mnL (bends c)) := by rw [wrap_id (by omega) (by omega)]; omega
  have hl := bends_len c
  refine Evt.next (Evt.bind hv (Evt.no (by simp) (Evt.bind (e26 hr h0 (by omega)) (Evt.bind (e25 (bends c) (by omega) (by omega)) ((Evt.some _).of_eq fun n => ?_))))) (fun n => r7 n c)
  simp only [hw]
  rw [sprF_mn (bends_ne h0)]
  rfl
/- spec.l00In -/
theorem e64 (a b c : Int) : Evt (fun n => call T C n 64 (a, b, c, ())) ((inR a b c, ()), ()) := by
  refine Evt.next ?_ (fun n => r64 n a b c)
  refine Evt.ite (fun h => ?_) (fun h => ?_)
  · refine (Evt.some _).of_eq fun n => ?_
    have h : b ≤ a := of_decide_eq_true h
    simp [inR, h]
    rfl
  · refine (Evt.some _).of_eq fun n => ?_
    have h : ¬ b ≤ a := by simpa using h
    simp [inR, h]
    rfl
/- spec.l01Steps -/
theorem e60 (a : Int) : Evt (fun n => call T C n 60 (a, ())) ((inR a 8 360, ()), ()) := Evt.next (Evt.bind (e64 a 8 360) (Evt.some _)) (fun n => r60 n a)
/- spec.l01Lift -/
theorem e61 (a : Int) : Evt (fun n => call T C n 61 (a, ())) ((inR a 0 10000, ()), ()) := Evt.next (Evt.bind (e64 a 0 10000) (Evt.some _)) (fun n => r61 n a)
/- spec.l01Ok -/
theorem e28 (l : List Int) (hl : (l.length : Int) ≤ 140737488351232) : Evt (fun n => call T C n 28 (l, ())) ((okC l, ()), ()) := by
  refine Evt.next ?_ (fun n => r28 n l)
  refine Evt.bind (e60 _) ?_
  refine Evt.ite (fun h => ?_) (fun h => ?_)
  · refine (Evt.some _).of_eq fun n => ?_
    have h : inR (l.length : Int) 8 360 = false := by simpa using h
    simp [okC, h]
    rfl
  · have h : inR (l.length : Int) 8 360 = true := by simpa using h
    have he : okC l = l.all okV := by simp [okC, h]
    rw [he]
    refine loop_evt (fun (x : List Int × Int × Unit) => x.1 = l ∧ 0 ≤ x.2.1 ∧ x.2.1 ≤ (l.length : Int) ∧ l.all okV = (l.drop x.2.1.toNat).all okV) (fun (x : List Int × Int × Unit) => ((l.length : Int) - x.2.1).toNat) (x := (l, 0, ())) ⟨rfl, Int.le_refl _, by simp, by simp⟩ ?_
    rintro ⟨x1, i, _⟩ ⟨h', h0, h1, h2⟩
    simp only at h' h0 h1 h2
    subst h'
    refine Round.ite (fun hlt => ?_) (fun hge => ?_)
    · have hlt : i < (x1.length : Int) := of_decide_eq_true hlt
      obtain ⟨v, hv, hv'⟩ := idx_at h0 hlt
      have hd := drop_cons hv'
      refine Round.at hv (Round.bind (e61 _) (Round.ite (fun hb => ?_) (fun hb => ?_)))
      · have hb : okV v = false := by simpa [okV] using hb
        have h3 : x1.all okV = false := by rw [h2, hd]; simp [hb]
        rw [h3]
        exact Round.done (Evt.some _)
      · have hb : okV v = true := by simpa [okV] using hb
        have hw : wr .i64 (i + 1) = i + 1 := wrap_id (by omega) (by omega)
        refine Round.again _ ⟨⟨rfl, ?_, ?_, ?_⟩, ?_⟩ <;> simp only [hw]
        · omega
        · omega
        · rw [h2, hd, show (i + 1).toNat = i.toNat + 1 by omega]
          simp [hb]
        · omega
    · have hge : ¬ i < (x1.length : Int) := by simpa using hge
      have : x1.drop i.toNat = [] := List.drop_of_length_le (by omega)
      rw [h2, this]
      exact Round.done (Evt.some _)
/- spec.l01At -/
theorem e43 {l : List Int} (hr : Rng l) (h0 : 0 < (l.length : Int)) (h1 : (l.length : Int) ≤ 1000000) {x : Int} (hx : -4000000 ≤ x) (hx' : x ≤ 4000000) : ∃ v, l[(x % l.length).toNat]? = some v ∧ v ∈ l ∧ Evt (fun n => call T C n 43 (l, x, ())) ((v, ()), ()) := by
  have hp := Int.emod_nonneg x (show (l.length : Int) ≠ 0 by omega)
  obtain ⟨v, hv⟩ := at_of (l := l) hp (Int.emod_lt_of_pos x h0)
  refine ⟨v, hv.get, hv.mem, ?_⟩
  refine Evt.next (Evt.chk (bne_pos h0) (Evt.chk (bne_pos h0) ?_)) (fun n => r43 n l x)
  rw [turn_at h0 h1 hx hx']
  refine Evt.at hv.idx ((Evt.some _).of_eq fun n => ?_)
  rw [hr.id hv.mem]
  rfl
theorem e43' {l : List Int} (hr : Rng l) (h0 : 0 < (l.length : Int)) (h1 : (l.length : Int) ≤ 1000000) {x : Int} (hx : -4000000 ≤ x) (hx' : x ≤ 4000000) : Evt (fun n => call T C n 43 (l, x, ())) ((cAt l x, ()), ()) := by
  obtain ⟨v, hv, hm, he⟩ := e43 hr h0 h1 hx hx'
  have : cAt l x = v := by unfold cAt g; rw [List.getD_eq_getElem?_getD, hv]; rfl
  rw [this]; exact he
/- spec.l01Bends -/
theorem e29 {c : List Int} (hr : Rng c) (ok : okC c = true) : Evt (fun n => call T C n 29 (c, ())) ((bends c, ()), ()) := by
  have lx := okC_len ok
  have hC := okC_el ok hr
  have h0 : 0 < c.length := by omega
  refine Evt.next ?_ (fun n => r29 n c)
  refine for_evt' 0 (c.length : Int) (fun i (_ : Unit) => (c, tb i.toNat (fun i => bendP c (i : Nat)), i, ())) (fun _ _ => True) (b0 := ()) rfl (by omega) trivial ?_ ?_
  · intro i _ h2 h3 _
    obtain ⟨k, rfl⟩ : ∃ k : Nat, i = k := ⟨i.toNat, by omega⟩
    have a := hC _ (cAt_mem h0 ((k : Int) + 1))
    have b := hC _ (cAt_mem h0 (k : Int))
    have d := hC _ (cAt_mem h0 ((k : Int) - 1))
    refine Round.yes (decide_eq_true h3) ?_
    simp only [wrap_id (x := (k : Int) + 1) (by omega) (by omega), wrap_id (x := (k : Int) - 1) (by omega) (by omega)]
    refine Round.bind (e43' hr (by omega) (by omega) (x := (k : Int) + 1) (by omega) (by omega)) (Round.bind (e43' hr (by omega) (by omega) (x := (k : Int)) (by omega) (by omega)) (Round.bind (e43' hr (by omega) (by omega) (x := (k : Int) - 1) (by omega) (by omega)) ?_))
    simp only [wrap_id (x := 2 * cAt c (k : Int)) (by omega) (by omega), wrap_id (x := cAt c ((k : Int) + 1) - 2 * cAt c (k : Int)) (by omega) (by omega), wrap_id (x := cAt c ((k : Int) + 1) - 2 * cAt c (k : Int) + cAt c ((k : Int) - 1)) (by omega) (by omega)]
    refine Round.chk (decide_eq_true (by simp only [tb_len, List.length_cons, List.length_nil]; omega)) (Round.again _ ⟨(), ?_, trivial⟩)
    rw [show ((k : Int) + 1).toNat = k + 1 by omega, ← tb_snoc, Int.toNat_natCast]
    rfl
  · intro _ _
    rw [Int.toNat_natCast]
    exact Round.no (by simp) (Round.done (Evt.some _))
/- spec.LeastSpring -/
theorem e8 {c : List Int} (hr : Rng c) (ok : okC c = true) : Evt (fun n => call T C n 8 (c, ())) ((sprF (bends c), 0, ()), ()) := by
  have lx := okC_len ok
  have hC := okC_el ok hr
  have h0 : 0 < c.length := by omega
  have hv := e28 c (by omega)
  rw [ok] at hv
  have hl := bends_len c
  refine Evt.next (Evt.bind hv (Evt.no (by simp) (Evt.bind (e29 hr ok) ?_))) (fun n => r8 n c)
  refine for_evt' 0 ((bends c).length : Int) (fun i (_ : Unit) => (bends c, sprF ((bends c).take i.toNat), i, ())) (fun _ _ => True) (b0 := ()) rfl (by omega) trivial ?_ ?_
  · intro i _ h2 h3 _
    obtain ⟨v, hv⟩ := at_of h2 h3
    obtain ⟨j, _, ej⟩ := tb_mem hv.mem
    have hb := bends_bd h0 hC (j : Nat)
    rw [← ej] at hb
    refine Round.yes (decide_eq_true h3) (Round.at hv.idx (Round.bind (e30 _ _) (Round.again _ ⟨(), ?_, trivial⟩)))
    rw [wr_succ h2 h3 (by omega), wrap_id (x := 0 - v) (by omega) (by omega), hv.take, sprF_snoc, show (0 : Int) - v = -v by omega]
  · intro _ _
    simp only [take_all]
    exact Round.no (by simp) (Round.done (Evt.some _))
/- impl.isSpring -/
theorem e32 (a : Int) : Evt (fun n => call T C n 32 (a, ())) ((inR a 1 10000, ()), ()) := Evt.next (Evt.bind (e31 a 1 10000) (Evt.some _)) (fun n => r32 n a)
/- impl.ValidFollower -/
theorem e9 (b s : Int) : Evt (fun n => call T C n 9 ((b, s, ()), ())) ((inR b 1 20000 && inR s 1 10000, ()), ()) := by
  refine Evt.next (Evt.bind (e31 b 1 20000) ?_) (fun n => r9 n (b, s, ()))
  cases h : inR b 1 20000 with
  | true => exact Evt.yes rfl (Evt.bind (e32 s) (Evt.some _))
  | false => exact Evt.no (by simp) (Evt.some _)
/- impl.camCode -/
theorem e33 {c : List Int} (hl : (c.length : Int) ≤ 140737488351232) (b s : Int) : Evt (fun n => call T C n 33 (c, (b, s, ()), ())) (((if okC c = true ∧ (inR b 1 20000 && inR s 1 10000) = true then 0 else 1), ()), ()) := by
  refine Evt.next (Evt.bind (e24 c hl) ?_) (fun n => r33 n c (b, s, ()))
  cases h : okC c with
  | false => exact Evt.yes rfl (Evt.some _)
  | true =>
    refine Evt.no (by simp) (Evt.bind (e9 b s) ?_)
    cases h2 : (inR b 1 20000 && inR s 1 10000) with
    | false => exact Evt.yes rfl (Evt.some _)
    | true => exact Evt.no (by simp) (Evt.some _)
/- (impl.Track).next -/
theorem e45 (q : Trk) {l s : Int} (h1 : -1000000000000 ≤ q.1 ∧ q.1 ≤ 1000000000000) (h2 : -1000000000000 ≤ q.2.1 ∧ q.2.1 ≤ 1000000000000) (hl : -1000000 ≤ l ∧ l ≤ 1000000) (hs : 0 ≤ s ∧ s ≤ 1000000) : Evt (fun n => call T C n 45 (q, l, s, ())) ((nxT q l s, ()), ()) := by
  refine Evt.next ?_ (fun n => r45 n q l s)
  simp only [wrap_id (x := q.2.1 - s) (by omega) (by omega), wrap_id (x := q.1 + (q.2.1 - s)) (by omega) (by omega), wrap_id (x := l - q.1) (by omega) (by omega)]
  unfold nxT
  by_cases h : q.1 + (q.2.1 - s) > l
  · rw [if_pos h]; exact Evt.yes (decide_eq_true h) (Evt.some _)
  · rw [if_neg h]; exact Evt.no (by simpa using h) (Evt.some _)
/- (impl.Cam).follow -/
theorem e35 {c : List Int} (hr : Rng c) (ok : okC c = true) {s : Int} (s1 : 1 ≤ s) (s2 : s ≤ 10000) {K : Nat} (hK : K ≤ 1000) : Evt (fun n => call T C n 35 (c, s, (K : Int), ())) ((tb (K + 1) (trk c s), ()), ()) := by
  have lx := okC_len ok
  have hC := okC_el ok hr
  have h0 : 0 < c.length := by omega
  have hbd := trk_bd (c := c) (M := 10000) (fun x => hC _ (cAt_mem h0 x)) s1
  refine Evt.next (Evt.bind (e62 hr (by omega) (by omega) (x := 0) (by omega) (by omega)) (Evt.bind (e59 hr h0 (by omega) (x := -1) (by omega) (by omega)) ?_)) (fun n => r35 n c s K)
  refine for_evt' 1 ((K : Int) + 1) (fun i (_ : Unit) => (c, s, (K : Int), trk c s (i.toNat - 1), tb i.toNat (trk c s), i, ())) (fun _ _ => True) (b0 := ()) ?_ (by omega) trivial ?_ ?_
  · have e : trk c s 0 = (cAt c 0, cAt c (-1 + 1) - cAt c (-1), true, ()) := by
      show onT c 0 = _
      unfold onT
      rw [show ((0 : Nat) : Int) = 0 from rfl, show (-1 + 1 : Int) = 0 by omega, show (0 : Int) - 1 = -1 by omega]
    show (c, s, (K : Int), _, _, (1 : Int), ()) = (c, s, (K : Int), trk c s 0, [trk c s 0], (1 : Int), ())
    rw [e]
  · intro i _ h2 h3 _
    obtain ⟨k, rfl⟩ : ∃ k : Nat, i = ((k + 1 : Nat) : Int) := ⟨(i - 1).toNat, by omega⟩
    have a := hC _ (cAt_mem h0 (((k + 1 : Nat) : Int)))
    have b0 := hbd k
    have hsk0 : s * (k : Int) ≤ 10000 * (k : Int) := Int.mul_le_mul_of_nonneg_right s2 (by omega)
    have hN := e45 (trk c s k) (l := cAt c ((k + 1 : Nat) : Int)) (s := s) (by omega) (by omega) (by omega) (by omega)
    have e1 : (((k + 1 : Nat) : Int)).toNat - 1 = k := by omega
    simp only [e1]
    refine Round.yes (decide_eq_true (show ((k + 1 : Nat) : Int) ≤ (K : Int) by omega)) (Round.bind (e62 hr (by omega) (by omega) (x := ((k + 1 : Nat) : Int)) (by omega) (by omega)) (Round.bind hN (Round.chk (decide_eq_true (by simp only [tb_len, List.length_cons, List.length_nil]; omega)) (Round.again _ ⟨(), ?_, trivial⟩))))
    rw [wrap_id (x := ((k + 1 : Nat) : Int) + 1) (by omega) (by omega), show (((k + 1 : Nat) : Int) + 1).toNat - 1 = k + 1 by omega, show (((k + 1 : Nat) : Int) + 1).toNat = k + 1 + 1 by omega, ← tb_snoc (k + 1), Int.toNat_natCast]
    rfl
  · intro _ _
    rw [show ((K : Int) + 1).toNat = K + 1 by omega]
    exact Round.no (by simp; omega) (Round.done (Evt.some _))
/- impl.LetsGoAt$1 -/
theorem e37 (q : Trk) : Evt (fun n => call T C n 37 (q, ())) ((!q.2.2.1, ()), ()) := Evt.next (Evt.some _) (fun n => r37 n q)
/- slices.IndexFunc[[]impl.Track,impl.Track]{impl.LetsGoAt$1} -/
theorem e34 (l : List Trk) (hl' : (l.length : Int) ≤ 1000000) : Evt (fun n => call T C n 34 (l, ((), ()), ())) ((fi (fun q => !q.2.2.1) l 0, ()), ()) := by
  refine Evt.next ?_ (fun n => r34 n l ((), ()))
  refine for_evt' 0 (l.length : Int) (fun i (_ : Unit) => (l, ((), ()), (l.length : Int), i, ())) (fun i _ => fi (fun (q : Trk) => !q.2.2.1) l 0 = fi (fun (q : Trk) => !q.2.2.1) (l.drop i.toNat) i) (b0 := ()) rfl (by omega) (by simp) ?_ ?_
  · intro i _ h2 h3 hp
    obtain ⟨v, hv⟩ := at_of h2 h3
    rw [hv.drop] at hp
    simp only [fi] at hp
    refine Round.yes (decide_eq_true h3) (Round.at hv.idx (Round.bind (e37 v) ?_))
    cases hb : !v.2.2.1 with
    | true =>
      simp only [hb, if_true] at hp
      rw [hp]
      exact Round.yes rfl (Round.done (Evt.some _))
    | false =>
      simp only [hb, Bool.false_eq_true, if_false] at hp
      exact Round.no (by simp) (Round.again _ ⟨(), by rw [wr_succ h2 h3 (by omega)], hp⟩)
  · intro _ hp
    rw [drop_all] at hp
    rw [hp]
    exact Round.no (by simp) (Round.done (Evt.some _))
/- impl.LetsGoAt -/
theorem e10 {c : List Int} (hr : Rng c) (ok : okC c = true) {b s : Int} (b1 : 1 ≤ b) (b2 : b ≤ 20000) (s1 : 1 ≤ s) (s2 : s ≤ 10000) (hb : ∀ x, -(bendP c x) ≤ s) : Evt (fun n => call T C n 10 (c, (b, s, ()), ())) ((0, 6, ()), ()) := by
  have lx := okC_len ok
  have hc := e33 (c := c) (by omega) b s
  rw [if_pos ⟨ok, by rw [Bool.and_eq_true, inR_iff, inR_iff]; exact ⟨⟨b1, b2⟩, s1, s2⟩⟩] at hc
  have htr : tb (c.length + 1) (trk c s) = tb (c.length + 1) (onT c) := tb_ext fun j _ => trk_on hb j
  have hFo := e35 hr ok s1 s2 (K := c.length) (by omega)
  rw [htr] at hFo
  have hF := e34 (tb (c.length + 1) (onT c)) (by rw [tb_len]; omega)
  have hfi : fi (fun (q : Trk) => !q.2.2.1) (tb (c.length + 1) (onT c)) 0 = -1 := by
    have : ∀ (l : List Trk) (i : Int), (∀ q ∈ l, q.2.2.1 = true) → fi (fun (q : Trk) => !q.2.2.1) l i = -1 := by
      intro l
      induction l with
      | nil => intro i _; rfl
      | cons a r ih => intro i h; simp only [fi]; rw [if_neg (by simp [h a (by simp)])]; exact ih (i + 1) fun q hq => h q (by simp [hq])
    exact this _ _ fun q hq => by obtain ⟨i, _, rfl⟩ := tb_mem hq; rfl
  rw [hfi] at hF
  refine Evt.next (Evt.bind hc (Evt.no (by simp) (Evt.bind (e36 c) (Evt.bind hFo (Evt.bind hF (Evt.yes rfl (Evt.some _))))))) (fun n => r10 n c (b, s, ()))
/- impl.followCode -/
theorem e38 {c : List Int} (ok : okC c = true) {b s : Int} (hv : (inR b 1 20000 && inR s 1 10000) = true) {K : Nat} (hK : K ≤ 1000) : Evt (fun n => call T C n 38 (c, (b, s, ()), (K : Int), ())) ((0, ()), ()) := by
  have lx := okC_len ok
  have hc := e33 (c := c) (by omega) b s
  rw [if_pos ⟨ok, hv⟩] at hc
  have hR := e31 (K : Int) 0 4000
  rw [show inR (K : Int) 0 4000 = true from inR_iff.2 ⟨by omega, by omega⟩] at hR
  exact Evt.next (Evt.bind hc (Evt.no (by simp) (Evt.bind hR (Evt.no (by simp) (Evt.some _))))) (fun n => r38 n c (b, s, ()) K)
/- slices.Clone[[]impl.Track,impl.Track] -/
theorem e39 (l : List Trk) (h0 : l.length ≠ 0) (hl : (l.length : Int) ≤ 1000000) : Evt (fun n => call T C n 39 (l, ())) ((l, ()), ()) :=
  Evt.next (Evt.yes (decide_eq_true h0) (Evt.chk (by simp; omega) (Evt.some _))) (fun n => r39 n l)
/- impl.FollowCam -/
theorem e11 {c : List Int} (S : SmD c) {b s : Int} (hv : (inR b 1 20000 && inR s 1 10000) = true) {K : Nat} (h1 : 1 ≤ K) (hK : K ≤ 1000) : Evt (fun n => call T C n 11 (c, (b, s, ()), (K : Int), ())) ((tb K (fun i => trk c s (i + 1)), 0, ()), ()) := by
  have hs := hv
  rw [Bool.and_eq_true, inR_iff, inR_iff] at hs
  have hC := e39 (tb K (fun i => trk c s (i + 1))) (by rw [tb_len]; omega) (by rw [tb_len]; omega)
  rw [← tb_tail] at hC
  refine Evt.next (Evt.bind (e38 S.ok hv hK) (Evt.no (by simp) (Evt.bind (e35 S.rng S.ok hs.2.1 hs.2.2 hK) (Evt.chk (decide_eq_true ⟨by omega, by rw [tb_len]; omega, Int.le_refl _⟩) ?_)))) (fun n => r11 n c (b, s, ()) K)
  rw [Int.toNat_natCast, List.take_length, show Int.toNat 1 = 1 from rfl]
  rw [← tb_tail]
  exact Evt.bind hC (Evt.some _)
/- spec.l03Ok -/
theorem e72 (b s : Int) : Evt (fun n => call T C n 72 ((b, s, ()), ())) ((inR b 1 20000 && inR s 1 10000, ()), ()) := by
  refine Evt.next (Evt.bind (e64 b 1 20000) ?_) (fun n => r72 n (b, s, ()))
  cases h : inR b 1 20000 with
  | true => exact Evt.yes rfl (Evt.bind (e64 s 1 10000) (Evt.some _))
  | false => exact Evt.no (by simp) (Evt.some _)
/- spec.l03Asked -/
theorem e63 {c : List Int} (hl : (c.length : Int) ≤ 140737488351232) (b s : Int) : Evt (fun n => call T C n 63 (c, (b, s, ()), ())) (((if okC c = true ∧ (inR b 1 20000 && inR s 1 10000) = true then 0 else 1), ()), ()) := by
  refine Evt.next (Evt.bind (e28 c hl) ?_) (fun n => r63 n c (b, s, ()))
  cases h : okC c with
  | false => exact Evt.yes rfl (Evt.some _)
  | true =>
    refine Evt.no (by simp) (Evt.bind (e72 b s) ?_)
    cases h2 : (inR b 1 20000 && inR s 1 10000) with
    | false => exact Evt.yes rfl (Evt.some _)
    | true => exact Evt.no (by simp) (Evt.some _)
/- spec.l03Many -/
theorem e40 {c : List Int} (ok : okC c = true) {b s : Int} (hv : (inR b 1 20000 && inR s 1 10000) = true) {K : Nat} (hK : K ≤ 1000) : Evt (fun n => call T C n 40 (c, (b, s, ()), (K : Int), ())) ((0, ()), ()) := by
  have lx := okC_len ok
  have hc := e63 (c := c) (by omega) b s
  rw [if_pos ⟨ok, hv⟩] at hc
  have hR := e64 (K : Int) 0 4000
  rw [show inR (K : Int) 0 4000 = true from inR_iff.2 ⟨by omega, by omega⟩] at hR
  exact Evt.next (Evt.bind hc (Evt.yes rfl (Evt.bind hR (Evt.no (by simp) (Evt.some _))))) (fun n => r40 n c (b, s, ()) K)
/- spec.l03Begin -/
theorem e65 {c : List Int} (S : SmD c) (s : Int) : Evt (fun n => call T C n 65 (c, ())) ((trk c s 0, ()), ()) := by
  have hl := S.len
  have hr := S.rng
  have a := S.cAt_bd 0
  have b := S.cAt_bd (-1)
  refine Evt.next (Evt.bind (e43' hr (by omega) (by omega) (x := 0) (by omega) (by omega)) (Evt.bind (e43' hr (by omega) (by omega) (x := 0) (by omega) (by omega)) (Evt.bind (e43' hr (by omega) (by omega) (x := -1) (by omega) (by omega)) ((Evt.some _).of_eq fun n => ?_)))) (fun n => r65 n c)
  rw [wrap_id (x := cAt c 0 - cAt c (-1)) (by omega) (by omega)]
  rfl
/- spec.l03Next -/
theorem e66 (q : Trk) {l s : Int} (h1 : -1000000000000 ≤ q.1 ∧ q.1 ≤ 1000000000000) (h2 : -1000000000000 ≤ q.2.1 ∧ q.2.1 ≤ 1000000000000) (hl : -1000000 ≤ l ∧ l ≤ 1000000) (hs : 0 ≤ s ∧ s ≤ 1000000) : Evt (fun n => call T C n 66 (q, l, s, ())) ((nxT q l s, ()), ()) := by
  refine Evt.next ?_ (fun n => r66 n q l s)
  simp only [wrap_id (x := q.2.1 - s) (by omega) (by omega), wrap_id (x := q.1 + (q.2.1 - s)) (by omega) (by omega), wrap_id (x := l - q.1) (by omega) (by omega)]
  unfold nxT
  by_cases h : q.1 + (q.2.1 - s) > l
  · rw [if_pos h]; exact Evt.yes (decide_eq_true h) (Evt.some _)
  · rw [if_neg h]; exact Evt.no (by simpa using h) (Evt.some _)
/- spec.l03Follow -/
theorem e41 {c : List Int} (S : SmD c) {s : Int} (s1 : 1 ≤ s) (s2 : s ≤ 10000) {K : Nat} (hK : K ≤ 1000) : Evt (fun n => call T C n 41 (c, s, (K : Int), ())) ((tb (K + 1) (trk c s), ()), ()) := by
  have hl := S.len
  have hr := S.rng
  have hbd := trk_bd (c := c) (M := 60) (fun x => S.cAt_bd x) s1
  refine Evt.next (Evt.bind (e65 S s) ?_) (fun n => r41 n c s K)
  refine for_evt' 1 ((K : Int) + 1) (fun i (_ : Unit) => (c, s, (K : Int), tb i.toNat (trk c s), i, ())) (fun _ _ => True) (b0 := ()) rfl (by omega) trivial ?_ ?_
  · intro i _ h2 h3 _
    obtain ⟨k, rfl⟩ : ∃ k : Nat, i = ((k + 1 : Nat) : Int) := ⟨(i - 1).toNat, by omega⟩
    have t0 := tb_at (n := k + 1) (G := trk c s) (i := (k : Int)) (by omega) (by omega)
    rw [Int.toNat_natCast] at t0
    have tg := t0.get
    rw [Int.toNat_natCast] at tg
    have hw : wr .i64 (((k + 1 : Nat) : Int) - 1) = (k : Int) := by rw [wrap_id (by omega) (by omega)]; omega
    have b0 := hbd k
    have hsk0 : s * (k : Int) ≤ 10000 * (k : Int) := Int.mul_le_mul_of_nonneg_right s2 (by omega)
    have a := S.cAt_bd ((k + 1 : Nat) : Int)
    refine Round.yes (decide_eq_true (show ((k + 1 : Nat) : Int) ≤ (K : Int) by omega)) ?_
    simp only [hw, Int.toNat_natCast]
    refine Round.chk (decide_eq_true ⟨by omega, by rw [tb_len]; omega⟩) (Round.at tg (Round.bind (e43' hr (by omega) (by omega) (x := ((k + 1 : Nat) : Int)) (by omega) (by omega)) (Round.bind (e66 (trk c s k) (l := cAt c ((k + 1 : Nat) : Int)) (s := s) (by omega) (by omega) (by omega) (by omega)) (Round.chk (decide_eq_true (by simp only [tb_len, List.length_cons, List.length_nil]; omega)) (Round.again _ ⟨(), ?_, trivial⟩)))))
    rw [wrap_id (x := ((k + 1 : Nat) : Int) + 1) (by omega) (by omega), show (((k + 1 : Nat) : Int) + 1).toNat = k + 1 + 1 by omega, ← tb_snoc (k + 1)]
    rfl
  · intro _ _
    rw [show ((K : Int) + 1).toNat = K + 1 by omega]
    exact Round.no (by simp; omega) (Round.done (Evt.some _))
/- spec.FollowCam -/
theorem e12 {c : List Int} (S : SmD c) {b s : Int} (hv : (inR b 1 20000 && inR s 1 10000) = true) {K : Nat} (h1 : 1 ≤ K) (hK : K ≤ 1000) : Evt (fun n => call T C n 12 (c, (b, s, ()), (K : Int), ())) ((tb K (fun i => trk c s (i + 1)), 0, ()), ()) := by
  have hs := hv
  rw [Bool.and_eq_true, inR_iff, inR_iff] at hs
  refine Evt.next (Evt.bind (e40 S.ok hv hK) (Evt.no (by simp) (Evt.bind (e41 S hs.2.1 hs.2.2 hK) (Evt.chk (decide_eq_true ⟨by omega, by rw [tb_len]; omega, Int.le_refl _⟩) ?_)))) (fun n => r12 n c (b, s, ()) K)
  rw [Int.toNat_natCast, List.take_length, show Int.toNat 1 = 1 from rfl, tb_tail]
  exact Evt.chk (decide_eq_true (by rw [tb_len]; simp; omega)) (Evt.some _)
/- spec.SameTracks -/
theorem e13 (l : List Trk) (hl : (l.length : Int) ≤ 1000000) : Evt (fun n => call T C n 13 (l, l, ())) ((true, ()), ()) := by
  refine Evt.next (Evt.no (by simp) ?_) (fun n => r13 n l l)
  refine for_evt' 0 (l.length : Int) (fun i (_ : Unit) => (l, l, i, ())) (fun _ _ => True) (b0 := ()) rfl (by omega) trivial ?_ ?_
  · intro i _ i0 i1 _
    obtain ⟨v, hv⟩ := at_of i0 i1
    refine Round.yes (decide_eq_true i1) (Round.at hv.idx (Round.at hv.idx (Round.no (by simp) (Round.again _ ⟨(), by rw [wr_succ i0 i1 (by omega)], trivial⟩))))
  · intro _ _
    exact Round.no (by simp) (Round.done (Evt.some _))
/- spec.l01Far -/
theorem e42 (a : Int) : Evt (fun n => call T C n 42 (a, ())) ((inR a (-1000000) 1000000, ()), ()) := Evt.next (Evt.bind (e64 _ _ _) (Evt.some _)) (fun n => r42 n a)
/- spec.LiftAt -/
theorem e14 {c : List Int} (hr : Rng c) (ok : okC c = true) {x : Int} (x0 : 0 ≤ x) (x1 : x ≤ 1000) : Evt (fun n => call T C n 14 (c, x, ())) ((cAt c x, 0, ()), ()) := by
  have hl := okC_len ok
  have hv := e28 c (by omega)
  rw [ok] at hv
  have hf := e42 x
  rw [show inR x (-1000000) 1000000 = true from inR_iff.2 ⟨by omega, by omega⟩] at hf
  refine Evt.next (Evt.bind hv ?_) (fun n => r14 n c x)
  refine Evt.no (by decide) (Evt.bind hf ?_)
  exact Evt.no (by decide) (Evt.bind (e43' hr (by omega) (by omega) (by omega) (by omega)) (Evt.some _))
theorem e14_2 {c : List Int} (hr : Rng c) (ok : okC c = true) {x : Int} (x0 : -1000 ≤ x) (x1 : x ≤ 1000) : Evt (fun n => call T C n 14 (c, x, ())) ((cAt c x, 0, ()), ()) := by
  have hl := okC_len ok
  have hv := e28 c (by omega)
  rw [ok] at hv
  have hf := e42 x
  rw [show inR x (-1000000) 1000000 = true from inR_iff.2 ⟨by omega, by omega⟩] at hf
  refine Evt.next (Evt.bind hv ?_) (fun n => r14 n c x)
  refine Evt.no (by decide) (Evt.bind hf ?_)
  exact Evt.no (by decide) (Evt.bind (e43' hr (by omega) (by omega) (by omega) (by omega)) (Evt.some _))
/- impl.NextTrack -/
theorem e15 (q : Trk) {l s : Int} (h1 : -1000000000 ≤ q.1 ∧ q.1 ≤ 1000000000) (h2 : -1000000000 ≤ q.2.1 ∧ q.2.1 ≤ 1000000000) (hl : 0 ≤ l ∧ l ≤ 10000) (hs : 1 ≤ s ∧ s ≤ 10000) : Evt (fun n => call T C n 15 (q, l, s, ())) ((nxT q l s, 0, ()), ()) := by
  have a1 := e31 q.1 (-1000000000) 1000000000
  rw [inR_iff.2 h1] at a1
  have a2 := e31 q.2.1 (-1000000000) 1000000000
  rw [inR_iff.2 h2] at a2
  have a3 := e44 l
  rw [inR_iff.2 hl] at a3
  have a4 := e32 s
  rw [inR_iff.2 hs] at a4
  refine Evt.next (Evt.bind a1 (Evt.no (by simp) (Evt.bind a2 (Evt.no (by simp) (Evt.bind a3 (Evt.no (by simp) (Evt.bind a4 ?_))))))) (fun n => r15 n q l s)
  exact Evt.no (by simp) (Evt.bind (e45 q (l := l) (s := s) (by omega) (by omega) (by omega) (by omega)) (Evt.some _))
/- impl.FlownSteps -/
theorem e16 {c : List Int} (S : SmD c) {b s : Int} (hv : (inR b 1 20000 && inR s 1 10000) = true) {K : Nat} (hK : K ≤ 1000) : Evt (fun n => call T C n 16 (c, (b, s, ()), (K : Int), ())) ((flN c s K, 0, ()), ()) := by
  have hs := hv
  rw [Bool.and_eq_true, inR_iff, inR_iff] at hs
  refine Evt.next (Evt.bind (e38 S.ok hv hK) (Evt.no (by simp) (Evt.bind (e35 S.rng S.ok hs.2.1 hs.2.2 hK) ?_))) (fun n => r16 n c (b, s, ()) K)
  have hlen : ((tb (K + 1) (trk c s)).length : Int) = (K : Int) + 1 := by rw [tb_len]; omega
  rw [hlen]
  refine for_evt' 0 ((K : Int) + 1) (fun i (_ : Unit) => (flN c s (i.toNat - 1), tb (K + 1) (trk c s), (K : Int) + 1, i, ())) (fun _ _ => True) (b0 := ()) rfl (by omega) trivial ?_ ?_
  · intro i _ i0 i1 _
    obtain ⟨k, rfl⟩ : ∃ k : Nat, i = (k : Int) := ⟨i.toNat, by omega⟩
    have t := tb_at (n := K + 1) (G := trk c s) (i := (k : Int)) (by omega) (by omega)
    rw [Int.toNat_natCast] at t
    have hb := flN_bd c s (k - 1)
    have e1 : ((k : Int) + 1).toNat - 1 = k := by omega
    refine Round.yes (decide_eq_true i1) (Round.at t.idx ?_)
    rw [Int.toNat_natCast]
    cases hk : (trk c s k).2.2.1 with
    | true =>
      refine Round.no (by simp) (Round.again _ ⟨(), ?_, trivial⟩)
      rw [wrap_id (x := (k : Int) + 1) (by omega) (by omega), e1]
      cases k with
      | zero => rfl
      | succ k =>
        rw [Nat.add_sub_cancel]
        conv => rhs; unfold flN
        rw [if_pos hk]
    | false =>
      refine Round.yes rfl (Round.again _ ⟨(), ?_, trivial⟩)
      rw [wrap_id (x := (k : Int) + 1) (by omega) (by omega), wrap_id (x := flN c s (k - 1) + 1) (by omega) (by omega), e1]
      cases k with
      | zero => cases hk
      | succ k =>
        rw [Nat.add_sub_cancel]
        conv => rhs; unfold flN
        rw [if_neg (by rw [hk]; simp)]
  · intro _ _
    rw [show ((K : Int) + 1).toNat - 1 = K by omega]
    exact Round.no (by simp) (Round.done (Evt.some _))
/- impl.landings -/
theorem e46 {c : List Int} (S : SmD c) {s : Int} (s1 : 1 ≤ s) (s2 : s ≤ 10000) {K : Nat} (hK : K ≤ 1000) : Evt (fun n => call T C n 46 (tb (K + 1) (trk c s), s, ())) ((lnL c s K, ()), ()) := by
  have hbd := trk_bd (c := c) (M := 60) (fun x => S.cAt_bd x) s1
  refine Evt.next ?_ (fun n => r46 n _ s)
  refine for_evt' 1 ((K : Int) + 1) (fun i (_ : Unit) => (tb (K + 1) (trk c s), s, lnL c s (i.toNat - 1), i, ())) (fun _ _ => True) (b0 := ()) rfl (by omega) trivial ?_ ?_
  · intro i _ h2 h3 _
    obtain ⟨k, rfl⟩ : ∃ k : Nat, i = ((k + 1 : Nat) : Int) := ⟨(i - 1).toNat, by omega⟩
    have t1 := tb_at (n := K + 1) (G := trk c s) (i := ((k + 1 : Nat) : Int)) (by omega) (by omega)
    have t0 := tb_at (n := K + 1) (G := trk c s) (i := (k : Int)) (by omega) (by omega)
    rw [Int.toNat_natCast] at t1 t0
    have hw : wr .i64 (((k + 1 : Nat) : Int) - 1) = (k : Int) := by rw [wrap_id (by omega) (by omega)]; omega
    have hll := lnL_len c s k
    have e1 : (((k + 1 : Nat) : Int)).toNat - 1 = k := by omega
    have e2 : ((((k + 1 : Nat) : Int) + 1).toNat - 1) = k + 1 := by omega
    have b1 := (hbd (k + 1)).2
    have b0 := (hbd k).2
    have hsk : s * ((k + 1 : Nat) : Int) ≤ 10000 * ((k + 1 : Nat) : Int) := Int.mul_le_mul_of_nonneg_right s2 (by omega)
    have hsk0 : s * (k : Int) ≤ 10000 * (k : Int) := Int.mul_le_mul_of_nonneg_right s2 (by omega)
    have hlen : ((tb (K + 1) (trk c s)).length : Int) = (K : Int) + 1 := by rw [tb_len]; omega
    refine Round.yes (decide_eq_true (show ((k + 1 : Nat) : Int) < ((tb (K + 1) (trk c s)).length : Int) by omega)) ?_
    simp only [hw, e1]
    refine Round.at t1.idx (Round.at t0.idx ?_)
    have again : ∀ L, L = lnL c s (k + 1) → ∃ b' : Unit, ((tb (K + 1) (trk c s), s, L, wr .i64 (((k + 1 : Nat) : Int) + 1), ()) : List Trk × Int × List Lnd × Int × Unit) = (tb (K + 1) (trk c s), s, lnL c s ((((k + 1 : Nat) : Int) + 1).toNat - 1), ((k + 1 : Nat) : Int) + 1, ()) ∧ True := fun L e => ⟨(), by rw [e2, e, wrap_id (x := ((k + 1 : Nat) : Int) + 1) (by omega) (by omega)], trivial⟩
    cases ht1 : (trk c s (k + 1)).2.2.1 with
    | false =>
      refine Round.no (by simp) (Round.again _ (again _ ?_))
      rw [lnL_succ, if_neg (by unfold lds; rw [ht1]; simp)]
    | true =>
      refine Round.yes rfl ?_
      cases ht0 : (trk c s k).2.2.1 with
      | true =>
        refine Round.no (by simp) (Round.again _ (again _ ?_))
        rw [lnL_succ, if_neg (by unfold lds; rw [ht1, Nat.add_sub_cancel, ht0]; simp)]
      | false =>
        refine Round.yes rfl (Round.chk (decide_eq_true (by simp only [List.length_cons, List.length_nil]; omega)) (Round.again _ (again _ ?_)))
        have hlds : lds c s (k + 1) = true := by unfold lds; rw [ht1, Nat.add_sub_cancel, ht0]; rfl
        have eb : wr .i64 ((trk c s (k + 1)).2.1 - wr .i64 ((trk c s k).2.1 - s)) = blw c s (k + 1) := by
          rw [wrap_id (x := (trk c s k).2.1 - s) (by omega) (by omega), wrap_id (by omega) (by omega)]
          rfl
        rw [eb]
        rw [lnL_succ, if_pos hlds]
  · intro _ _
    have hlen : ((tb (K + 1) (trk c s)).length : Int) = (K : Int) + 1 := by rw [tb_len]; omega
    rw [show ((K : Int) + 1).toNat - 1 = K by omega]
    exact Round.no (by rw [hlen]; simp) (Round.done (Evt.some _))
/- impl.HardestLanding -/
theorem e17 {c : List Int} (S : SmD c) {b s : Int} (hv : (inR b 1 20000 && inR s 1 10000) = true) {K : Nat} (hK : K ≤ 1000) : Evt (fun n => call T C n 17 (c, (b, s, ()), (K : Int), ())) (((hlN c s K).1, (hlN c s K).2, (if (hlN c s K).1 = 0 then 6 else 0), ()), ()) := by
  have hs := hv
  rw [Bool.and_eq_true, inR_iff, inR_iff] at hs
  refine Evt.next (Evt.bind (e38 S.ok hv hK) (Evt.no (by simp) (Evt.bind (e35 S.rng S.ok hs.2.1 hs.2.2 hK) (Evt.bind (e46 S hs.2.1 hs.2.2 hK) ?_)))) (fun n => r17 n c (b, s, ()) K)
  have hll := lnL_len c s K
  rcases hlN_list c s K with ⟨h1, h2⟩ | ⟨x, h1, h2, h3⟩
  · rw [h1, h2]
    exact Evt.yes rfl (Evt.some _)
  · obtain ⟨L, hL⟩ : ∃ L, L = lnL c s K := ⟨_, rfl⟩
    rw [← hL] at h1 h2 hll ⊢
    have hpos : 0 < L.length := (List.getElem?_eq_some_iff.1 h1).1
    refine Evt.no (by show ¬ (((L.length : Int) == 0) = true); rw [beq_iff_eq]; omega) (Evt.chk (decide_eq_true ⟨Int.le_refl _, by show 0 < (L.length : Int); omega⟩) (Evt.at h1 ?_))
    rw [if_neg h3]
    refine for_evt' 0 (L.length : Int) (fun i (_ : Unit) => ((L.take i.toNat).foldl hlS x, L, (L.length : Int), i, ())) (fun _ _ => True) (b0 := ()) rfl (by omega) trivial ?_ ?_
    · intro i _ i0 i1 _
      obtain ⟨v, hv⟩ := at_of i0 i1
      have hnext : (L.take (i + 1).toNat).foldl hlS x = hlS ((L.take i.toNat).foldl hlS x) v := by rw [hv.take, List.foldl_append]; rfl
      refine Round.yes (decide_eq_true i1) (Round.at hv.idx ?_)
      rw [hnext]
      by_cases hc : v.2.1 > ((L.take i.toNat).foldl hlS x).2.1
      · refine Round.yes (decide_eq_true hc) (Round.again _ ⟨(), ?_, trivial⟩)
        rw [wr_succ i0 i1 (by omega), show hlS ((L.take i.toNat).foldl hlS x) v = v from if_pos hc]
      · refine Round.no (by simpa using hc) (Round.again _ ⟨(), ?_, trivial⟩)
        rw [wr_succ i0 i1 (by omega), show hlS ((L.take i.toNat).foldl hlS x) v = _ from if_neg hc]
    · intro _ _
      rw [Int.toNat_natCast, List.take_length, h2]
      exact Round.no (by simp) (Round.done (Evt.some _))
/- spec.l03Lands -/
theorem e47 {c : List Int} {s : Int} {K k : Nat} (k1 : 1 ≤ k) (k2 : k ≤ K) (hK : K ≤ 1000) : Evt (fun n => call T C n 47 (tb (K + 1) (trk c s), (k : Int), ())) ((lds c s k, ()), ()) := by
  have t1 := tb_at (n := K + 1) (G := trk c s) (i := (k : Int)) (by omega) (by omega)
  have t0 := tb_at (n := K + 1) (G := trk c s) (i := ((k - 1 : Nat) : Int)) (by omega) (by omega)
  rw [Int.toNat_natCast] at t1 t0
  have hw : wr .i64 ((k : Int) - 1) = ((k - 1 : Nat) : Int) := by rw [wrap_id (by omega) (by omega)]; omega
  refine Evt.next (Evt.at t1.idx ?_) (fun n => r47 n _ k)
  unfold lds
  cases ht1 : (trk c s k).2.2.1 with
  | false => exact Evt.no (by simp) (Evt.some _)
  | true =>
    refine Evt.yes rfl ?_
    rw [hw]
    refine Evt.at t0.idx ((Evt.some _).of_eq fun n => ?_)
    rfl
/- spec.l03Blow -/
theorem e48 {c : List Int} (S : SmD c) {s : Int} (s1 : 1 ≤ s) (s2 : s ≤ 10000) {K k : Nat} (k1 : 1 ≤ k) (k2 : k ≤ K) (hK : K ≤ 1000) (h : lds c s k = true) : Evt (fun n => call T C n 48 (tb (K + 1) (trk c s), (k : Int), s, ())) ((blw c s k, ()), ()) := by
  have hbd := trk_bd (c := c) (M := 60) (fun x => S.cAt_bd x) s1
  have t1 := tb_at (n := K + 1) (G := trk c s) (i := (k : Int)) (by omega) (by omega)
  have t0 := tb_at (n := K + 1) (G := trk c s) (i := ((k - 1 : Nat) : Int)) (by omega) (by omega)
  rw [Int.toNat_natCast] at t1 t0
  have hw : wr .i64 ((k : Int) - 1) = ((k - 1 : Nat) : Int) := by rw [wrap_id (by omega) (by omega)]; omega
  have b1 := (hbd k).2
  have b0 := (hbd (k - 1)).2
  have hsk : s * (k : Int) ≤ 10000 * (k : Int) := Int.mul_le_mul_of_nonneg_right s2 (by omega)
  have hsk0 : s * ((k - 1 : Nat) : Int) ≤ 10000 * ((k - 1 : Nat) : Int) := Int.mul_le_mul_of_nonneg_right s2 (by omega)
  unfold lds at h
  simp only [Bool.and_eq_true, Bool.not_eq_true'] at h
  refine Evt.next (Evt.at t1.idx (Evt.no (by rw [h.1]; simp) ?_)) (fun n => r48 n _ k s)
  rw [hw]
  refine Evt.at t0.idx (Evt.no (by rw [h.2]; simp) (Evt.at t1.idx (Evt.at t0.idx ((Evt.some _).of_eq fun n => ?_))))
  rw [wrap_id (x := (trk c s (k - 1)).2.1 - s) (by omega) (by omega), wrap_id (by omega) (by omega)]
  rfl
/- spec.HardestLanding -/
theorem e18 {c : List Int} (S : SmD c) {b s : Int} (hv : (inR b 1 20000 && inR s 1 10000) = true) {K : Nat} (hK : K ≤ 1000) : Evt (fun n => call T C n 18 (c, (b, s, ()), (K : Int), ())) (((hlN c s K).1, (hlN c s K).2, (if (hlN c s K).1 = 0 then 6 else 0), ()), ()) := by
  have hs := hv
  rw [Bool.and_eq_true, inR_iff, inR_iff] at hs
  refine Evt.next (Evt.bind (e40 S.ok hv hK) (Evt.no (by simp) (Evt.bind (e41 S hs.2.1 hs.2.2 hK) ?_))) (fun n => r18 n c (b, s, ()) K)
  refine for_evt' 1 ((K : Int) + 1) (fun i (_ : Unit) => ((K : Int), (b, s, ()), tb (K + 1) (trk c s), (hlN c s (i.toNat - 1)).1, (hlN c s (i.toNat - 1)).2, i, ())) (fun _ _ => True) (b0 := ()) rfl (by omega) trivial ?_ ?_
  · intro i _ i0 i1 _
    obtain ⟨k, rfl⟩ : ∃ k : Nat, i = ((k + 1 : Nat) : Int) := ⟨(i - 1).toNat, by omega⟩
    have e1 : (((k + 1 : Nat) : Int)).toNat - 1 = k := by omega
    have e2 : ((((k + 1 : Nat) : Int) + 1).toNat - 1) = k + 1 := by omega
    refine Round.yes (decide_eq_true (show ((k + 1 : Nat) : Int) ≤ (K : Int) by omega)) ?_
    simp only [e1]
    refine Round.bind (e47 (c := c) (s := s) (K := K) (k := k + 1) (by omega) (by omega) hK) ?_
    have again : ∀ p : Int × Int, p = hlN c s (k + 1) → ∃ b' : Unit, (((K : Int), (b, s, ()), tb (K + 1) (trk c s), p.1, p.2, wr .i64 (((k + 1 : Nat) : Int) + 1), ()) : Int × (Int × Int × Unit) × List Trk × Int × Int × Int × Unit) = ((K : Int), (b, s, ()), tb (K + 1) (trk c s), (hlN c s ((((k + 1 : Nat) : Int) + 1).toNat - 1)).1, (hlN c s ((((k + 1 : Nat) : Int) + 1).toNat - 1)).2, ((k + 1 : Nat) : Int) + 1, ()) ∧ True := fun p hp => ⟨(), by rw [e2, hp, wrap_id (x := ((k + 1 : Nat) : Int) + 1) (by omega) (by omega)], trivial⟩
    cases hl : lds c s (k + 1) with
    | false =>
      refine Round.yes rfl (Round.again _ (again (hlN c s k) ?_))
      conv => rhs; unfold hlN
      rw [if_neg (by rw [hl]; simp)]
    | true =>
      refine Round.no (by simp) ?_
      refine Round.bind (e48 S hs.2.1 hs.2.2 (K := K) (k := k + 1) (by omega) (by omega) hK hl) ?_
      by_cases h0 : (hlN c s k).1 = 0
      · refine Round.yes (by simpa using h0) (Round.again _ (again (((k + 1 : Nat) : Int), blw c s (k + 1)) ?_))
        conv => rhs; unfold hlN
        rw [if_pos ⟨hl, .inl h0⟩]
      · refine Round.no (by simpa using h0) ?_
        by_cases hb : blw c s (k + 1) > (hlN c s k).2
        · refine Round.yes (by simpa using hb) (Round.again _ (again (((k + 1 : Nat) : Int), blw c s (k + 1)) ?_))
          conv => rhs; unfold hlN
          rw [if_pos ⟨hl, .inr hb⟩]
        · refine Round.no (by simpa using hb) (Round.again _ (again (hlN c s k) ?_))
          conv => rhs; unfold hlN
          rw [if_neg fun h => h.2.elim h0 hb]
  · intro _ _
    rw [show ((K : Int) + 1).toNat - 1 = K by omega]
    refine Round.no (by simp; omega) (Round.done ?_)
    by_cases h0 : (hlN c s K).1 = 0
    · rw [if_pos h0]
      have : hlN c s K = (0, 0) := by
        rcases hlN_of c s K with h | ⟨j, h1, _, _, h⟩
        · exact h
        · rw [h] at h0; simp at h0; omega
      rw [this]
      exact Evt.yes rfl (Evt.some _)
    · rw [if_neg h0]
      exact Evt.no (by simpa using h0) (Evt.some _)
/- strconv.FormatInt -/
theorem e69 (u : Nat) (h : u ≤ 9223372036854775807) : Evt (fun n => call T C n 69 ((u : Int), 10, ())) ((tx (Lib.decDigits u), ()), ()) := by
  refine Evt.next ?_ (fun n => r69 n u 10)
  dsimp only
  rw [if_pos ⟨rfl, by omega, by omega⟩, Lib.itoa_nonneg]
  exact Evt.some _
/- impl.decimal -/
theorem e51 (u : Nat) (h : u ≤ 9223372036854775807) : Evt (fun n => call T C n 51 ((u : Int), ())) ((tx (Lib.decDigits u), ()), ()) :=
  Evt.next (Evt.bind (e69 u h) (Evt.some _)) (fun n => r51 n u)
/- impl.FollowerText -/
theorem e20 {b s : Nat} (hv : (inR (b : Int) 1 20000 && inR (s : Int) 1 10000) = true) : Evt (fun n => call T C n 20 (((b : Int), (s : Int), ()), ())) ((tx (flT b s), ()), ()) := by
  have hs := hv
  rw [Bool.and_eq_true, inR_iff, inR_iff] at hs
  have hV := e9 (b : Int) (s : Int)
  rw [hv] at hV
  have l1 := dec_len (u := b) (by omega)
  have l2 := dec_len (u := s) (by omega)
  refine Evt.next (Evt.bind hV (Evt.no (by simp) (Evt.bind (e51 b (by omega)) ?_))) (fun n => r20 n ((b : Int), (s : Int), ()))
  have e1 : ((⟨#[102, 111, 108, 108, 111, 119, 101, 114, 32]⟩ : ByteArray)) = tx (flW ++ [32]) := rfl
  have e2 : ((⟨#[32]⟩ : ByteArray)) = tx [32] := rfl
  simp only [e1, e2, tx_app]
  refine Evt.chk (decide_eq_true (by simp only [tx_size, flW, List.length_append, List.length_cons, List.length_nil]; omega)) (Evt.chk (decide_eq_true (by simp only [tx_size, flW, List.length_append, List.length_cons, List.length_nil]; omega)) (Evt.bind (e51 s (by omega)) (Evt.chk (decide_eq_true (by simp only [tx_size, flW, List.length_append, List.length_cons, List.length_nil]; omega)) ?_)))
  rw [flT_eq]
  simp only [tx_app]
  exact Evt.some _
/- strings.Split -/
theorem e49 {c : UInt8} {w : List UInt8} {ws : List (List UInt8)} (h : c ∉ w) (hs : ∀ v ∈ ws, c ∉ v) (hl : (Lib.join (w :: ws) [c]).length ≤ 1000000) : Evt (fun n => call T C n 49 (tx (Lib.join (w :: ws) [c]), tx [c], ())) (((w :: ws).map tx, ()), ()) := by
  refine Evt.next ?_ (fun n => r49 n (tx (Lib.join (w :: ws) [c])) (tx [c]))
  dsimp only
  rw [if_pos ⟨by rw [tx_size]; omega, by rw [tx_size]; simp⟩, split_tx h hs]
  exact Evt.some _
/- strconv.ParseInt -/
theorem e68 {u : Nat} (h : u ≤ 9223372036854775807) : Evt (fun n => call T C n 68 (tx (Lib.decDigits u), 10, 64, ())) (((u : Int), false, ()), ()) := by
  have l1 := dec_len h
  refine Evt.next ?_ (fun n => r68 n (tx (Lib.decDigits u)) 10 64)
  dsimp only
  rw [if_pos ⟨by rw [tx_size]; omega, rfl, rfl⟩, tx_list, parse_int h]
  exact Evt.some _
/- impl.number -/
theorem e50 {u : Nat} (h : u ≤ 9223372036854775807) : Evt (fun n => call T C n 50 (tx (Lib.decDigits u), ())) (((u : Int), true, ()), ()) := by
  refine Evt.next (Evt.bind (e68 h) (Evt.chk rfl (Evt.yes rfl (Evt.bind (e51 u h) ?_)))) (fun n => r50 n (tx (Lib.decDigits u)))
  simp only [beq_self_eq_true, cond_true]
  exact Evt.some _
/- impl.ReadFollower -/
theorem e19 {b s : Nat} (hv : (inR (b : Int) 1 20000 && inR (s : Int) 1 10000) = true) : Evt (fun n => call T C n 19 (tx (flT b s), ())) ((((b : Int), (s : Int), ()), 0, ()), ()) := by
  have hs := hv
  rw [Bool.and_eq_true, inR_iff, inR_iff] at hs
  have hV := e9 (b : Int) (s : Int)
  rw [hv] at hV
  have hl := flT_len (b := b) (s := s) (by omega) (by omega)
  have hS := e49 (c := 32) (w := flW) (ws := [Lib.decDigits b, Lib.decDigits s]) fl_no (fun v hv => by
    rcases List.mem_cons.1 hv with rfl | hv
    · exact dec_no b
    · rw [List.mem_singleton.1 hv]; exact dec_no s) (by show (flT b s).length ≤ 1000000; omega)
  refine Evt.next (Evt.bind hS (Evt.no (by simp) (Evt.chk rfl (Evt.at (x := tx (Lib.decDigits b)) rfl (Evt.bind (e50 (by omega)) (Evt.chk rfl (Evt.at (x := tx (Lib.decDigits s)) rfl (Evt.bind (e50 (by omega)) (Evt.bind hV (Evt.no (by simp) (Evt.bind (e20 hv) ?_))))))))))) (fun n => r19 n (tx (flT b s)))
  exact Evt.no (by simp) (Evt.some _)
/- laws.FnFollowers -/
theorem e3' {c : List Int} (hr : Rng c) (ok : okC c = true) {b s : Int} (hv : (inR b 1 20000 && inR s 1 10000) = true) {i : Nat} (hi : fi (fun (q : Trk) => !q.2.2.1) (tb (c.length + 1) (trk c s)) 0 = (i : Int)) : Evt (fun n => call T C n 10 (c, (b, s, ()), ())) (((i : Int), 0, ()), ()) := by
  have lx := okC_len ok
  have hs := hv
  rw [Bool.and_eq_true, inR_iff, inR_iff] at hs
  have hc := e33 (c := c) (by omega) b s
  rw [if_pos ⟨ok, hv⟩] at hc
  have hF := e34 (tb (c.length + 1) (trk c s)) (by rw [tb_len]; omega)
  rw [hi] at hF
  exact Evt.next (Evt.bind hc (Evt.no (by simp) (Evt.bind (e36 c) (Evt.bind (e35 hr ok hs.2.1 hs.2.2 (K := c.length) (by omega)) (Evt.bind hF (Evt.no (by simp) (Evt.some _))))))) (fun n => r10 n c (b, s, ()))
theorem e3 (a b : List Int) (hd : DomA (C 3).params (a, b, ())) : Evt (fun n => call T C n 3 (a, b, ())) ((true, ()), ()) := by
  have ha : ∀ v ∈ a, 0 ≤ v ∧ v ≤ 255 := fun v hv => hd.1.2 v hv
  have hb : ∀ v ∈ b, 0 ≤ v ∧ v ≤ 255 := fun v hv => hd.2.1.2 v hv
  refine Evt.next (Evt.bind (e4 a) (Evt.ite (fun _ => Evt.some _) (fun h1 => Evt.bind (e4 b) (Evt.ite (fun _ => Evt.some _) (fun h2 => ?_))))) (fun n => r3 n a b)
  have la : (a.length : Int) ≤ 4096 := by simpa using h1
  have lb : (b.length : Int) ≤ 4096 := by
    have h : ¬ decide ((b.length : Int) > 4096) = true := h2
    simpa using h
  obtain ⟨c, hC, S⟩ := e5 ha la
  obtain ⟨B', s', hF, ⟨B1, B2⟩, s1, s2⟩ := e6 hb lb
  obtain ⟨B, rfl⟩ : ∃ B : Nat, B' = (B : Int) := ⟨B'.toNat, by omega⟩
  obtain ⟨s, rfl⟩ : ∃ s : Nat, s' = (s : Int) := ⟨s'.toNat, by omega⟩
  have hl := S.len
  have hr := S.rng
  have h0 : 0 < c.length := by omega
  have hv : (inR (B : Int) 1 20000 && inR (s : Int) 1 10000) = true := by rw [Bool.and_eq_true, inR_iff, inR_iff]; omega
  have hsp := sprF_small h0 (M := 60) (by omega) S.el
  have hV := e9 (B : Int) (s : Int)
  rw [hv] at hV
  obtain ⟨K, hK⟩ : ∃ K, K = 3 * c.length := ⟨_, rfl⟩
  have eK : wr .i64 ((3 : Int) * (c.length : Int)) = (K : Int) := by rw [wrap_id (by omega) (by omega)]; omega
  have hbd := trk_bd (c := c) (M := 60) (fun x => S.cAt_bd x) s1
  refine Evt.bind hC (Evt.bind hF (Evt.bind (e7 hr S.ok) (Evt.bind (e8 hr S.ok) (Evt.no (by simp) (Evt.no (by simp) (Evt.no (by simp) (Evt.bind hV (Evt.no (by simp) (Evt.bind (e10 hr S.ok (b := (B : Int)) (s := sprF (bends c)) (by omega) (by omega) (by omega) (by omega) (spr_bend h0)) (Evt.no (by simp) ?_))))))))))
  refine twice (fun hT hc => ?_) ?_
  · have hc : 1 < sprF (bends c) := by simpa using hc
    obtain ⟨i, i1, i2, hi⟩ := weak_goes hc
    have hL := e3' hr S.ok (b := (B : Int)) (s := sprF (bends c) - 1) (by rw [Bool.and_eq_true, inR_iff, inR_iff]; omega) hi
    rw [wrap_id (x := sprF (bends c) - 1) (by omega) (by omega)]
    exact Evt.bind hL (Evt.no (by simp) (Evt.no (by simp; omega) (Evt.no (by simp; omega) hT)))
  · simp only [eK]
    refine Evt.bind (e11 S hv (K := K) (by omega) (by omega)) (Evt.bind (e12 S hv (K := K) (by omega) (by omega)) (Evt.no (by simp) (Evt.no (by simp) (Evt.bind (e13 _ (by rw [tb_len]; omega)) (Evt.no (by simp) (Evt.no (by simp [tb_len]) ?_))))))
    obtain ⟨L, hL⟩ : ∃ L, L = tb K fun i => trk c (s : Int) (i + 1) := ⟨_, rfl⟩
    rw [← hL]
    have hat : ∀ k : Nat, k < K → At L (k : Int) (trk c (s : Int) (k + 1)) := fun k hk => by
      have := tb_at (n := K) (G := fun i => trk c (s : Int) (i + 1)) (i := (k : Int)) (by omega) (by omega)
      rw [Int.toNat_natCast, ← hL] at this
      exact this
    refine for_evt' 0 (K : Int) (fun i (_ : Unit) => (c, (c.length : Int), ((B : Int), (s : Int), ()), L, flN c (s : Int) i.toNat, i, ())) (fun _ _ => True) (b0 := ()) rfl (by omega) trivial ?_ ?_
    · intro i _ i0 i1 _
      obtain ⟨k, rfl⟩ : ∃ k : Nat, i = (k : Int) := ⟨i.toNat, by omega⟩
      have hk := hat k (by omega)
      have ew : wr .i64 ((k : Int) + 1) = ((k + 1 : Nat) : Int) := by rw [wrap_id (by omega) (by omega)]; omega
      have hA := e14 hr S.ok (x := ((k + 1 : Nat) : Int)) (by omega) (by omega)
      have hfb := flN_bd c (s : Int) k
      have hcb := S.cAt_bd ((k + 1 : Nat) : Int)
      obtain ⟨g1, g2, g3⟩ := nxT_ge (trk c (s : Int) k) (cAt c ((k + 1 : Nat) : Int)) (s : Int)
      rw [← trk_succ] at g1 g2 g3
      have again : ∀ f, f = flN c (s : Int) (k + 1) → ∃ b' : Unit, ((c, (c.length : Int), ((B : Int), (s : Int), ()), L, f, ((k + 1 : Nat) : Int), ()) : List Int × Int × (Int × Int × Unit) × List Trk × Int × Int × Unit) = (c, (c.length : Int), ((B : Int), (s : Int), ()), L, flN c (s : Int) ((k : Int) + 1).toNat, (k : Int) + 1, ()) ∧ True := fun f hf => ⟨(), by rw [hf, show ((k : Int) + 1).toNat = k + 1 by omega, show ((k + 1 : Nat) : Int) = (k : Int) + 1 by omega], trivial⟩
      have hprev : 0 < k → ∃ j : Nat, k = j + 1 ∧ wr .i64 ((k : Int) - 1) = (j : Int) := fun h => ⟨k - 1, by omega, by rw [wrap_id (by omega) (by omega)]; omega⟩
      have hN : Evt (fun n => call T C n 15 (trk c (s : Int) k, cAt c ((k + 1 : Nat) : Int), (s : Int), ())) ((trk c (s : Int) (k + 1), 0, ()), ()) := by
        have b0 := hbd k
        have hsk : (s : Int) * (k : Int) ≤ 6 * (k : Int) := Int.mul_le_mul_of_nonneg_right s2 (by omega)
        exact e15 (trk c (s : Int) k) (by omega) (by omega) (by omega) (by omega)
      have hsum : wr .i64 ((trk c (s : Int) k).1 + (trk c (s : Int) (k + 1)).2.1) = (trk c (s : Int) (k + 1)).1 := by
        have b0 := (hbd (k + 1)).1
        rw [← g3, wrap_id (by omega) (by omega)]
      simp only [eK, ew, Int.toNat_natCast]
      refine Round.yes (decide_eq_true i1) (Round.bind hA (Round.no (by simp) (Round.at hk.idx (Round.no (by simpa using g1) (Round.at hk.idx (Round.at hk.idx (Round.no (by rw [g2]; simp) (Round.at hk.idx ?_))))))))
      cases hfl : (trk c (s : Int) (k + 1)).2.2.1 with
      | false =>
        have hf1 : wr .i64 (flN c (s : Int) k + 1) = flN c (s : Int) (k + 1) := by
          rw [wrap_id (by omega) (by omega)]
          conv => rhs; unfold flN
          rw [if_neg (by rw [hfl]; simp)]
        refine Round.yes rfl (Round.ite (fun h => ?_) (fun _ => ?_))
        · have h : 0 < k := by simpa using h
          obtain ⟨j, rfl, ej⟩ := hprev h
          have hj := hat j (by omega)
          simp only [ej]
          refine Round.at hj.idx (Round.bind hN (Round.no (by simp) (Round.at hk.idx (Round.no (by simp) (Round.at hk.idx (Round.at hj.idx (Round.at hk.idx (Round.no (by rw [hsum]; simp) (Round.again _ (again _ hf1))))))))))
        · exact Round.again _ (again _ hf1)
      | true =>
        have hf1 : flN c (s : Int) k = flN c (s : Int) (k + 1) := by
          conv => rhs; unfold flN
          rw [if_pos hfl]
        refine Round.no (by simp) (Round.ite (fun h => ?_) (fun _ => ?_))
        · have h : 0 < k := by simpa using h
          obtain ⟨j, rfl, ej⟩ := hprev h
          have hj := hat j (by omega)
          simp only [ej]
          refine Round.at hj.idx (Round.bind hN (Round.no (by simp) (Round.at hk.idx (Round.no (by simp) (Round.at hk.idx (Round.at hj.idx (Round.at hk.idx (Round.no (by rw [hsum]; simp) (Round.again _ (again _ hf1))))))))))
        · exact Round.again _ (again _ hf1)
    · intro _ _
      simp only [eK, Int.toNat_natCast]
      refine Round.no (by simp) (Round.bind (e16 S hv (K := K) (by omega)) (Round.bind (e17 S hv (K := K) (by omega)) (Round.bind (e18 S hv (K := K) (by omega)) (Round.bind (e20 hv) (Round.bind (e19 hv) ?_)))))
      refine Round.no (by simp) (Round.no (by simp) (Round.no (by simp) (Round.no (by simp) (Round.no (by simp) (Round.no (by simp) (Round.no (by simp) ?_))))))
      rcases hlN_of c (s : Int) K with h | ⟨j, j1, j2, hj, h⟩
      · rw [h]
        exact Round.yes rfl (Round.done (Evt.some _))
      · have hn : ((j : Int) = 0) = False := by simp; omega
        rw [h]
        simp only [hn, if_false]
        have hbn := blw_nn (by omega) hj
        have w1 : wr .i64 ((j : Int) - 1) = ((j - 1 : Nat) : Int) := by rw [wrap_id (by omega) (by omega)]; omega
        have w2 : wr .i64 ((j : Int) - 2) = ((j - 2 : Nat) : Int) := by rw [wrap_id (by omega) (by omega)]; omega
        have a1 := hat (j - 1) (by omega)
        have a2 := hat (j - 2) (by omega)
        rw [show j - 1 + 1 = j by omega] at a1
        rw [show j - 2 + 1 = j - 1 by omega] at a2
        unfold lds at hj
        simp only [Bool.and_eq_true, Bool.not_eq_true'] at hj
        simp only [w1, w2]
        refine Round.no (by simp) (Round.yes (decide_eq_true hbn) (Round.yes (decide_eq_true (show (j : Int) ≥ 2 by omega)) (Round.at a1.idx (Round.yes hj.1 (Round.at a2.idx (Round.done ((Evt.some _).of_eq fun n => ?_)))))))
        rw [hj.2]
        rfl

end Go.Cams.YtoafnbpahdnchaaGreatDoorLFo
