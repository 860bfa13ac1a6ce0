/- What the functions that the law reaches come to. -/
import Derived.Test.YtoafnbpahdnchaaRSl
import Derived.Test.YtoafnbpahdnchaaPuAll
namespace Go.Cams.YtoafnbpahdnchaaLSl
open Go Go.Fw Go.Proofs Go.Proofs.Ytoafnbpahdnchaa.LSl
/- laws.f6big -/
theorem e40 (a : List Int) : Evt (fun n => call T C n 40 (a, ())) ((decide ((a.length : Int) > 4096), ()), ()) := Evt.next (Evt.some _) (fun n => r40 n a)
/- spec.l00From -/
theorem e81 (a : List Int) : Evt (fun n => call T C n 81 (a, ())) (((a, 0, 0, ()), ()), ()) := Evt.next (Evt.some _) (fun n => r81 n a)
/- (*spec.l00Src).next -/
theorem e154 {k : Int} {s : Src} (h : SrcAt k s) (hk : k ≤ 1000000000000) : ∃ (v : Int) (s' : Src), Evt (fun n => call T C n 154 (s, ())) ((v, ()), (s', ())) ∧ 0 ≤ v ∧ v ≤ 255 ∧ SrcAt (k + 1) s' := by
  obtain ⟨h1, h2, h3, h4⟩ := h
  have hw : wr .i64 (s.2.1 + 1) = s.2.1 + 1 := wrap_id (by omega) (by omega)
  by_cases hp : s.2.1 < (s.1.length : Int)
  · obtain ⟨v, hv⟩ := at_of h3 hp
    have hb := h1 v hv.mem
    have ev : wr .i64 v = v := wrap_id (by omega) (by omega)
    obtain ⟨z, hz⟩ : ∃ z, z = wr .u64 ((wr .u64 ((wr .u64 (s.2.2.1 * (6364136223846793005 : Int))) + (wr .u64 (wr .i64 v)))) + (1442695040888963407 : Int)) := ⟨_, rfl⟩
    refine ⟨v, (s.1, s.2.1 + 1, z, ()), Evt.next (Evt.yes (decide_eq_true hp) (Evt.at hv.idx (Evt.yes (decide_eq_true (by rw [hw]; omega)) ((Evt.some _).of_eq fun n => ?_)))) (fun n => r154 n s), hb.1, hb.2, h1, h2, by show 0 ≤ s.2.1 + 1; omega, by show s.2.1 + 1 ≤ k + 1; omega⟩
    rw [← hz, hw, ev]
    rfl
  · obtain ⟨z, hz⟩ : ∃ z, z = wr .u64 ((wr .u64 ((wr .u64 (s.2.2.1 * (6364136223846793005 : Int))) + (wr .u64 (0 : Int)))) + (1442695040888963407 : Int)) := ⟨_, rfl⟩
    have hzb : 0 ≤ z ∧ z < 18446744073709551616 := by rw [hz]; exact wrap_u64 _
    obtain ⟨y, rfl⟩ : ∃ y : Nat, z = y := ⟨z.toNat, by omega⟩
    have hval : wr .i64 (bitsI .and .u64 (shr_ .u64 (y : Int) (40 : Int)) (255 : Int)) = ((y / 2 ^ 40 % 256 : Nat) : Int) := by
      rw [show (40 : Int) = ((40 : Nat) : Int) from rfl, shr_nat (by omega), and_255 (Nat.lt_of_le_of_lt (Nat.div_le_self _ _) (by omega))]
      have := Nat.mod_lt (y / 2 ^ 40) (show 0 < 256 by omega)
      exact wrap_id (by omega) (by omega)
    have hm := Nat.mod_lt (y / 2 ^ 40) (show 0 < 256 by omega)
    refine ⟨((y / 2 ^ 40 % 256 : Nat) : Int), (s.1, s.2.1 + 1, (y : Int), ()), Evt.next (Evt.no (by simpa using hp) (Evt.no (by rw [hw]; simp; omega) (Evt.chk rfl ((Evt.some _).of_eq fun n => ?_)))) (fun n => r154 n s), by omega, by omega, h1, h2, by show 0 ≤ s.2.1 + 1; omega, by show s.2.1 + 1 ≤ k + 1; omega⟩
    rw [← hz, hw, hval]
    rfl
/- (*spec.l00Src).pick -/
theorem e101 {k : Int} {s : Src} (h : SrcAt k s) (hk : k ≤ 999999999000) {m : Int} (m1 : 1 ≤ m) (m2 : m ≤ 1000000) : ∃ (v : Int) (s' : Src), Evt (fun n => call T C n 101 (s, m, ())) ((v, ()), (s', ())) ∧ 0 ≤ v ∧ v < m ∧ SrcAt (k + 2) s' := by
  by_cases hm : m ≤ 1
  · exact ⟨0, s, Evt.next (Evt.yes (decide_eq_true hm) (Evt.some _)) (fun n => r101 n s m), by omega, by omega, h.mono (by omega)⟩
  · obtain ⟨v, s1, hE, v0, v1, hs1⟩ := e154 h (by omega)
    by_cases hb : m > 200
    · obtain ⟨u, s2, hE2, u0, u1, hs2⟩ := e154 hs1 (by omega)
      have hx : wr .i64 (wr .i64 (v * 256) + u) = v * 256 + u := by rw [wrap_id (x := v * 256) (by omega) (by omega), wrap_id (by omega) (by omega)]
      have ht0 := Int.tmod_nonneg m (show 0 ≤ v * 256 + u by omega)
      have ht1 := Int.tmod_lt_of_pos (v * 256 + u) (show 0 < m by omega)
      refine ⟨Int.tmod (v * 256 + u) m, s2, Evt.next (Evt.no (by simpa using hm) (Evt.bind hE (Evt.yes (decide_eq_true hb) (Evt.bind hE2 (Evt.chk (bne_pos (by omega)) ((Evt.some _).of_eq fun n => ?_)))))) (fun n => r101 n s m), ht0, ht1, hs2.mono (by omega)⟩
      rw [hx]
      rfl
    · have ht0 := Int.tmod_nonneg m v0
      have ht1 := Int.tmod_lt_of_pos v (show 0 < m by omega)
      exact ⟨Int.tmod v m, s1, Evt.next (Evt.no (by simpa using hm) (Evt.bind hE (Evt.no (by simpa using hb) (Evt.chk (bne_pos (by omega)) (Evt.some _))))) (fun n => r101 n s m), ht0, ht1, hs1.mono (by omega)⟩
/- (*spec.l00Src).among -/
theorem e152 {k : Int} {s : Src} (h : SrcAt k s) (hk : k ≤ 999999999000) {l : List Int} (l1 : 1 ≤ (l.length : Int)) (l2 : (l.length : Int) ≤ 1000000) : ∃ (v : Int) (s' : Src), Evt (fun n => call T C n 152 (s, l, ())) ((v, ()), (s', ())) ∧ v ∈ l ∧ SrcAt (k + 2) s' := by
  obtain ⟨i, s1, hE, i0, i1, hs1⟩ := e101 h hk l1 l2
  obtain ⟨v, hv⟩ := at_of i0 i1
  refine ⟨v, s1, Evt.next ?_ (fun n => r152 n s l), hv.mem, hs1⟩
  exact Evt.bind hE (Evt.at hv.idx (Evt.some _))
/- spec.l00Min -/
theorem e153 (a b : Int) : Evt (fun n => call T C n 153 (a, b, ())) ((min a b, ()), ()) := by
  refine Evt.next (Evt.ite (fun h => ?_) (fun h => ?_)) (fun n => r153 n a b)
  · have h : a < b := of_decide_eq_true h
    rw [show min a b = a by omega]; exact Evt.some _
  · have h : ¬ a < b := by simpa using h
    rw [show min a b = b by omega]; exact Evt.some _
/- spec.l00Max -/
theorem e117 (a b : Int) : Evt (fun n => call T C n 117 (a, b, ())) ((max a b, ()), ()) := by
  refine Evt.next (Evt.ite (fun h => ?_) (fun h => ?_)) (fun n => r117 n a b)
  · have h : a > b := of_decide_eq_true h
    rw [show max a b = a by omega]; exact Evt.some _
  · have h : ¬ a > b := by simpa using h
    rw [show max a b = b by omega]; exact Evt.some _
/- (*spec.l00Src).one -/
theorem e142 {k : Int} {s : Src} (h : SrcAt k s) (hk : k ≤ 999999999000) {m : Int} (m1 : 1 ≤ m) (m2 : m ≤ 1000000) : ∃ (b : Bool) (s' : Src), Evt (fun n => call T C n 142 (s, m, ())) ((b, ()), (s', ())) ∧ SrcAt (k + 2) s' := by
  obtain ⟨v, s1, hE, v0, v1, hs1⟩ := e101 h hk m1 m2
  exact ⟨v == 0, s1, Evt.next (Evt.bind hE (Evt.some _)) (fun n => r142 n s m), hs1⟩
/- spec.l01Drawn -/
theorem e100 {k : Int} {s : Src} (h : SrcAt k s) (hk : k ≤ 999999990000) : ∃ (c : List Int) (s' : Src), Evt (fun n => call T C n 100 (s, ())) ((c, ()), (s', ())) ∧ SmD c ∧ SrcAt (k + 200) s' := by
  obtain ⟨n0, s1, hE1, hn0, hs1⟩ := e152 h (by omega) (l := [8, 9, 12, 16, 24, 36]) (by simp) (by simp)
  have hn : 8 ≤ n0 ∧ n0 ≤ 36 := by simp at hn0; omega
  obtain ⟨nn, rfl⟩ : ∃ m : Nat, n0 = m := ⟨n0.toNat, by omega⟩
  obtain ⟨l0, s2, hE2, l00, l01, hs2⟩ := e101 hs1 (by omega) (m := 20) (by omega) (by omega)
  have key : EvtX (fun n => call T C n 100 (s, ())) (fun y => SmD y.1.1 ∧ SrcAt (k + 200) y.2.1) := by
    refine EvtX.next (EvtX.bind hE1 (EvtX.bind hE2 ?_)) (fun n => r100 n s)
    refine EvtX.loop (fun x => ∃ (src : Src) (o : List Int) (l : Int), x = (src, (nn : Int), o, l, ()) ∧ SrcAt (k + 4 + 4 * o.length) src ∧ GoodG2 nn (o, l)) (fun x => nn - x.2.2.1.length)
      ⟨s2, [], l0, rfl, hs2.mono (by simp; omega), ⟨fun v hv => (by cases hv), by show 0 ≤ l0 ∧ l0 ≤ 60; omega, by show 0 ≤ nn; omega⟩⟩ ?_
    rintro x ⟨src, out, l, rfl, hsrc, G⟩
    have hle : out.length ≤ nn := G.le
    by_cases hlt : out.length < nn
    · right
      obtain ⟨a, a1, hA, a0, al, hs3⟩ := e101 hsrc (by omega) (m := 7) (by omega) (by omega)
      obtain ⟨b, b1, hB, b0, bl, hs4⟩ := e101 hs3 (by omega) (m := 5) (by omega) (by omega)
      obtain ⟨m, hm⟩ : ∃ m : Nat, 1 + b = m := ⟨(1 + b).toNat, by omega⟩
      have G2 := grow_good (b := a - 3) m G
      have G3 := grow_more (b := a - 3) (k := m) G hlt (by omega)
      obtain ⟨R, eR⟩ : ∃ R, R = grow (a - 3) nn m (out, l) := ⟨_, rfl⟩
      rw [← eR] at G2 G3
      have G3 : out.length < R.1.length := G3
      have hRle : R.1.length ≤ nn := G2.1.le
      refine ⟨(b1, (nn : Int), R.1, R.2, ()), ⟨b1, R.1, R.2, rfl, hs4.mono (by omega), G2.1⟩, by show nn - R.1.length < nn - out.length; omega, fun y => ?_⟩
      refine Round.yes (decide_eq_true (show (out.length : Int) < (nn : Int) by omega)) (Round.bind hA (Round.bind hB ?_))
      simp only [wrap_id (x := a - 3) (by omega) (by omega), hm, wrap_id (x := (m : Int)) (by omega) (by omega)]
      refine for_round' 0 (m : Int) (fun i (s : List Int × Int) => (b1, (nn : Int), s.1, s.2, a - 3, (m : Int) - i, ())) (fun i s => GoodG2 nn s ∧ grow (a - 3) nn ((m : Int) - i).toNat s = R) (b0 := (out, l)) (by rw [Int.sub_zero]) (by omega) ⟨G, by rw [Int.sub_zero, Int.toNat_natCast, eR]⟩ ?_ ?_
      · intro i s h2 h3 ⟨hG, he⟩
        rw [show ((m : Int) - i).toNat = ((m : Int) - (i + 1)).toNat + 1 by omega, grow] at he
        refine Round.yes (decide_eq_true (show (m : Int) - i > 0 by omega)) ?_
        have hsle : s.1.length ≤ nn := hG.le
        have hlf := hG.lf
        by_cases hl : s.1.length < nn
        · rw [if_pos hl] at he
          have hone := grow_one (b := a - 3) hG hl
          refine Round.yes (show (bif true then decide ((s.1.length : Int) < (nn : Int)) else false) = true from decide_eq_true (by omega)) ?_
          simp only [wrap_id (x := s.2 + (a - 3)) (by omega) (by omega)]
          refine Round.bind (e153 60 _) (Round.bind (e117 0 _) (Round.chk (decide_eq_true (by simp only [List.length_cons, List.length_nil]; omega)) (Round.inr _ ⟨(s.1 ++ [max 0 (min 60 (s.2 + (a - 3)))], max 0 (min 60 (s.2 + (a - 3)))), ?_, hone, he⟩)))
          rw [wrap16 (x := max 0 (min 60 (s.2 + (a - 3)))) (by omega) (by omega), wrap_id (x := (m : Int) - i - 1) (by omega) (by omega), show (m : Int) - (i + 1) = (m : Int) - i - 1 by omega]
        · rw [if_neg hl] at he
          refine Round.no (show ¬ (bif true then decide ((s.1.length : Int) < (nn : Int)) else false) = true from fun h => by have := of_decide_eq_true (p := (s.1.length : Int) < (nn : Int)) h; omega) (Round.inl _ ?_)
          rw [← he]
      · intro s ⟨hG, he⟩
        rw [Int.sub_self] at he
        have he : s = R := he
        rw [he]
        exact Round.no (by simp) (Round.inl _ rfl)
    · left
      have hlen : out.length = nn := by omega
      obtain ⟨bo, s3, hO, hs3⟩ := e142 hsrc (by omega) (m := 8) (by omega) (by omega)
      have S0 : SmD out := ⟨by omega, G.el⟩
      have hs5 : SrcAt (k + 200) s3 := hs3.mono (by omega)
      cases bo with
      | false => exact ⟨((out, ()), (s3, ())), ⟨S0, hs5⟩, Round.no (by simp; omega) (Round.bind hO (Round.no (by simp) (Round.done (Evt.some _))))⟩
      | true =>
        have ht : wr .i64 (Int.tdiv (nn : Int) 2) = ((nn / 2 : Nat) : Int) := by
          rw [Int.tdiv_eq_ediv_of_nonneg (by omega), wrap_id (by omega) (by omega)]; omega
        by_cases he : nn % 2 = 0
        · obtain ⟨p, hp⟩ : ∃ p, p = (out.take (nn / 2)).drop 0 := ⟨_, rfl⟩
          have lp : p.length = nn / 2 := by rw [hp, List.drop_zero, List.length_take]; omega
          refine ⟨(((([] : List Int) ++ p) ++ p, ()), (s3, ())), ⟨⟨by show 8 ≤ (((([] : List Int) ++ p) ++ p).length : Int) ∧ (((([] : List Int) ++ p) ++ p).length : Int) ≤ 36; simp only [List.length_append, List.length_nil, lp]; omega, fun v hv => ?_⟩, hs5⟩, ?_⟩
          · have hv : v ∈ p := by simpa using hv
            rw [hp, List.drop_zero] at hv
            exact G.el v (List.mem_of_mem_take hv)
          · refine Round.no (by simp; omega) (Round.bind hO (Round.yes rfl (Round.chk rfl ?_)))
            simp only [ht, Int.toNat_natCast, show Int.toNat 0 = 0 from rfl, ← hp]
            refine Round.chk (decide_eq_true (by omega)) (Round.chk rfl (Round.yes (by rw [beq_iff_eq, Int.tmod_eq_emod_of_nonneg (by omega)]; omega) (Round.chk (decide_eq_true (by simp only [List.length_append, List.length_nil, lp]; omega)) (Round.chk (decide_eq_true (by simp only [List.length_append, List.length_nil, lp]; omega)) (Round.done (Evt.some _))))))
        · refine ⟨((out, ()), (s3, ())), ⟨S0, hs5⟩, Round.no (by simp; omega) (Round.bind hO (Round.yes rfl (Round.chk rfl ?_)))⟩
          simp only [ht]
          exact Round.chk (decide_eq_true (by omega)) (Round.chk rfl (Round.no (by rw [beq_iff_eq, Int.tmod_eq_emod_of_nonneg (by omega)]; omega) (Round.done (Evt.some _))))
  obtain ⟨⟨⟨c, _⟩, ⟨s', _⟩⟩, ⟨h1, h2⟩, hE⟩ := key
  exact ⟨c, s', hE, h1, h2⟩
/- spec.P6Cam -/
theorem e41 {b : List Int} (hb : ∀ v ∈ b, 0 ≤ v ∧ v ≤ 255) (hl : (b.length : Int) ≤ 4096) : ∃ c : List Int, Evt (fun n => call T C n 41 (b, ())) ((c, ()), ()) ∧ SmD c := by
  have h0 : SrcAt 0 ((b, 0, 0, ()) : Src) := ⟨hb, by show (b.length : Int) ≤ 1000000; omega, Int.le_refl _, Int.le_refl _⟩
  obtain ⟨c, s1, hE, S, _⟩ := e100 h0 (by omega)
  refine ⟨c, Evt.next ?_ (fun n => r41 n b), S⟩
  exact Evt.bind (e81 b) (Evt.bind hE (Evt.some _))
/- spec.P6Follower -/
theorem e42 {b : List Int} (hb : ∀ v ∈ b, 0 ≤ v ∧ v ≤ 255) (hl : (b.length : Int) ≤ 4096) : ∃ B s : Int, Evt (fun n => call T C n 42 (b, ())) (((B, s, ()), ()), ()) ∧ (1 ≤ B ∧ B ≤ 100) ∧ 1 ≤ s ∧ s ≤ 6 := by
  have h0 : SrcAt 0 ((b, 0, 0, ()) : Src) := ⟨hb, by show (b.length : Int) ≤ 1000000; omega, Int.le_refl _, Int.le_refl _⟩
  obtain ⟨a, s1, hE1, a0, a1, hs1⟩ := e101 h0 (by omega) (m := 100) (by omega) (by omega)
  obtain ⟨d, s2, hE2, d0, d1, hs2⟩ := e101 hs1 (by omega) (m := 6) (by omega) (by omega)
  refine ⟨1 + a, 1 + d, Evt.next (Evt.bind (e81 b) (Evt.bind hE1 (Evt.bind hE2 ((Evt.some _).of_eq fun n => ?_)))) (fun n => r42 n b), by omega, by omega⟩
  rw [wrap_id (x := 1 + a) (by omega) (by omega), wrap_id (x := 1 + d) (by omega) (by omega)]
  rfl
/- (impl.Cam).steps -/
theorem e77 (a : List Int) : Evt (fun n => call T C n 77 (a, ())) (((a.length : Int), ()), ()) := Evt.next (Evt.some _) (fun n => r77 n a)
/- impl.inRange -/
theorem e133 (a b c : Int) : Evt (fun n => call T C n 133 (a, b, c, ())) ((inR a b c, ()), ()) := by
  refine Evt.next ?_ (fun n => r133 n a b c)
  refine Evt.ite (fun h => ?_) (fun h => ?_)
  · refine (Evt.some _).of_eq fun n => ?_
    have h : b ≤ a := of_decide_eq_true h
    simp [inR, h]
    rfl
  · refine (Evt.some _).of_eq fun n => ?_
    have h : ¬ b ≤ a := by simpa using h
    simp [inR, h]
    rfl
/- impl.isSteps -/
theorem e91 (a : Int) : Evt (fun n => call T C n 91 (a, ())) ((inR a 8 360, ()), ()) := Evt.next (Evt.bind (e133 a 8 360) (Evt.some _)) (fun n => r91 n a)
/- impl.isLift -/
theorem e73 (a : Int) : Evt (fun n => call T C n 73 (a, ())) ((inR a 0 10000, ()), ()) := Evt.next (Evt.bind (e133 a 0 10000) (Evt.some _)) (fun n => r73 n a)
/- impl.ValidCam$1 -/
theorem e93 (v : Int) : Evt (fun n => call T C n 93 (v, ())) ((!okV v, ()), ()) := Evt.next (Evt.bind (e73 _) (Evt.some _)) (fun n => r93 n v)
/- slices.IndexFunc[impl.Cam,int16]{impl.ValidCam$1} -/
theorem e148 (l : List Int) (hl : (l.length : Int) ≤ 140737488351232) : Evt (fun n => call T C n 148 (l, ((), ()), ())) ((fi (fun v => !okV v) l 0, ()), ()) := by
  refine Evt.next ?_ (fun n => r148 n l ((), ()))
  refine loop_evt (fun (x : List Int × (Unit × Unit) × Int × Int × Unit) => x.1 = l ∧ x.2.2.1 = (l.length : Int) ∧ 0 ≤ x.2.2.2.1 ∧ x.2.2.2.1 ≤ (l.length : Int) ∧ fi (fun v => !okV v) l 0 = fi (fun v => !okV v) (l.drop x.2.2.2.1.toNat) x.2.2.2.1) (fun (x : List Int × (Unit × Unit) × Int × Int × Unit) => ((l.length : Int) - x.2.2.2.1).toNat) (x := (l, ((), ()), (l.length : Int), 0, ())) ⟨rfl, rfl, Int.le_refl _, by simp, by simp⟩ ?_
  rintro ⟨x1, u, m, i, _⟩ ⟨h', hm, h0, h1, h2⟩
  simp only at h' hm h0 h1 h2
  subst h'; subst hm
  refine Round.ite (fun hlt => ?_) (fun hge => ?_)
  · have hlt : i < (x1.length : Int) := of_decide_eq_true hlt
    obtain ⟨v, hv, hv'⟩ := idx_at h0 hlt
    have hd := drop_cons hv'
    refine Round.at hv (Round.bind (e93 _) (Round.ite (fun hb => ?_) (fun hb => ?_)))
    · have hb : okV v = false := by simpa using hb
      have h3 : fi (fun v => !okV v) x1 0 = i := by rw [h2, hd]; simp [fi, hb]
      rw [h3]
      exact Round.done (Evt.some _)
    · have hb : okV v = true := by simpa using hb
      have hw : wr .i64 (i + 1) = i + 1 := wrap_id (by omega) (by omega)
      refine Round.again _ ⟨⟨rfl, rfl, ?_, ?_, ?_⟩, ?_⟩ <;> simp only [hw]
      · omega
      · omega
      · rw [h2, hd, show (i + 1).toNat = i.toNat + 1 by omega]
        simp [fi, hb]
      · omega
  · have hge : ¬ i < (x1.length : Int) := by simpa using hge
    have : x1.drop i.toNat = [] := List.drop_of_length_le (by omega)
    rw [h2, this]
    exact Round.done (Evt.some _)
/- slices.ContainsFunc[impl.Cam,int16]{impl.ValidCam$1} -/
theorem e92 (l : List Int) (hl : (l.length : Int) ≤ 140737488351232) : Evt (fun n => call T C n 92 (l, ((), ()), ())) ((l.any (fun v => !okV v), ()), ()) := by
  refine Evt.next (Evt.bind (e148 l hl) ((Evt.some _).of_eq fun n => ?_)) (fun n => r92 n l ((), ()))
  simp only [fi_any _ l 0 (Int.le_refl _)]
  rfl
/- impl.ValidCam -/
theorem e35 (l : List Int) (hl : (l.length : Int) ≤ 140737488351232) : Evt (fun n => call T C n 35 (l, ())) ((okC l, ()), ()) := by
  refine Evt.next (Evt.bind (e77 l) (Evt.bind (e91 _) ?_)) (fun n => r35 n l)
  refine Evt.ite (fun h => ?_) (fun h => ?_)
  · refine Evt.bind (e92 l hl) ((Evt.some _).of_eq fun n => ?_)
    have h : inR (l.length : Int) 8 360 = true := h
    have : okC l = !l.any (fun v => !okV v) := by simp [okC, h, List.any_eq_not_all_not]
    rw [this]
    rfl
  · refine (Evt.some _).of_eq fun n => ?_
    have h : inR (l.length : Int) 8 360 = false := by simpa using h
    simp [okC, h]
    rfl
/- impl.isSpring -/
theorem e177 (a : Int) : Evt (fun n => call T C n 177 (a, ())) ((inR a 1 10000, ()), ()) := Evt.next (Evt.bind (e133 a 1 10000) (Evt.some _)) (fun n => r177 n a)
/- impl.ValidFollower -/
theorem e155 (b s : Int) : Evt (fun n => call T C n 155 ((b, s, ()), ())) ((inR b 1 20000 && inR s 1 10000, ()), ()) := by
  refine Evt.next (Evt.bind (e133 b 1 20000) ?_) (fun n => r155 n (b, s, ()))
  cases h : inR b 1 20000 with
  | true => exact Evt.yes rfl (Evt.bind (e177 s) (Evt.some _))
  | false => exact Evt.no (by simp) (Evt.some _)
/- impl.camCode -/
theorem e102 {c : List Int} (hl : (c.length : Int) ≤ 140737488351232) (b s : Int) : Evt (fun n => call T C n 102 (c, (b, s, ()), ())) (((if okC c = true ∧ (inR b 1 20000 && inR s 1 10000) = true then 0 else 1), ()), ()) := by
  refine Evt.next (Evt.bind (e35 c hl) ?_) (fun n => r102 n c (b, s, ()))
  cases h : okC c with
  | false => exact Evt.yes rfl (Evt.some _)
  | true =>
    refine Evt.no (by simp) (Evt.bind (e155 b s) ?_)
    cases h2 : (inR b 1 20000 && inR s 1 10000) with
    | false => exact Evt.yes rfl (Evt.some _)
    | true => exact Evt.no (by simp) (Evt.some _)
/- impl.floorDiv -/
theorem e109 {a b : Int} (hb : 0 < b) (h1 : -4500000000000000000 ≤ a) (h2 : a ≤ 4500000000000000000) : Evt (fun n => call T C n 109 (a, b, ())) ((a / b, ()), ()) := by
  have hbd := ediv_bd hb h1 h2 (by omega)
  have he := floorDiv_eq (a := a) hb
  refine Evt.next (Evt.chk (bne_pos hb) (Evt.chk (bne_pos hb) (Evt.ite (fun h => ?_) (fun h => ?_)))) (fun n => r109 n a b)
  · have h : Int.tmod a b < 0 := of_decide_eq_true h
    rw [if_pos h] at he
    refine (Evt.some _).of_eq fun n => ?_
    rw [wrap_id (x := Int.tdiv a b) (by omega) (by omega), wrap_id (by omega) (by omega), he]
    rfl
  · have h : ¬ Int.tmod a b < 0 := by simpa using h
    rw [if_neg h] at he
    refine (Evt.some _).of_eq fun n => ?_
    rw [wrap_id (x := Int.tdiv a b) (by omega) (by omega), he]
    rfl
/- impl.mod -/
theorem e141 {a b : Int} (hb : 0 < b) (hb' : b ≤ 1000000000000) (h1 : -1000000000000 ≤ a) (h2 : a ≤ 1000000000000) : Evt (fun n => call T C n 141 (a, b, ())) ((a % b, ()), ()) := by
  have hd := Int.emod_def a b
  have h3 := Int.emod_nonneg a (show b ≠ 0 by omega)
  have h4 := Int.emod_lt_of_pos a hb
  refine Evt.next (Evt.bind (e109 hb (by omega) (by omega)) ((Evt.some _).of_eq fun n => ?_)) (fun n => r141 n a b)
  simp only
  rw [wrap_id (x := b * (a / b)) (by omega) (by omega), ← hd, wrap_id (by omega) (by omega)]
  rfl
/- (impl.Cam).at -/
theorem e112 {l : List Int} (hr : Rng l) (h0 : 0 < (l.length : Int)) (h1 : (l.length : Int) ≤ 1000000) {x : Int} (hx : -4000000 ≤ x) (hx' : x ≤ 4000000) : Evt (fun n => call T C n 112 (l, x, ())) ((cAt l x, ()), ()) := by
  have hp := Int.emod_nonneg x (show (l.length : Int) ≠ 0 by omega)
  have hq := Int.emod_lt_of_pos x h0
  have hv := g_idx (l := l) hp hq
  refine Evt.next (Evt.bind (e77 l) (Evt.bind (e141 (a := x) h0 (by omega) (by omega) (by omega)) (Evt.at hv.idx ((Evt.some _).of_eq fun n => ?_)))) (fun n => r112 n l x)
  rw [hr.id hv.mem]
  rfl
/- (impl.Cam).change -/
theorem e111 {c : List Int} (hr : Rng c) (h0 : 0 < c.length) (h1 : c.length ≤ 1000) {x : Int} (x0 : -1000000 ≤ x) (x1 : x ≤ 1000000) : Evt (fun n => call T C n 111 (c, x, ())) ((cAt c (x + 1) - cAt c x, ()), ()) := by
  have b1 := hr.el _ (cAt_mem h0 (x + 1))
  have b2 := hr.el _ (cAt_mem h0 x)
  refine Evt.next ?_ (fun n => r111 n c x)
  rw [wrap_id (x := x + 1) (by omega) (by omega)]
  refine Evt.bind (e112 hr (by omega) (by omega) (by omega) (by omega)) (Evt.bind (e112 hr (by omega) (by omega) (by omega) (by omega)) ((Evt.some _).of_eq fun n => ?_))
  show some ((wr .i64 (cAt c (x + 1) - cAt c x), ()), ()) = _
  rw [wrap_id (x := cAt c (x + 1) - cAt c x) (by omega) (by omega)]
  rfl
/- impl.abs -/
theorem e110 {a : Int} (h1 : -1000000000000 ≤ a) (h2 : a ≤ 1000000000000) : Evt (fun n => call T C n 110 (a, ())) ((siz a, ()), ()) := by
  refine Evt.next ((Evt.some _).of_eq fun n => ?_) (fun n => r110 n a)
  rw [wrap_id (x := 0 - a) (by omega) (by omega)]
  unfold siz
  have : (if 0 - a > a then 0 - a else a) = if a < 0 then -a else a := by split <;> split <;> omega
  rw [this]
  rfl
/- impl.common -/
theorem e156 (a b : Nat) : Evt (fun n => call T C n 156 ((a : Int), (b : Int), ())) ((((Nat.gcd a b : Nat) : Int), ()), ()) := by
  refine Evt.next ?_ (fun n => r156 n a b)
  refine loop_evt (fun (x : Int × Int × Unit) => ∃ p q : Nat, x = ((p : Int), (q : Int), ()) ∧ Nat.gcd p q = Nat.gcd a b) (fun (x : Int × Int × Unit) => x.2.1.toNat) (x := ((a : Int), (b : Int), ())) ⟨a, b, rfl, rfl⟩ ?_
  rintro x ⟨p, q, rfl, hg⟩
  refine Round.ite (fun h => ?_) (fun h => ?_)
  · have h : q ≠ 0 := by simpa using h
    refine Round.chk (by simpa using h) ?_
    refine Round.again _ ⟨⟨q, p % q, ?_, ?_⟩, ?_⟩
    · simp only [Int.ofNat_tmod]
    · rw [← hg, Nat.gcd_comm p q, Nat.gcd_rec q p, Nat.gcd_comm]
    · show (Int.tmod (p : Int) (q : Int)).toNat < ((q : Int)).toNat
      rw [← Int.ofNat_tmod]
      have := Nat.mod_lt p (show q > 0 by omega)
      omega
  · have h : q = 0 := by simpa using h
    subst h
    rw [← hg, Nat.gcd_zero_right]
    exact Round.done (Evt.some _)
theorem e156' {a b : Int} (ha : 0 ≤ a) (hb : 0 ≤ b) : Evt (fun n => call T C n 156 (a, b, ())) ((gg a b, ()), ()) := by
  have := e156 a.toNat b.toNat
  rw [show ((a.toNat : Nat) : Int) = a by omega, show ((b.toNat : Nat) : Int) = b by omega] at this
  exact this
/- (impl.Cam).slope -/
theorem e103 {c : List Int} (S : SmD c) {b : Int} (b1 : 1 ≤ b) (b2 : b ≤ 20000) (s : Int) {i : Int} (i0 : 0 ≤ i) (i1 : i ≤ 1000) : Evt (fun n => call T C n 103 (c, (b, s, ()), i, ())) ((slS c b i, ()), ()) := by
  have hl := S.len
  have hr := S.rng
  have p1 := S.cAt_bd (i + 1)
  have p2 := S.cAt_bd i
  have hN := S.slN_bd i
  have hD := S.slD_bd b1 b2 i
  have hs := S.slS_bd b1 b2 i
  have hO := slO (c := c) (b := b) (i := i) (by omega)
  have h1 : (cAt c (i + 1) - cAt c i) * (c.length : Int) ≤ 60 * (c.length : Int) := Int.mul_le_mul_of_nonneg_right (by omega) (by omega)
  have h2 : -60 * (c.length : Int) ≤ (cAt c (i + 1) - cAt c i) * (c.length : Int) := Int.mul_le_mul_of_nonneg_right (by omega) (by omega)
  have e1 : wr .i64 (wr .i64 ((cAt c (i + 1) - cAt c i) * (c.length : Int)) * 7) = slN c i := by
    rw [wrap_id (x := (cAt c (i + 1) - cAt c i) * (c.length : Int)) (by omega) (by omega)]
    exact wrap_id (x := slN c i) (by omega) (by omega)
  have e2 : wr .i64 (44 * wr .i64 (b + cAt c i)) = slD c b i := by
    rw [wrap_id (x := b + cAt c i) (by omega) (by omega)]
    exact wrap_id (x := slD c b i) (by omega) (by omega)
  have hsz := siz_nn (slN c i)
  have hG := hO.g
  refine Evt.next (Evt.bind (e111 hr (by omega) (by omega) (x := i) (by omega) (by omega)) (Evt.bind (e77 c) (Evt.bind (e112 hr (by omega) (by omega) (x := i) (by omega) (by omega)) ?_))) (fun n => r103 n c (b, s, ()) i)
  simp only [e1, e2]
  refine Evt.bind (e110 (a := slN c i) (by omega) (by omega)) (Evt.bind (e156' (a := siz (slN c i)) (b := slD c b i) hsz (by omega)) (Evt.chk (bne_pos (show 0 < slG c b i by omega)) (Evt.chk (bne_pos (show 0 < slG c b i by omega)) ((Evt.some _).of_eq fun n => ?_))))
  have f1 : wr .i64 (Int.tdiv (slN c i) (gg (siz (slN c i)) (slD c b i))) = (slS c b i).1 := wrap_id (x := (slS c b i).1) (by omega) (by omega)
  have f2 : wr .i64 (Int.tdiv (slD c b i) (gg (siz (slN c i)) (slD c b i))) = (slS c b i).2.1 := wrap_id (x := (slS c b i).2.1) (by omega) (by omega)
  rw [f1, f2]
  rfl
/- impl.compareSlopes -/
theorem e104 {s t : Slp} (hs : SlB s) (ht : SlB t) : Evt (fun n => call T C n 104 (s, t, ())) ((cmS s t, ()), ()) := by
  have a := hs.mul ht
  have b := ht.mul hs
  have hp := hs.p
  have tp := ht.p
  refine Evt.next (Evt.bind (e110 (a := s.1) (by omega) (by omega)) (Evt.bind (e110 (a := t.1) (by omega) (by omega)) ?_)) (fun n => r104 n s t)
  simp only [wrap_id (x := siz s.1 * t.2.1) (by omega) (by omega), wrap_id (x := siz t.1 * s.2.1) (by omega) (by omega)]
  unfold cmS
  by_cases h1 : siz s.1 * t.2.1 < siz t.1 * s.2.1
  · rw [if_pos h1]; exact Evt.yes (decide_eq_true h1) (Evt.some _)
  · rw [if_neg h1]
    refine Evt.no (by simpa using h1) ?_
    by_cases h2 : siz s.1 * t.2.1 > siz t.1 * s.2.1
    · rw [if_pos h2]; exact Evt.yes (decide_eq_true h2) (Evt.some _)
    · rw [if_neg h2]; exact Evt.no (by simpa using h2) (Evt.some _)
/- impl.SteepestSlope -/
theorem e43 {c : List Int} (S : SmD c) {b s : Int} (b1 : 1 ≤ b) (b2 : b ≤ 20000) (s1 : 1 ≤ s) (s2 : s ≤ 10000) : Evt (fun n => call T C n 43 (c, (b, s, ()), ())) (((stB c b c.length).1, (stB c b c.length).2, 0, ()), ()) := by
  have hl := S.len
  have hc := e102 (c := c) (by omega) b s
  rw [if_pos ⟨S.ok, by rw [Bool.and_eq_true, inR_iff, inR_iff]; exact ⟨⟨b1, b2⟩, s1, s2⟩⟩] at hc
  refine Evt.next (Evt.bind hc (Evt.no (by simp) (Evt.bind (e103 S b1 b2 s (i := 0) (by omega) (by omega)) (Evt.bind (e77 c) ?_)))) (fun n => r43 n c (b, s, ()))
  refine for_evt' 0 (c.length : Int) (fun i (_ : Unit) => (c, (b, s, ()), (0, 0, ()), (stB c b i.toNat).1, (stB c b i.toNat).2, (c.length : Int), i, ())) (fun _ _ => True) (b0 := ()) rfl (by omega) trivial ?_ ?_
  · intro i _ h2 h3 _
    obtain ⟨k, rfl⟩ : ∃ k : Nat, i = k := ⟨i.toNat, by omega⟩
    have hst : stB c b ((k : Int) + 1).toNat = if cmS (slS c b (k : Nat)) (stB c b k).2 > 0 then ((k : Int), slS c b (k : Nat)) else stB c b k := by
      rw [show ((k : Int) + 1).toNat = k + 1 by omega, stB_succ]
    refine Round.yes (decide_eq_true h3) (Round.bind (e103 S b1 b2 s (i := (k : Int)) (by omega) (by omega)) (Round.bind (e104 (S.slB b1 b2 k) (S.stB_b b1 b2 k)) (Round.ite (fun hc => ?_) (fun hc => ?_))))
    · refine Round.again _ ⟨(), ?_, trivial⟩
      have hc2 : cmS (slS c b (k : Nat)) (stB c b k).2 > 0 := of_decide_eq_true hc
      rw [hst, if_pos hc2, wr_succ h2 h3 (by omega)]
    · refine Round.again _ ⟨(), ?_, trivial⟩
      have hc2 : ¬ cmS (slS c b (k : Nat)) (stB c b k).2 > 0 := fun h => hc (decide_eq_true h)
      rw [hst, if_neg hc2, wr_succ h2 h3 (by omega)]
      rfl
  · intro _ _
    rw [Int.toNat_natCast]
    exact Round.no (by simp) (Round.done (Evt.some _))
/- spec.l00In -/
theorem e129 (a b c : Int) : Evt (fun n => call T C n 129 (a, b, c, ())) ((inR a b c, ()), ()) := by
  refine Evt.next ?_ (fun n => r129 n a b c)
  refine Evt.ite (fun h => ?_) (fun h => ?_)
  · refine (Evt.some _).of_eq fun n => ?_
    have h : b ≤ a := of_decide_eq_true h
    simp [inR, h]
    rfl
  · refine (Evt.some _).of_eq fun n => ?_
    have h : ¬ b ≤ a := by simpa using h
    simp [inR, h]
    rfl
/- spec.l01Steps -/
theorem e159 (a : Int) : Evt (fun n => call T C n 159 (a, ())) ((inR a 8 360, ()), ()) := Evt.next (Evt.bind (e129 a 8 360) (Evt.some _)) (fun n => r159 n a)
/- spec.l01Lift -/
theorem e65 (a : Int) : Evt (fun n => call T C n 65 (a, ())) ((inR a 0 10000, ()), ()) := Evt.next (Evt.bind (e129 a 0 10000) (Evt.some _)) (fun n => r65 n a)
/- spec.l01Ok -/
theorem e113 (l : List Int) (hl : (l.length : Int) ≤ 140737488351232) : Evt (fun n => call T C n 113 (l, ())) ((okC l, ()), ()) := by
  refine Evt.next ?_ (fun n => r113 n l)
  refine Evt.bind (e159 _) ?_
  refine Evt.ite (fun h => ?_) (fun h => ?_)
  · refine (Evt.some _).of_eq fun n => ?_
    have h : inR (l.length : Int) 8 360 = false := by simpa using h
    simp [okC, h]
    rfl
  · have h : inR (l.length : Int) 8 360 = true := by simpa using h
    have he : okC l = l.all okV := by simp [okC, h]
    rw [he]
    refine loop_evt (fun (x : List Int × Int × Unit) => x.1 = l ∧ 0 ≤ x.2.1 ∧ x.2.1 ≤ (l.length : Int) ∧ l.all okV = (l.drop x.2.1.toNat).all okV) (fun (x : List Int × Int × Unit) => ((l.length : Int) - x.2.1).toNat) (x := (l, 0, ())) ⟨rfl, Int.le_refl _, by simp, by simp⟩ ?_
    rintro ⟨x1, i, _⟩ ⟨h', h0, h1, h2⟩
    simp only at h' h0 h1 h2
    subst h'
    refine Round.ite (fun hlt => ?_) (fun hge => ?_)
    · have hlt : i < (x1.length : Int) := of_decide_eq_true hlt
      obtain ⟨v, hv, hv'⟩ := idx_at h0 hlt
      have hd := drop_cons hv'
      refine Round.at hv (Round.bind (e65 _) (Round.ite (fun hb => ?_) (fun hb => ?_)))
      · have hb : okV v = false := by simpa [okV] using hb
        have h3 : x1.all okV = false := by rw [h2, hd]; simp [hb]
        rw [h3]
        exact Round.done (Evt.some _)
      · have hb : okV v = true := by simpa [okV] using hb
        have hw : wr .i64 (i + 1) = i + 1 := wrap_id (by omega) (by omega)
        refine Round.again _ ⟨⟨rfl, ?_, ?_, ?_⟩, ?_⟩ <;> simp only [hw]
        · omega
        · omega
        · rw [h2, hd, show (i + 1).toNat = i.toNat + 1 by omega]
          simp [hb]
        · omega
    · have hge : ¬ i < (x1.length : Int) := by simpa using hge
      have : x1.drop i.toNat = [] := List.drop_of_length_le (by omega)
      rw [h2, this]
      exact Round.done (Evt.some _)
/- spec.l03Ok -/
theorem e157 (b s : Int) : Evt (fun n => call T C n 157 ((b, s, ()), ())) ((inR b 1 20000 && inR s 1 10000, ()), ()) := by
  refine Evt.next (Evt.bind (e129 b 1 20000) ?_) (fun n => r157 n (b, s, ()))
  cases h : inR b 1 20000 with
  | true => exact Evt.yes rfl (Evt.bind (e129 s 1 10000) (Evt.some _))
  | false => exact Evt.no (by simp) (Evt.some _)
/- spec.l03Asked -/
theorem e105 {c : List Int} (hl : (c.length : Int) ≤ 140737488351232) (b s : Int) : Evt (fun n => call T C n 105 (c, (b, s, ()), ())) (((if okC c = true ∧ (inR b 1 20000 && inR s 1 10000) = true then 0 else 1), ()), ()) := by
  refine Evt.next (Evt.bind (e113 c hl) ?_) (fun n => r105 n c (b, s, ()))
  cases h : okC c with
  | false => exact Evt.yes rfl (Evt.some _)
  | true =>
    refine Evt.no (by simp) (Evt.bind (e157 b s) ?_)
    cases h2 : (inR b 1 20000 && inR s 1 10000) with
    | false => exact Evt.yes rfl (Evt.some _)
    | true => exact Evt.no (by simp) (Evt.some _)
/- spec.l01At -/
theorem e161 {l : List Int} (hr : Rng l) (h0 : 0 < (l.length : Int)) (h1 : (l.length : Int) ≤ 1000000) {x : Int} (hx : -4000000 ≤ x) (hx' : x ≤ 4000000) : ∃ v, l[(x % l.length).toNat]? = some v ∧ v ∈ l ∧ Evt (fun n => call T C n 161 (l, x, ())) ((v, ()), ()) := by
  have hp := Int.emod_nonneg x (show (l.length : Int) ≠ 0 by omega)
  obtain ⟨v, hv⟩ := at_of (l := l) hp (Int.emod_lt_of_pos x h0)
  refine ⟨v, hv.get, hv.mem, ?_⟩
  refine Evt.next (Evt.chk (bne_pos h0) (Evt.chk (bne_pos h0) ?_)) (fun n => r161 n l x)
  rw [turn_at h0 h1 hx hx']
  refine Evt.at hv.idx ((Evt.some _).of_eq fun n => ?_)
  rw [hr.id hv.mem]
  rfl
theorem e161' {l : List Int} (hr : Rng l) (h0 : 0 < (l.length : Int)) (h1 : (l.length : Int) ≤ 1000000) {x : Int} (hx : -4000000 ≤ x) (hx' : x ≤ 4000000) : Evt (fun n => call T C n 161 (l, x, ())) ((cAt l x, ()), ()) := by
  obtain ⟨v, hv, hm, he⟩ := e161 hr h0 h1 hx hx'
  have : cAt l x = v := by unfold cAt g; rw [List.getD_eq_getElem?_getD, hv]; rfl
  rw [this]; exact he
/- spec.l01Size -/
theorem e160 {a : Int} (h1 : -1000000000000 ≤ a) (h2 : a ≤ 1000000000000) : Evt (fun n => call T C n 160 (a, ())) ((siz a, ()), ()) := by
  refine Evt.next ?_ (fun n => r160 n a)
  unfold siz
  rw [wrap_id (x := 0 - a) (by omega) (by omega)]
  refine Evt.ite (fun h => ?_) (fun h => ?_)
  · rw [if_pos (of_decide_eq_true h), Int.zero_sub]; exact Evt.some _
  · rw [if_neg (by simpa using h)]; exact Evt.some _
/- spec.l03Gcd -/
theorem e178 (a b : Nat) : Evt (fun n => call T C n 178 ((a : Int), (b : Int), ())) ((((Nat.gcd a b : Nat) : Int), ()), ()) := by
  refine Evt.next ?_ (fun n => r178 n a b)
  refine loop_evt (fun (x : Int × Int × Unit) => ∃ p q : Nat, x = ((p : Int), (q : Int), ()) ∧ Nat.gcd p q = Nat.gcd a b) (fun (x : Int × Int × Unit) => x.2.1.toNat) (x := ((a : Int), (b : Int), ())) ⟨a, b, rfl, rfl⟩ ?_
  rintro x ⟨p, q, rfl, hg⟩
  refine Round.ite (fun h => ?_) (fun h => ?_)
  · have h : q ≠ 0 := by simpa using h
    refine Round.chk (by simpa using h) ?_
    refine Round.again _ ⟨⟨q, p % q, ?_, ?_⟩, ?_⟩
    · simp only [Int.ofNat_tmod]
    · rw [← hg, Nat.gcd_comm p q, Nat.gcd_rec q p, Nat.gcd_comm]
    · show (Int.tmod (p : Int) (q : Int)).toNat < ((q : Int)).toNat
      rw [← Int.ofNat_tmod]
      have := Nat.mod_lt p (show q > 0 by omega)
      omega
  · have h : q = 0 := by simpa using h
    subst h
    rw [← hg, Nat.gcd_zero_right]
    exact Round.done (Evt.some _)
theorem e178' {a b : Int} (ha : 0 ≤ a) (hb : 0 ≤ b) : Evt (fun n => call T C n 178 (a, b, ())) ((gg a b, ()), ()) := by
  have := e178 a.toNat b.toNat
  rw [show ((a.toNat : Nat) : Int) = a by omega, show ((b.toNat : Nat) : Int) = b by omega] at this
  exact this
/- spec.l03Slope -/
theorem e158 {c : List Int} (S : SmD c) {b : Int} (b1 : 1 ≤ b) (b2 : b ≤ 20000) {i : Int} (i0 : 0 ≤ i) (i1 : i ≤ 1000) : Evt (fun n => call T C n 158 (c, b, i, ())) ((slS c b i, ()), ()) := by
  have hl := S.len
  have hr := S.rng
  have p1 := S.cAt_bd (i + 1)
  have p2 := S.cAt_bd i
  have hN := S.slN_bd i
  have hD := S.slD_bd b1 b2 i
  have hs := S.slS_bd b1 b2 i
  have hO := slO (c := c) (b := b) (i := i) (by omega)
  have h1 : (cAt c (i + 1) - cAt c i) * (c.length : Int) ≤ 60 * (c.length : Int) := Int.mul_le_mul_of_nonneg_right (by omega) (by omega)
  have h2 : -60 * (c.length : Int) ≤ (cAt c (i + 1) - cAt c i) * (c.length : Int) := Int.mul_le_mul_of_nonneg_right (by omega) (by omega)
  have e1 : wr .i64 (wr .i64 (wr .i64 (cAt c (i + 1) - cAt c i) * (c.length : Int)) * 7) = slN c i := by
    rw [wrap_id (x := cAt c (i + 1) - cAt c i) (by omega) (by omega), wrap_id (x := (cAt c (i + 1) - cAt c i) * (c.length : Int)) (by omega) (by omega)]
    exact wrap_id (x := slN c i) (by omega) (by omega)
  have e2 : wr .i64 (44 * wr .i64 (b + cAt c i)) = slD c b i := by
    rw [wrap_id (x := b + cAt c i) (by omega) (by omega)]
    exact wrap_id (x := slD c b i) (by omega) (by omega)
  have hsz := siz_nn (slN c i)
  have hG := hO.g
  refine Evt.next ?_ (fun n => r158 n c b i)
  rw [wrap_id (x := i + 1) (by omega) (by omega)]
  refine Evt.bind (e161' hr (by omega) (by omega) (x := i + 1) (by omega) (by omega)) (Evt.bind (e161' hr (by omega) (by omega) (x := i) (by omega) (by omega)) (Evt.bind (e161' hr (by omega) (by omega) (x := i) (by omega) (by omega)) ?_))
  simp only [e1, e2]
  refine Evt.bind (e160 (a := slN c i) (by omega) (by omega)) (Evt.bind (e178' (a := siz (slN c i)) (b := slD c b i) hsz (by omega)) (Evt.chk (bne_pos (show 0 < slG c b i by omega)) (Evt.chk (bne_pos (show 0 < slG c b i by omega)) ((Evt.some _).of_eq fun n => ?_))))
  have f1 : wr .i64 (Int.tdiv (slN c i) (gg (siz (slN c i)) (slD c b i))) = (slS c b i).1 := wrap_id (x := (slS c b i).1) (by omega) (by omega)
  have f2 : wr .i64 (Int.tdiv (slD c b i) (gg (siz (slN c i)) (slD c b i))) = (slS c b i).2.1 := wrap_id (x := (slS c b i).2.1) (by omega) (by omega)
  rw [f1, f2]
  rfl
/- spec.l03Cmp -/
theorem e115 {s t : Slp} (hs : SlB s) (ht : SlB t) : Evt (fun n => call T C n 115 (s, t, ())) ((cmS s t, ()), ()) := by
  have a := hs.mul ht
  have b := ht.mul hs
  have hp := hs.p
  have tp := ht.p
  refine Evt.next (Evt.bind (e160 (a := s.1) (by omega) (by omega)) (Evt.bind (e160 (a := t.1) (by omega) (by omega)) ?_)) (fun n => r115 n s t)
  simp only [wrap_id (x := siz s.1 * t.2.1) (by omega) (by omega), wrap_id (x := siz t.1 * s.2.1) (by omega) (by omega)]
  unfold cmS
  by_cases h1 : siz s.1 * t.2.1 < siz t.1 * s.2.1
  · rw [if_pos h1]; exact Evt.yes (decide_eq_true h1) (Evt.some _)
  · rw [if_neg h1]
    refine Evt.no (by simpa using h1) ?_
    by_cases h2 : siz s.1 * t.2.1 > siz t.1 * s.2.1
    · rw [if_pos h2]; exact Evt.yes (decide_eq_true h2) (Evt.some _)
    · rw [if_neg h2]; exact Evt.no (by simpa using h2) (Evt.some _)
/- spec.l03Steepest -/
theorem e106 {c : List Int} (S : SmD c) {b : Int} (b1 : 1 ≤ b) (b2 : b ≤ 20000) : Evt (fun n => call T C n 106 (c, b, ())) (((stB c b c.length).1, (stB c b c.length).2, ()), ()) := by
  have hl := S.len
  refine Evt.next (Evt.bind (e158 S b1 b2 (i := 0) (by omega) (by omega)) ?_) (fun n => r106 n c b)
  refine for_evt' 1 (c.length : Int) (fun i (_ : Unit) => (c, b, (0, 0, ()), (stB c b i.toNat).1, (stB c b i.toNat).2, i, ())) (fun _ _ => True) (b0 := ()) ?_ (by omega) trivial ?_ ?_
  · have e : stB c b (1 : Int).toNat = (0, slS c b 0) := stB_one c b
    rw [e]
  · intro i _ h2 h3 _
    obtain ⟨k, rfl⟩ : ∃ k : Nat, i = k := ⟨i.toNat, by omega⟩
    have hst : stB c b ((k : Int) + 1).toNat = if cmS (slS c b (k : Nat)) (stB c b k).2 > 0 then ((k : Int), slS c b (k : Nat)) else stB c b k := by
      rw [show ((k : Int) + 1).toNat = k + 1 by omega, stB_succ]
    refine Round.yes (decide_eq_true h3) (Round.bind (e158 S b1 b2 (i := (k : Int)) (by omega) (by omega)) (Round.bind (e115 (S.slB b1 b2 k) (S.stB_b b1 b2 k)) (Round.ite (fun hc => ?_) (fun hc => ?_))))
    · refine Round.again _ ⟨(), ?_, trivial⟩
      have hc2 : cmS (slS c b (k : Nat)) (stB c b k).2 > 0 := of_decide_eq_true hc
      rw [hst, if_pos hc2, wrap_id (x := (k : Int) + 1) (by omega) (by omega)]
    · refine Round.again _ ⟨(), ?_, trivial⟩
      have hc2 : ¬ cmS (slS c b (k : Nat)) (stB c b k).2 > 0 := fun h => hc (decide_eq_true h)
      rw [hst, if_neg hc2, wrap_id (x := (k : Int) + 1) (by omega) (by omega)]
      rfl
  · intro _ _
    rw [Int.toNat_natCast]
    exact Round.no (by simp) (Round.done (Evt.some _))
/- spec.SteepestSlope -/
theorem e44 {c : List Int} (S : SmD c) {b s : Int} (b1 : 1 ≤ b) (b2 : b ≤ 20000) (s1 : 1 ≤ s) (s2 : s ≤ 10000) : Evt (fun n => call T C n 44 (c, (b, s, ()), ())) (((stB c b c.length).1, (stB c b c.length).2, 0, ()), ()) := by
  have hl := S.len
  have hc := e105 (c := c) (by omega) b s
  rw [if_pos ⟨S.ok, by rw [Bool.and_eq_true, inR_iff, inR_iff]; exact ⟨⟨b1, b2⟩, s1, s2⟩⟩] at hc
  refine Evt.next (Evt.bind hc (Evt.no (by simp) ?_)) (fun n => r44 n c (b, s, ()))
  exact Evt.bind (e106 S b1 b2) (Evt.some _)
/- impl.isPlace -/
theorem e107 (a b : Int) : Evt (fun n => call T C n 107 (a, b, ())) ((inR a 0 (wr .i64 (b - 1)), ()), ()) := Evt.next (Evt.bind (e133 _ _ _) (Evt.some _)) (fun n => r107 n a b)
/- impl.SlopeAt -/
theorem e45 {c : List Int} (S : SmD c) {b s : Int} (b1 : 1 ≤ b) (b2 : b ≤ 20000) (s1 : 1 ≤ s) (s2 : s ≤ 10000) {i : Int} (i0 : 0 ≤ i) (i1 : i < (c.length : Int)) : Evt (fun n => call T C n 45 (c, (b, s, ()), i, ())) ((slS c b i, 0, ()), ()) := by
  have hl := S.len
  have hc := e102 (c := c) (by omega) b s
  rw [if_pos ⟨S.ok, by rw [Bool.and_eq_true, inR_iff, inR_iff]; exact ⟨⟨b1, b2⟩, s1, s2⟩⟩] at hc
  have hp := e107 i (c.length : Int)
  rw [show inR i 0 (wr .i64 ((c.length : Int) - 1)) = true by rw [inR_iff, wrap_id (by omega) (by omega)]; omega] at hp
  refine Evt.next (Evt.bind hc (Evt.no (by simp) (Evt.bind hp (Evt.no (by simp) ?_)))) (fun n => r45 n c (b, s, ()) i)
  exact Evt.bind (e103 S b1 b2 s i0 (by omega)) (Evt.some _)
/- impl.isSlope -/
theorem e108 {s : Slp} (h : SlB s) : Evt (fun n => call T C n 108 (s, ())) ((true, ()), ()) := by
  have a := e133 s.2.1 1 1000000000
  rw [show inR s.2.1 1 1000000000 = true from inR_iff.2 h.q] at a
  have b := e133 s.1 (-1000000000) 1000000000
  rw [show inR s.1 (-1000000000) 1000000000 = true from inR_iff.2 h.p] at b
  exact Evt.next (Evt.bind a (Evt.yes rfl (Evt.bind b (Evt.some _)))) (fun n => r108 n s)
/- impl.CompareSlopes -/
theorem e46 {s t : Slp} (hs : SlB s) (ht : SlB t) : Evt (fun n => call T C n 46 (s, t, ())) ((cmS s t, 0, ()), ()) := by
  refine Evt.next (Evt.bind (e108 hs) (Evt.no (by simp) (Evt.bind (e108 ht) (Evt.no (by simp) ?_)))) (fun n => r46 n s t)
  exact Evt.bind (e104 hs ht) (Evt.some _)
/- spec.P6Pick -/
theorem e47 {b : List Int} (hb : ∀ v ∈ b, 0 ≤ v ∧ v ≤ 255) (hl : (b.length : Int) ≤ 4096) {m : Int} (m1 : 1 ≤ m) (m2 : m ≤ 1000000) : ∃ v : Int, Evt (fun n => call T C n 47 (b, m, ())) ((v, ()), ()) ∧ 0 ≤ v ∧ v < m := by
  have h0 : SrcAt 0 ((b, 0, 0, ()) : Src) := ⟨hb, by show (b.length : Int) ≤ 1000000; omega, Int.le_refl _, Int.le_refl _⟩
  obtain ⟨v, s1, hE, v0, v1, _⟩ := e101 h0 (by omega) m1 m2
  refine ⟨v, Evt.next ?_ (fun n => r47 n b m), v0, v1⟩
  exact Evt.bind (e81 b) (Evt.bind hE (Evt.some _))
/- impl.LeastBase -/
theorem e48 {c : List Int} (S : SmD c) {P Q : Int} (p1 : 1 ≤ P) (p2 : P ≤ 100) (q1 : 1 ≤ Q) (q2 : Q ≤ 100) : Evt (fun n => call T C n 48 (c, (P, Q, ()), ())) (lsbR c P Q, ()) := by
  have hl := S.len
  have hr := S.rng
  have hv := e35 c (by omega)
  rw [S.ok] at hv
  refine Evt.next (Evt.bind hv (Evt.no (by simp) (Evt.bind (e108 (s := (P, Q, ())) ⟨by show -1000000000 ≤ P ∧ P ≤ 1000000000; omega, by show 1 ≤ Q ∧ Q ≤ 1000000000; omega⟩) (Evt.no (by simp) (Evt.no (by simp; omega) (Evt.bind (e77 c) ?_)))))) (fun n => r48 n c (P, Q, ()))
  have hbb : ∀ k : Nat, k ≤ c.length → baT c P Q k ≤ 2000000000 := by
    intro k hk
    refine (baT_le p1 k).2 ⟨by omega, fun i _ => ?_⟩
    have hN := S.slN_bd i
    have ha := S.cAt_bd i
    have h1 : siz (slN c i) ≤ 15120 := by unfold siz; split <;> omega
    have h2 : siz (slN c i) * Q ≤ 15120 * Q := Int.mul_le_mul_of_nonneg_right h1 (by omega)
    have h3 : 1 * slD c 2000000000 i ≤ P * slD c 2000000000 i := Int.mul_le_mul_of_nonneg_right p1 (by unfold slD; omega)
    unfold slD at h3 ⊢
    omega
  refine for_evt' 0 (c.length : Int) (fun i (_ : Unit) => (c, (P, Q, ()), baT c P Q i.toNat, (c.length : Int), i, ())) (fun _ _ => True) (b0 := ()) rfl (by omega) trivial ?_ ?_
  · intro i _ h2 h3 _
    obtain ⟨k, rfl⟩ : ∃ k : Nat, i = k := ⟨i.toNat, by omega⟩
    have a := S.cAt_bd ((k : Int) + 1)
    have b := S.cAt_bd (k : Int)
    have hN := S.slN_bd (k : Int)
    have hsz := siz_nn (slN c (k : Int))
    have hsz2 : siz (slN c (k : Int)) ≤ 15120 := by unfold siz; split <;> omega
    have hch : 0 ≤ siz (cAt c ((k : Int) + 1) - cAt c (k : Int)) ∧ siz (cAt c ((k : Int) + 1) - cAt c (k : Int)) ≤ 60 := ⟨siz_nn _, by unfold siz; split <;> omega⟩
    have m1 : 0 ≤ siz (cAt c ((k : Int) + 1) - cAt c (k : Int)) * (c.length : Int) := Int.mul_nonneg hch.1 (by omega)
    have m2 : siz (cAt c ((k : Int) + 1) - cAt c (k : Int)) * (c.length : Int) ≤ 60 * (c.length : Int) := Int.mul_le_mul_of_nonneg_right hch.2 (by omega)
    have es : siz (slN c (k : Int)) = siz (cAt c ((k : Int) + 1) - cAt c (k : Int)) * (c.length : Int) * 7 := by
      unfold slN
      rw [siz_abs, siz_abs, Int.natAbs_mul, Int.natAbs_mul, Int.natCast_mul, Int.natCast_mul]
      rfl
    have m3 : 0 ≤ siz (slN c (k : Int)) * Q := Int.mul_nonneg hsz (by omega)
    have m4 : siz (slN c (k : Int)) * Q ≤ 15120 * Q := Int.mul_le_mul_of_nonneg_right hsz2 (by omega)
    have ew : wr .i64 (wr .i64 (wr .i64 (wr .i64 (0 - siz (cAt c ((k : Int) + 1) - cAt c (k : Int))) * (c.length : Int)) * 7) * Q) = -(siz (slN c (k : Int))) * Q := by
      have i1 : -(siz (cAt c ((k : Int) + 1) - cAt c (k : Int))) * (c.length : Int) = -(siz (cAt c ((k : Int) + 1) - cAt c (k : Int)) * (c.length : Int)) := Int.neg_mul _ _
      have i2 : -(siz (slN c (k : Int))) * Q = -(siz (slN c (k : Int)) * Q) := Int.neg_mul _ _
      rw [wrap_id (x := 0 - siz (cAt c ((k : Int) + 1) - cAt c (k : Int))) (by omega) (by omega), Int.zero_sub, wrap_id (x := -(siz (cAt c ((k : Int) + 1) - cAt c (k : Int))) * (c.length : Int)) (by omega) (by omega), i1]
      rw [show -(siz (cAt c ((k : Int) + 1) - cAt c (k : Int)) * (c.length : Int)) * 7 = -(siz (slN c (k : Int))) by omega, wrap_id (x := -(siz (slN c (k : Int)))) (by omega) (by omega), wrap_id (by omega) (by omega)]
    have eP : wr .i64 (44 * P) = 44 * P := wrap_id (by omega) (by omega)
    have i2 : -(siz (slN c (k : Int))) * Q = -(siz (slN c (k : Int)) * Q) := Int.neg_mul _ _
    have hdv : -1512000 ≤ -(siz (slN c (k : Int))) * Q / (44 * P) ∧ -(siz (slN c (k : Int))) * Q / (44 * P) ≤ 0 := by
      constructor
      · rw [Int.le_ediv_iff_mul_le (by omega)]
        have : -1512000 * (44 * P) ≤ -1512000 := by omega
        omega
      · have := Int.ediv_le_ediv (c := 44 * P) (by omega) (show -(siz (slN c (k : Int))) * Q ≤ 0 by omega)
        rwa [Int.zero_ediv] at this
    refine Round.yes (decide_eq_true h3) (Round.bind (e111 hr (by omega) (by omega) (x := (k : Int)) (by omega) (by omega)) (Round.bind (e110 (a := cAt c ((k : Int) + 1) - cAt c (k : Int)) (by omega) (by omega)) (Round.bind (e77 c) ?_)))
    simp only [ew, eP]
    refine Round.bind (e109 (a := -(siz (slN c (k : Int))) * Q) (b := 44 * P) (by omega) (by omega) (by omega)) (Round.bind (e112 hr (by omega) (by omega) (x := (k : Int)) (by omega) (by omega)) (Round.again _ ⟨(), ?_, trivial⟩))
    have en : wr .i64 (wr .i64 (0 - -(siz (slN c (k : Int))) * Q / (44 * P)) - cAt c (k : Int)) = need c P Q (k : Nat) := by
      unfold need
      rw [wrap_id (x := 0 - -(siz (slN c (k : Int))) * Q / (44 * P)) (by omega) (by omega), wrap_id (by omega) (by omega)]
      omega
    have eb : (if need c P Q (k : Nat) > baT c P Q k then need c P Q (k : Nat) else baT c P Q k) = baT c P Q (k + 1) := by
      show _ = max (baT c P Q k) (need c P Q (k : Nat))
      split <;> omega
    rw [wr_succ h2 h3 (by omega), show ((k : Int) + 1).toNat = k + 1 by omega, ← eb, ← en]
    rfl
  · intro _ _
    rw [Int.toNat_natCast]
    refine Round.no (by simp) ?_
    by_cases h : baL c P Q > 20000
    · have e : lsbR c P Q = (0, 6, ()) := if_pos h
      rw [e]; exact Round.yes (decide_eq_true h) (Round.done (Evt.some _))
    · have e : lsbR c P Q = (baL c P Q, 0, ()) := if_neg h
      rw [e]; exact Round.no (fun h2 => h (of_decide_eq_true h2)) (Round.done (Evt.some _))
/- spec.l03Told -/
theorem e114 {s : Slp} (h : SlB s) : Evt (fun n => call T C n 114 (s, ())) ((true, ()), ()) := by
  have a := e129 s.2.1 1 1000000000
  rw [show inR s.2.1 1 1000000000 = true from inR_iff.2 h.q] at a
  have b := e129 s.1 (-1000000000) 1000000000
  rw [show inR s.1 (-1000000000) 1000000000 = true from inR_iff.2 h.p] at b
  exact Evt.next (Evt.bind a (Evt.yes rfl (Evt.bind b (Evt.some _)))) (fun n => r114 n s)
/- spec.LeastBase -/
theorem e49 {c : List Int} (S : SmD c) {P Q : Int} (p1 : 1 ≤ P) (p2 : P ≤ 100) (q1 : 1 ≤ Q) (q2 : Q ≤ 100) : Evt (fun n => call T C n 49 (c, (P, Q, ()), ())) (lsbR c P Q, ()) := by
  have hl := S.len
  have hv := e113 c (by omega)
  rw [S.ok] at hv
  have hB : SlB (P, Q, ()) := ⟨by show -1000000000 ≤ P ∧ P ≤ 1000000000; omega, by show 1 ≤ Q ∧ Q ≤ 1000000000; omega⟩
  refine Evt.next (Evt.bind hv (Evt.no (by simp) (Evt.bind (e114 hB) (Evt.no (by simp) (Evt.no (by simp; omega) ?_))))) (fun n => r49 n c (P, Q, ()))
  have hpos := baT_pos c P Q c.length
  refine loop_evt (fun (x : List Int × Slp × Int × Int × Unit) => ∃ lo hi : Int, x = (c, (P, Q, ()), lo, hi, ()) ∧ 1 ≤ lo ∧ lo ≤ hi ∧ hi ≤ 20001 ∧ (lo ≤ baL c P Q ∧ (hi = 20001 ∨ baL c P Q ≤ hi))) (fun x => (x.2.2.2.1 - x.2.2.1).toNat) (x := (c, (P, Q, ()), 1, 20001, ())) ⟨1, 20001, rfl, by omega, by omega, by omega, hpos, .inl rfl⟩ ?_
  rintro x ⟨lo, hi, rfl, h1, h2, h3, h4, h5⟩
  by_cases hlt : lo < hi
  · have em : wr .i64 (Int.tdiv (wr .i64 (lo + hi)) 2) = (lo + hi) / 2 := by
      rw [wrap_id (x := lo + hi) (by omega) (by omega), Int.tdiv_eq_ediv_of_nonneg (by omega), wrap_id (by omega) (by omega)]
    obtain ⟨m, hm⟩ : ∃ m, m = (lo + hi) / 2 := ⟨_, rfl⟩
    rw [← hm] at em
    have hst := ba_steep (c := c) (b := m) (P := P) (Q := Q) (by omega) p1 q1 (by omega) (fun i => by have := S.slD_bd (b := m) (by omega) (by omega) i; omega)
    refine Round.yes (decide_eq_true hlt) (Round.chk rfl ?_)
    simp only [em]
    refine Round.bind (e106 S (b := m) (by omega) (by omega)) (Round.bind (e115 (S.stB_b (b := m) (by omega) (by omega) _) hB) (Round.ite (fun hc => ?_) (fun hc => ?_)))
    · have hc : cmS (stB c m c.length).2 (P, Q, ()) ≤ 0 := of_decide_eq_true hc
      have hc : ¬ cmS (stB c m c.length).2 (P, Q, ()) > 0 := by omega
      rw [hst] at hc
      refine Round.again _ ⟨⟨lo, m, rfl, h1, by omega, by omega, h4, .inr (by omega)⟩, ?_⟩
      show (m - lo).toNat < (hi - lo).toNat
      omega
    · have hc : cmS (stB c m c.length).2 (P, Q, ()) > 0 := by
        by_cases h : cmS (stB c m c.length).2 (P, Q, ()) ≤ 0
        · exact absurd (decide_eq_true h) hc
        · omega
      rw [hst] at hc
      refine Round.again _ ⟨⟨m + 1, hi, by rw [wrap_id (x := m + 1) (by omega) (by omega)], by omega, by omega, h3, by omega, h5⟩, ?_⟩
      show (hi - wr .i64 (m + 1)).toNat < (hi - lo).toNat
      rw [wrap_id (x := m + 1) (by omega) (by omega)]
      omega
  · have e : lo = hi := by omega
    subst e
    refine Round.no (by simp) ?_
    by_cases h : lo > 20000
    · have e : lsbR c P Q = (0, 6, ()) := if_pos (by omega)
      rw [e]; exact Round.yes (decide_eq_true h) (Round.done (Evt.some _))
    · have e0 : baL c P Q = lo := by omega
      have e : lsbR c P Q = (lo, 0, ()) := by unfold lsbR; rw [if_neg (by omega), e0]
      rw [e]; exact Round.no (fun h2 => h (of_decide_eq_true h2)) (Round.done (Evt.some _))
/- spec.l01Bends -/
theorem e116 {c : List Int} (hr : Rng c) (ok : okC c = true) : Evt (fun n => call T C n 116 (c, ())) ((bends c, ()), ()) := by
  have lx := okC_len ok
  have hC := okC_el ok hr
  have h0 : 0 < c.length := by omega
  refine Evt.next ?_ (fun n => r116 n c)
  refine for_evt' 0 (c.length : Int) (fun i (_ : Unit) => (c, tb i.toNat (fun i => bendP c (i : Nat)), i, ())) (fun _ _ => True) (b0 := ()) rfl (by omega) trivial ?_ ?_
  · intro i _ h2 h3 _
    obtain ⟨k, rfl⟩ : ∃ k : Nat, i = k := ⟨i.toNat, by omega⟩
    have a := hC _ (cAt_mem h0 ((k : Int) + 1))
    have b := hC _ (cAt_mem h0 (k : Int))
    have d := hC _ (cAt_mem h0 ((k : Int) - 1))
    refine Round.yes (decide_eq_true h3) ?_
    simp only [wrap_id (x := (k : Int) + 1) (by omega) (by omega), wrap_id (x := (k : Int) - 1) (by omega) (by omega)]
    refine Round.bind (e161' hr (by omega) (by omega) (x := (k : Int) + 1) (by omega) (by omega)) (Round.bind (e161' hr (by omega) (by omega) (x := (k : Int)) (by omega) (by omega)) (Round.bind (e161' hr (by omega) (by omega) (x := (k : Int) - 1) (by omega) (by omega)) ?_))
    simp only [wrap_id (x := 2 * cAt c (k : Int)) (by omega) (by omega), wrap_id (x := cAt c ((k : Int) + 1) - 2 * cAt c (k : Int)) (by omega) (by omega), wrap_id (x := cAt c ((k : Int) + 1) - 2 * cAt c (k : Int) + cAt c ((k : Int) - 1)) (by omega) (by omega)]
    refine Round.chk (decide_eq_true (by simp only [tb_len, List.length_cons, List.length_nil]; omega)) (Round.again _ ⟨(), ?_, trivial⟩)
    rw [show ((k : Int) + 1).toNat = k + 1 by omega, ← tb_snoc, Int.toNat_natCast]
    rfl
  · intro _ _
    rw [Int.toNat_natCast]
    exact Round.no (by simp) (Round.done (Evt.some _))
/- spec.LeastSpring -/
theorem e50 {c : List Int} (hr : Rng c) (ok : okC c = true) : Evt (fun n => call T C n 50 (c, ())) ((sprF (bends c), 0, ()), ()) := by
  have lx := okC_len ok
  have hC := okC_el ok hr
  have h0 : 0 < c.length := by omega
  have hv := e113 c (by omega)
  rw [ok] at hv
  have hl := bends_len c
  refine Evt.next (Evt.bind hv (Evt.no (by simp) (Evt.bind (e116 hr ok) ?_))) (fun n => r50 n c)
  refine for_evt' 0 ((bends c).length : Int) (fun i (_ : Unit) => (bends c, sprF ((bends c).take i.toNat), i, ())) (fun _ _ => True) (b0 := ()) rfl (by omega) trivial ?_ ?_
  · intro i _ h2 h3 _
    obtain ⟨v, hv⟩ := at_of h2 h3
    obtain ⟨j, _, ej⟩ := tb_mem hv.mem
    have hb := bends_bd h0 hC (j : Nat)
    rw [← ej] at hb
    refine Round.yes (decide_eq_true h3) (Round.at hv.idx (Round.bind (e117 _ _) (Round.again _ ⟨(), ?_, trivial⟩)))
    rw [wr_succ h2 h3 (by omega), wrap_id (x := 0 - v) (by omega) (by omega), hv.take, sprF_snoc, show (0 : Int) - v = -v by omega]
  · intro _ _
    simp only [take_all]
    exact Round.no (by simp) (Round.done (Evt.some _))
/- impl.wearCode -/
theorem e118 {c : List Int} (S : SmD c) {b s t h : Int} (b1 : 1 ≤ b) (b2 : b ≤ 20000) (s1 : 1 ≤ s) (s2 : s ≤ 10000) (t0 : 0 ≤ t) (t1 : t ≤ 100) (h1 : 1 ≤ h) (h2 : h ≤ 10000) : Evt (fun n => call T C n 118 (c, (b, s, ()), t, h, ())) ((0, ()), ()) := by
  have hl := S.len
  have hc := e102 (c := c) (by omega) b s
  rw [if_pos ⟨S.ok, by rw [Bool.and_eq_true, inR_iff, inR_iff]; exact ⟨⟨b1, b2⟩, s1, s2⟩⟩] at hc
  have a := e133 t 0 100
  rw [show inR t 0 100 = true from inR_iff.2 ⟨t0, t1⟩] at a
  have d := e133 h 1 10000
  rw [show inR h 1 10000 = true from inR_iff.2 ⟨h1, h2⟩] at d
  exact Evt.next (Evt.bind hc (Evt.no (by simp) (Evt.bind a (Evt.no (by simp) (Evt.bind d (Evt.no (by simp) (Evt.some _))))))) (fun n => r118 n c (b, s, ()) t h)
/- slices.Clone[impl.Cam,int16] -/
theorem e60 (l : List Int) (h0 : l.length ≠ 0) (hl : (l.length : Int) ≤ 1000000) : Evt (fun n => call T C n 60 (l, ())) ((l, ()), ()) :=
  Evt.next (Evt.yes (decide_eq_true h0) (Evt.chk (by simp; omega) (Evt.some _))) (fun n => r60 n l)
/- (impl.Track).next -/
theorem e179 (q : Trk) {l s : Int} (h1 : -1000000000000 ≤ q.1 ∧ q.1 ≤ 1000000000000) (h2 : -1000000000000 ≤ q.2.1 ∧ q.2.1 ≤ 1000000000000) (hl : -1000000 ≤ l ∧ l ≤ 1000000) (hs : 0 ≤ s ∧ s ≤ 1000000) : Evt (fun n => call T C n 179 (q, l, s, ())) ((nxT q l s, ()), ()) := by
  refine Evt.next ?_ (fun n => r179 n q l s)
  simp only [wrap_id (x := q.2.1 - s) (by omega) (by omega), wrap_id (x := q.1 + (q.2.1 - s)) (by omega) (by omega), wrap_id (x := l - q.1) (by omega) (by omega)]
  unfold nxT
  by_cases h : q.1 + (q.2.1 - s) > l
  · rw [if_pos h]; exact Evt.yes (decide_eq_true h) (Evt.some _)
  · rw [if_neg h]; exact Evt.no (by simpa using h) (Evt.some _)
/- (impl.Cam).follow -/
theorem e163 {c : List Int} (hr : Rng c) (ok : okC c = true) {s : Int} (s1 : 1 ≤ s) (s2 : s ≤ 10000) {K : Nat} (hK : K ≤ 1000) : Evt (fun n => call T C n 163 (c, s, (K : Int), ())) ((tb (K + 1) (trk c s), ()), ()) := by
  have lx := okC_len ok
  have hC := okC_el ok hr
  have h0 : 0 < c.length := by omega
  have hbd := trk_bd (c := c) (M := 10000) (fun x => hC _ (cAt_mem h0 x)) s1
  refine Evt.next (Evt.bind (e112 hr (by omega) (by omega) (x := 0) (by omega) (by omega)) (Evt.bind (e111 hr h0 (by omega) (x := -1) (by omega) (by omega)) ?_)) (fun n => r163 n c s K)
  refine for_evt' 1 ((K : Int) + 1) (fun i (_ : Unit) => (c, s, (K : Int), trk c s (i.toNat - 1), tb i.toNat (trk c s), i, ())) (fun _ _ => True) (b0 := ()) ?_ (by omega) trivial ?_ ?_
  · have e : trk c s 0 = (cAt c 0, cAt c (-1 + 1) - cAt c (-1), true, ()) := by
      show onT c 0 = _
      unfold onT
      rw [show ((0 : Nat) : Int) = 0 from rfl, show (-1 + 1 : Int) = 0 by omega, show (0 : Int) - 1 = -1 by omega]
    show (c, s, (K : Int), _, _, (1 : Int), ()) = (c, s, (K : Int), trk c s 0, [trk c s 0], (1 : Int), ())
    rw [e]
  · intro i _ h2 h3 _
    obtain ⟨k, rfl⟩ : ∃ k : Nat, i = ((k + 1 : Nat) : Int) := ⟨(i - 1).toNat, by omega⟩
    have a := hC _ (cAt_mem h0 (((k + 1 : Nat) : Int)))
    have b0 := hbd k
    have hsk0 : s * (k : Int) ≤ 10000 * (k : Int) := Int.mul_le_mul_of_nonneg_right s2 (by omega)
    have hN := e179 (trk c s k) (l := cAt c ((k + 1 : Nat) : Int)) (s := s) (by omega) (by omega) (by omega) (by omega)
    have e1 : (((k + 1 : Nat) : Int)).toNat - 1 = k := by omega
    simp only [e1]
    refine Round.yes (decide_eq_true (show ((k + 1 : Nat) : Int) ≤ (K : Int) by omega)) (Round.bind (e112 hr (by omega) (by omega) (x := ((k + 1 : Nat) : Int)) (by omega) (by omega)) (Round.bind hN (Round.chk (decide_eq_true (by simp only [tb_len, List.length_cons, List.length_nil]; omega)) (Round.again _ ⟨(), ?_, trivial⟩))))
    rw [wrap_id (x := ((k + 1 : Nat) : Int) + 1) (by omega) (by omega), show (((k + 1 : Nat) : Int) + 1).toNat - 1 = k + 1 by omega, show (((k + 1 : Nat) : Int) + 1).toNat = k + 1 + 1 by omega, ← tb_snoc (k + 1), Int.toNat_natCast]
    rfl
  · intro _ _
    rw [show ((K : Int) + 1).toNat = K + 1 by omega]
    exact Round.no (by simp; omega) (Round.done (Evt.some _))
/- impl.landings -/
theorem e162 {c : List Int} (S : SmD c) {s : Int} (s1 : 1 ≤ s) (s2 : s ≤ 10000) {K : Nat} (hK : K ≤ 1000) : Evt (fun n => call T C n 162 (tb (K + 1) (trk c s), s, ())) ((lnL c s K, ()), ()) := by
  have hbd := trk_bd (c := c) (M := 60) (fun x => S.cAt_bd x) s1
  refine Evt.next ?_ (fun n => r162 n _ s)
  refine for_evt' 1 ((K : Int) + 1) (fun i (_ : Unit) => (tb (K + 1) (trk c s), s, lnL c s (i.toNat - 1), i, ())) (fun _ _ => True) (b0 := ()) rfl (by omega) trivial ?_ ?_
  · intro i _ h2 h3 _
    obtain ⟨k, rfl⟩ : ∃ k : Nat, i = ((k + 1 : Nat) : Int) := ⟨(i - 1).toNat, by omega⟩
    have t1 := tb_at (n := K + 1) (G := trk c s) (i := ((k + 1 : Nat) : Int)) (by omega) (by omega)
    have t0 := tb_at (n := K + 1) (G := trk c s) (i := (k : Int)) (by omega) (by omega)
    rw [Int.toNat_natCast] at t1 t0
    have hw : wr .i64 (((k + 1 : Nat) : Int) - 1) = (k : Int) := by rw [wrap_id (by omega) (by omega)]; omega
    have hll := lnL_len c s k
    have e1 : (((k + 1 : Nat) : Int)).toNat - 1 = k := by omega
    have e2 : ((((k + 1 : Nat) : Int) + 1).toNat - 1) = k + 1 := by omega
    have b1 := (hbd (k + 1)).2
    have b0 := (hbd k).2
    have hsk : s * ((k + 1 : Nat) : Int) ≤ 10000 * ((k + 1 : Nat) : Int) := Int.mul_le_mul_of_nonneg_right s2 (by omega)
    have hsk0 : s * (k : Int) ≤ 10000 * (k : Int) := Int.mul_le_mul_of_nonneg_right s2 (by omega)
    have hlen : ((tb (K + 1) (trk c s)).length : Int) = (K : Int) + 1 := by rw [tb_len]; omega
    refine Round.yes (decide_eq_true (show ((k + 1 : Nat) : Int) < ((tb (K + 1) (trk c s)).length : Int) by omega)) ?_
    simp only [hw, e1]
    refine Round.at t1.idx (Round.at t0.idx ?_)
    have again : ∀ L, L = lnL c s (k + 1) → ∃ b' : Unit, ((tb (K + 1) (trk c s), s, L, wr .i64 (((k + 1 : Nat) : Int) + 1), ()) : List Trk × Int × List Lnd × Int × Unit) = (tb (K + 1) (trk c s), s, lnL c s ((((k + 1 : Nat) : Int) + 1).toNat - 1), ((k + 1 : Nat) : Int) + 1, ()) ∧ True := fun L e => ⟨(), by rw [e2, e, wrap_id (x := ((k + 1 : Nat) : Int) + 1) (by omega) (by omega)], trivial⟩
    cases ht1 : (trk c s (k + 1)).2.2.1 with
    | false =>
      refine Round.no (by simp) (Round.again _ (again _ ?_))
      rw [lnL_succ, if_neg (by unfold lds; rw [ht1]; simp)]
    | true =>
      refine Round.yes rfl ?_
      cases ht0 : (trk c s k).2.2.1 with
      | true =>
        refine Round.no (by simp) (Round.again _ (again _ ?_))
        rw [lnL_succ, if_neg (by unfold lds; rw [ht1, Nat.add_sub_cancel, ht0]; simp)]
      | false =>
        refine Round.yes rfl (Round.chk (decide_eq_true (by simp only [List.length_cons, List.length_nil]; omega)) (Round.again _ (again _ ?_)))
        have hlds : lds c s (k + 1) = true := by unfold lds; rw [ht1, Nat.add_sub_cancel, ht0]; rfl
        have eb : wr .i64 ((trk c s (k + 1)).2.1 - wr .i64 ((trk c s k).2.1 - s)) = blw c s (k + 1) := by
          rw [wrap_id (x := (trk c s k).2.1 - s) (by omega) (by omega), wrap_id (by omega) (by omega)]
          rfl
        rw [eb]
        rw [lnL_succ, if_pos hlds]
  · intro _ _
    have hlen : ((tb (K + 1) (trk c s)).length : Int) = (K : Int) + 1 := by rw [tb_len]; omega
    rw [show ((K : Int) + 1).toNat - 1 = K by omega]
    exact Round.no (by rw [hlen]; simp) (Round.done (Evt.some _))
/- (impl.Cam).worn -/
theorem e119 {c : List Int} (S : SmD c) {s h : Int} (s1 : 1 ≤ s) (s2 : s ≤ 10000) (h1 : 1 ≤ h) (h2 : h ≤ 10000) : Evt (fun n => call T C n 119 (c, s, h, ())) ((wnL c s h, ()), ()) := by
  have hl := S.len
  have hr := S.rng
  have h0 : 0 < c.length := by omega
  have hbd := trk_bd (c := c) (M := 60) (fun x => S.cAt_bd x) s1
  have hF := e163 hr S.ok s1 s2 (K := 2 * c.length) (by omega)
  refine Evt.next (Evt.bind (e77 c) (Evt.bind (e60 c (by omega) (by omega)) ?_)) (fun n => r119 n c s h)
  have ew : wr .i64 (2 * (c.length : Int)) = ((2 * c.length : Nat) : Int) := by rw [wrap_id (by omega) (by omega)]; omega
  simp only [ew]
  refine Evt.bind hF (Evt.bind (e162 S s1 s2 (K := 2 * c.length) (by omega)) ?_)
  obtain ⟨L, hL⟩ : ∃ L, L = lnL c s (2 * c.length) := ⟨_, rfl⟩
  have hll := lnL_len c s (2 * c.length)
  have hel : ∀ x ∈ L, ∃ j : Nat, 1 ≤ j ∧ j ≤ 2 * c.length ∧ x = ((j : Int), blw c s j, ()) ∧ lds c s j = true := fun x hx => lnL_el (by rw [← hL]; exact hx)
  have hres : wnL c s h = L.foldl (wrS c.length h) c := by
    have := wr_fold (c := c) (s := s) (h := h) h0 c.length (Nat.le_refl _)
    rw [show c.length + c.length = 2 * c.length by omega, ← hL] at this
    exact this.symm
  rw [← hL] at hll
  rw [← hL, hres]
  refine for_evt' 0 (L.length : Int) (fun i (_ : Unit) => (h, (c.length : Int), (L.take i.toNat).foldl (wrS c.length h) c, L, (L.length : Int), i, ())) (fun i _ => ((L.take i.toNat).foldl (wrS c.length h) c).length = c.length ∧ ∀ v ∈ (L.take i.toNat).foldl (wrS c.length h) c, 0 ≤ v ∧ v ≤ 60) (b0 := ()) rfl (by omega) ⟨rfl, S.el⟩ ?_ ?_
  · intro i _ i0 i1 ⟨p1, p2⟩
    obtain ⟨x, hx⟩ := at_of i0 i1
    obtain ⟨j, j1, j2, rfl, hj⟩ := hel x hx.mem
    obtain ⟨o, ho⟩ : ∃ o, o = (L.take i.toNat).foldl (wrS c.length h) c := ⟨_, rfl⟩
    have hnext : (L.take (i + 1).toNat).foldl (wrS c.length h) c = wrS c.length h o ((j : Int), blw c s j, ()) := by
      rw [hx.take, List.foldl_append, ← ho]; rfl
    rw [hnext]
    simp only [← ho] at p1 p2 ⊢
    have hmod := Nat.mod_lt j h0
    have etm : Int.tmod (j : Int) (c.length : Int) = ((j % c.length : Nat) : Int) := by rw [← Int.ofNat_tmod]
    have hg := g_idx (l := o) (i := ((j % c.length : Nat) : Int)) (by omega) (by omega)
    rw [Int.toNat_natCast] at hg
    have hgv := p2 _ hg.mem
    have hb := blw_nn j1 hj
    have b1 := (hbd j).2
    have b0 := (hbd (j - 1)).2
    have hsk : s * (j : Int) ≤ 10000 * (j : Int) := Int.mul_le_mul_of_nonneg_right s2 (by omega)
    have hsk0 : s * ((j - 1 : Nat) : Int) ≤ 10000 * ((j - 1 : Nat) : Int) := Int.mul_le_mul_of_nonneg_right s2 (by omega)
    have hbu : blw c s j ≤ 100000000 := by unfold blw; omega
    have hd0 : 0 ≤ blw c s j / h := Int.ediv_nonneg hb (by omega)
    have hd1 : blw c s j / h ≤ blw c s j := Int.ediv_le_self _ hb
    refine Round.yes (decide_eq_true i1) (Round.at hx.idx (Round.ite (fun hc => ?_) (fun hc => ?_)))
    · have hc : (j : Int) > (c.length : Int) := of_decide_eq_true hc
      have hck : 0 ≤ ((j % c.length : Nat) : Int) ∧ ((j % c.length : Nat) : Int) < (o.length : Int) := ⟨by omega, by omega⟩
      have ev : wr .i16 (if wr .i64 (wr .i64 (g o (j % c.length)) - wr .i64 (Int.tdiv (blw c s j) h)) > 0 then wr .i64 (wr .i64 (g o (j % c.length)) - wr .i64 (Int.tdiv (blw c s j) h)) else 0) = max 0 (g o (j % c.length) - blw c s j / h) := by
        rw [Int.tdiv_eq_ediv_of_nonneg hb, wrap_id (x := g o (j % c.length)) (by omega) (by omega), wrap_id (x := blw c s j / h) (by omega) (by omega), wrap_id (x := g o (j % c.length) - blw c s j / h) (by omega) (by omega)]
        split
        · rw [wrap16 (by omega) (by omega)]; omega
        · rw [wrap16 (by omega) (by omega)]; omega
      have ew2 : wrS c.length h o ((j : Int), blw c s j, ()) = o.set (j % c.length) (max 0 (g o (j % c.length) - blw c s j / h)) := by
        unfold wrS
        rw [if_pos hc]
        simp only [Int.toNat_natCast]
      simp only [etm, Int.toNat_natCast]
      refine Round.chk (bne_pos (show 0 < (c.length : Int) by omega)) (Round.chk (decide_eq_true hck) (Round.at hg.get (Round.chk (bne_pos (show 0 < h by omega)) (Round.chk (decide_eq_true hck) (Round.at hg.get (Round.again _ ⟨(), ?_, ?_, fun v hv => ?_⟩))))))
      · rw [ew2, ← ev, wr_succ i0 i1 (by omega)]
      · rw [ew2, List.length_set]; exact p1
      · rw [ew2] at hv
        rcases List.mem_or_eq_of_mem_set hv with hv | hv
        · exact p2 v hv
        · omega
    · have hc : ¬ (j : Int) > (c.length : Int) := by simpa using hc
      have ew2 : wrS c.length h o ((j : Int), blw c s j, ()) = o := by unfold wrS; rw [if_neg hc]
      rw [ew2]
      exact Round.again _ ⟨(), by rw [wr_succ i0 i1 (by omega)], p1, p2⟩
  · intro _ _
    simp only [take_all]
    exact Round.no (by simp) (Round.done (Evt.some _))
/- impl.WearCam -/
theorem e51 {c : List Int} (S : SmD c) {b s h : Int} {t : Nat} (b1 : 1 ≤ b) (b2 : b ≤ 20000) (s1 : 1 ≤ s) (s2 : s ≤ 10000) (t1 : t ≤ 100) (h1 : 1 ≤ h) (h2 : h ≤ 10000) : Evt (fun n => call T C n 51 (c, (b, s, ()), (t : Int), h, ())) ((wearN s h t c, 0, ()), ()) := by
  have hl := S.len
  refine Evt.next (Evt.bind (e118 S b1 b2 s1 s2 (t := (t : Int)) (by omega) (by omega) h1 h2) (Evt.no (by simp) (Evt.bind (e60 c (by omega) (by omega)) ?_))) (fun n => r51 n c (b, s, ()) t h)
  refine for_evt' 0 (t : Int) (fun i (_ : Unit) => (h, (b, s, ()), wearN s h i.toNat c, (t : Int), i, ())) (fun _ _ => True) (b0 := ()) rfl (by omega) trivial ?_ ?_
  · intro i _ i0 i1 _
    have hS := (wearN_ok S s h1 i.toNat).1
    refine Round.yes (decide_eq_true i1) (Round.bind (e119 hS s1 s2 h1 h2) (Round.again _ ⟨(), ?_, trivial⟩))
    rw [wr_succ i0 i1 (by omega), show (i + 1).toNat = i.toNat + 1 by omega]
    rfl
  · intro _ _
    rw [Int.toNat_natCast]
    exact Round.no (by simp) (Round.done (Evt.some _))
/- spec.l03Wearing -/
theorem e120 {c : List Int} (S : SmD c) {b s t h : Int} (b1 : 1 ≤ b) (b2 : b ≤ 20000) (s1 : 1 ≤ s) (s2 : s ≤ 10000) (t0 : 0 ≤ t) (t1 : t ≤ 100) (h1 : 1 ≤ h) (h2 : h ≤ 10000) : Evt (fun n => call T C n 120 (c, (b, s, ()), t, h, ())) ((0, ()), ()) := by
  have hl := S.len
  have hc := e105 (c := c) (by omega) b s
  rw [if_pos ⟨S.ok, by rw [Bool.and_eq_true, inR_iff, inR_iff]; exact ⟨⟨b1, b2⟩, s1, s2⟩⟩] at hc
  have a := e129 t 0 100
  rw [show inR t 0 100 = true from inR_iff.2 ⟨t0, t1⟩] at a
  have d := e129 h 1 10000
  rw [show inR h 1 10000 = true from inR_iff.2 ⟨h1, h2⟩] at d
  exact Evt.next (Evt.bind hc (Evt.yes rfl (Evt.bind a (Evt.no (by simp) (Evt.bind d (Evt.no (by simp) (Evt.some _))))))) (fun n => r120 n c (b, s, ()) t h)
/- spec.l03Begin -/
theorem e180 {c : List Int} (S : SmD c) (s : Int) : Evt (fun n => call T C n 180 (c, ())) ((trk c s 0, ()), ()) := by
  have hl := S.len
  have hr := S.rng
  have a := S.cAt_bd 0
  have b := S.cAt_bd (-1)
  refine Evt.next (Evt.bind (e161' hr (by omega) (by omega) (x := 0) (by omega) (by omega)) (Evt.bind (e161' hr (by omega) (by omega) (x := 0) (by omega) (by omega)) (Evt.bind (e161' hr (by omega) (by omega) (x := -1) (by omega) (by omega)) ((Evt.some _).of_eq fun n => ?_)))) (fun n => r180 n c)
  rw [wrap_id (x := cAt c 0 - cAt c (-1)) (by omega) (by omega)]
  rfl
/- spec.l03Next -/
theorem e181 (q : Trk) {l s : Int} (h1 : -1000000000000 ≤ q.1 ∧ q.1 ≤ 1000000000000) (h2 : -1000000000000 ≤ q.2.1 ∧ q.2.1 ≤ 1000000000000) (hl : -1000000 ≤ l ∧ l ≤ 1000000) (hs : 0 ≤ s ∧ s ≤ 1000000) : Evt (fun n => call T C n 181 (q, l, s, ())) ((nxT q l s, ()), ()) := by
  refine Evt.next ?_ (fun n => r181 n q l s)
  simp only [wrap_id (x := q.2.1 - s) (by omega) (by omega), wrap_id (x := q.1 + (q.2.1 - s)) (by omega) (by omega), wrap_id (x := l - q.1) (by omega) (by omega)]
  unfold nxT
  by_cases h : q.1 + (q.2.1 - s) > l
  · rw [if_pos h]; exact Evt.yes (decide_eq_true h) (Evt.some _)
  · rw [if_neg h]; exact Evt.no (by simpa using h) (Evt.some _)
/- spec.l03Follow -/
theorem e164 {c : List Int} (S : SmD c) {s : Int} (s1 : 1 ≤ s) (s2 : s ≤ 10000) {K : Nat} (hK : K ≤ 1000) : Evt (fun n => call T C n 164 (c, s, (K : Int), ())) ((tb (K + 1) (trk c s), ()), ()) := by
  have hl := S.len
  have hr := S.rng
  have hbd := trk_bd (c := c) (M := 60) (fun x => S.cAt_bd x) s1
  refine Evt.next (Evt.bind (e180 S s) ?_) (fun n => r164 n c s K)
  refine for_evt' 1 ((K : Int) + 1) (fun i (_ : Unit) => (c, s, (K : Int), tb i.toNat (trk c s), i, ())) (fun _ _ => True) (b0 := ()) rfl (by omega) trivial ?_ ?_
  · intro i _ h2 h3 _
    obtain ⟨k, rfl⟩ : ∃ k : Nat, i = ((k + 1 : Nat) : Int) := ⟨(i - 1).toNat, by omega⟩
    have t0 := tb_at (n := k + 1) (G := trk c s) (i := (k : Int)) (by omega) (by omega)
    rw [Int.toNat_natCast] at t0
    have tg := t0.get
    rw [Int.toNat_natCast] at tg
    have hw : wr .i64 (((k + 1 : Nat) : Int) - 1) = (k : Int) := by rw [wrap_id (by omega) (by omega)]; omega
    have b0 := hbd k
    have hsk0 : s * (k : Int) ≤ 10000 * (k : Int) := Int.mul_le_mul_of_nonneg_right s2 (by omega)
    have a := S.cAt_bd ((k + 1 : Nat) : Int)
    refine Round.yes (decide_eq_true (show ((k + 1 : Nat) : Int) ≤ (K : Int) by omega)) ?_
    simp only [hw, Int.toNat_natCast]
    refine Round.chk (decide_eq_true ⟨by omega, by rw [tb_len]; omega⟩) (Round.at tg (Round.bind (e161' hr (by omega) (by omega) (x := ((k + 1 : Nat) : Int)) (by omega) (by omega)) (Round.bind (e181 (trk c s k) (l := cAt c ((k + 1 : Nat) : Int)) (s := s) (by omega) (by omega) (by omega) (by omega)) (Round.chk (decide_eq_true (by simp only [tb_len, List.length_cons, List.length_nil]; omega)) (Round.again _ ⟨(), ?_, trivial⟩)))))
    rw [wrap_id (x := ((k + 1 : Nat) : Int) + 1) (by omega) (by omega), show (((k + 1 : Nat) : Int) + 1).toNat = k + 1 + 1 by omega, ← tb_snoc (k + 1)]
    rfl
  · intro _ _
    rw [show ((K : Int) + 1).toNat = K + 1 by omega]
    exact Round.no (by simp; omega) (Round.done (Evt.some _))
/- spec.l03Lands -/
theorem e165 {c : List Int} {s : Int} {K k : Nat} (k1 : 1 ≤ k) (k2 : k ≤ K) (hK : K ≤ 1000) : Evt (fun n => call T C n 165 (tb (K + 1) (trk c s), (k : Int), ())) ((lds c s k, ()), ()) := by
  have t1 := tb_at (n := K + 1) (G := trk c s) (i := (k : Int)) (by omega) (by omega)
  have t0 := tb_at (n := K + 1) (G := trk c s) (i := ((k - 1 : Nat) : Int)) (by omega) (by omega)
  rw [Int.toNat_natCast] at t1 t0
  have hw : wr .i64 ((k : Int) - 1) = ((k - 1 : Nat) : Int) := by rw [wrap_id (by omega) (by omega)]; omega
  refine Evt.next (Evt.at t1.idx ?_) (fun n => r165 n _ k)
  unfold lds
  cases ht1 : (trk c s k).2.2.1 with
  | false => exact Evt.no (by simp) (Evt.some _)
  | true =>
    refine Evt.yes rfl ?_
    rw [hw]
    refine Evt.at t0.idx ((Evt.some _).of_eq fun n => ?_)
    rfl
/- spec.l03Blow -/
theorem e166 {c : List Int} (S : SmD c) {s : Int} (s1 : 1 ≤ s) (s2 : s ≤ 10000) {K k : Nat} (k1 : 1 ≤ k) (k2 : k ≤ K) (hK : K ≤ 1000) (h : lds c s k = true) : Evt (fun n => call T C n 166 (tb (K + 1) (trk c s), (k : Int), s, ())) ((blw c s k, ()), ()) := by
  have hbd := trk_bd (c := c) (M := 60) (fun x => S.cAt_bd x) s1
  have t1 := tb_at (n := K + 1) (G := trk c s) (i := (k : Int)) (by omega) (by omega)
  have t0 := tb_at (n := K + 1) (G := trk c s) (i := ((k - 1 : Nat) : Int)) (by omega) (by omega)
  rw [Int.toNat_natCast] at t1 t0
  have hw : wr .i64 ((k : Int) - 1) = ((k - 1 : Nat) : Int) := by rw [wrap_id (by omega) (by omega)]; omega
  have b1 := (hbd k).2
  have b0 := (hbd (k - 1)).2
  have hsk : s * (k : Int) ≤ 10000 * (k : Int) := Int.mul_le_mul_of_nonneg_right s2 (by omega)
  have hsk0 : s * ((k - 1 : Nat) : Int) ≤ 10000 * ((k - 1 : Nat) : Int) := Int.mul_le_mul_of_nonneg_right s2 (by omega)
  unfold lds at h
  simp only [Bool.and_eq_true, Bool.not_eq_true'] at h
  refine Evt.next (Evt.at t1.idx (Evt.no (by rw [h.1]; simp) ?_)) (fun n => r166 n _ k s)
  rw [hw]
  refine Evt.at t0.idx (Evt.no (by rw [h.2]; simp) (Evt.at t1.idx (Evt.at t0.idx ((Evt.some _).of_eq fun n => ?_))))
  rw [wrap_id (x := (trk c s (k - 1)).2.1 - s) (by omega) (by omega), wrap_id (by omega) (by omega)]
  rfl
/- spec.l03Worn -/
theorem e121 {c : List Int} (S : SmD c) {s h : Int} (s1 : 1 ≤ s) (s2 : s ≤ 10000) (h1 : 1 ≤ h) (h2 : h ≤ 10000) : Evt (fun n => call T C n 121 (c, s, h, ())) ((wnL c s h, ()), ()) := by
  have hl := S.len
  have hr := S.rng
  have h0 : 0 < c.length := by omega
  have hbd := trk_bd (c := c) (M := 60) (fun x => S.cAt_bd x) s1
  have ew : wr .i64 (2 * (c.length : Int)) = ((2 * c.length : Nat) : Int) := by rw [wrap_id (by omega) (by omega)]; omega
  have en : wr .i64 ((c.length : Int) + 1) = ((c.length + 1 : Nat) : Int) := by rw [wrap_id (by omega) (by omega)]; omega
  refine Evt.next ?_ (fun n => r121 n c s h)
  simp only [ew, en, List.nil_append]
  refine Evt.bind (e164 S s1 s2 (K := 2 * c.length) (by omega)) (Evt.chk (decide_eq_true (by simp only [List.length_nil]; omega)) ?_)
  refine for_evt' ((c.length + 1 : Nat) : Int) (((2 * c.length : Nat) : Int) + 1) (fun i (_ : Unit) => (c, s, h, (c.length : Int), tb (2 * c.length + 1) (trk c s), wnTo c s h (i.toNat - (c.length + 1)), i, ())) (fun _ _ => True) (b0 := ()) (by rw [Int.toNat_natCast, Nat.sub_self]; rfl) (by omega) trivial ?_ ?_
  · intro i _ i0 i1 _
    obtain ⟨j, rfl⟩ : ∃ j : Nat, i = ((c.length + 1 + j : Nat) : Int) := ⟨(i - (c.length + 1)).toNat, by omega⟩
    have e1 : ((c.length + 1 + j : Nat) : Int).toNat - (c.length + 1) = j := by omega
    have e2 : (((c.length + 1 + j : Nat) : Int) + 1).toNat - (c.length + 1) = j + 1 := by omega
    obtain ⟨k, hk⟩ : ∃ k, k = c.length + 1 + j := ⟨_, rfl⟩
    rw [e1, e2, ← hk]
    have etm : Int.tmod (k : Int) (c.length : Int) = ((k % c.length : Nat) : Int) := by rw [← Int.ofNat_tmod]
    have hmod := Nat.mod_lt k h0
    have hwl := wnTo_len c s h j
    have hg := g_idx (l := wnTo c s h j) (i := ((k % c.length : Nat) : Int)) (by omega) (by omega)
    rw [Int.toNat_natCast] at hg
    have hat := S.cAt_bd (k : Int)
    have again : ∀ o, o = wnTo c s h (j + 1) → ∃ b' : Unit, ((c, s, h, (c.length : Int), tb (2 * c.length + 1) (trk c s), o, wr .i64 ((k : Int) + 1), ()) : List Int × Int × Int × Int × List Trk × List Int × Int × Unit) = (c, s, h, (c.length : Int), tb (2 * c.length + 1) (trk c s), wnTo c s h (j + 1), (k : Int) + 1, ()) ∧ True := fun o e => ⟨(), by rw [e, wrap_id (x := (k : Int) + 1) (by omega) (by omega)], trivial⟩
    have hstep : wnTo c s h (j + 1) = if lds c s k = true then (wnTo c s h j).set (k % c.length) (wnV c s h k) else wnTo c s h j := by rw [hk]; rfl
    refine Round.yes (decide_eq_true (show (k : Int) ≤ wr .i64 (2 * (c.length : Int)) by omega)) (Round.bind (e165 (K := 2 * c.length) (k := k) (by omega) (by omega) (by omega)) (Round.ite (fun hc => ?_) (fun hc => ?_)))
    · have hc : lds c s k = true := hc
      have hb := blw_nn (c := c) (s := s) (k := k) (by omega) hc
      have b1 := (hbd k).2
      have b0 := (hbd (k - 1)).2
      have hsk : s * (k : Int) ≤ 10000 * (k : Int) := Int.mul_le_mul_of_nonneg_right s2 (by omega)
      have hsk0 : s * ((k - 1 : Nat) : Int) ≤ 10000 * ((k - 1 : Nat) : Int) := Int.mul_le_mul_of_nonneg_right s2 (by omega)
      have hbu : blw c s k ≤ 100000000 := by unfold blw; omega
      have hd0 : 0 ≤ blw c s k / h := Int.ediv_nonneg hb (by omega)
      have hd1 : blw c s k / h ≤ blw c s k := Int.ediv_le_self _ hb
      have ev : wr .i64 (cAt c (k : Int) - wr .i64 (Int.tdiv (blw c s k) h)) = cAt c (k : Int) - blw c s k / h := by
        rw [Int.tdiv_eq_ediv_of_nonneg hb, wrap_id (x := blw c s k / h) (by omega) (by omega), wrap_id (by omega) (by omega)]
      refine Round.bind (e161' hr (by omega) (by omega) (x := (k : Int)) (by omega) (by omega)) (Round.bind (e166 S s1 s2 (K := 2 * c.length) (k := k) (by omega) (by omega) (by omega) hc) (Round.chk (bne_pos (show 0 < h by omega)) (Round.chk (bne_pos (show 0 < (c.length : Int) by omega)) ?_)))
      simp only [ev, etm, Int.toNat_natCast]
      refine Round.bind (e117 0 (cAt c (k : Int) - blw c s k / h)) (Round.chk (decide_eq_true ⟨by omega, by omega⟩) (Round.at hg.get (Round.again _ (again _ ?_))))
      rw [hstep, if_pos hc]
      have : wr .i16 (max 0 (cAt c (k : Int) - blw c s k / h)) = wnV c s h k := wrap16 (x := wnV c s h k) (by unfold wnV; omega) (by unfold wnV; omega)
      rw [this]
    · have hc : ¬ lds c s k = true := hc
      refine Round.again _ (again _ ?_)
      rw [hstep, if_neg hc]
  · intro _ _
    rw [show (((2 * c.length : Nat) : Int) + 1).toNat - (c.length + 1) = c.length by omega]
    exact Round.no (by rw [ew]; simp; omega) (Round.done (Evt.some _))
/- spec.WearCam -/
theorem e52 {c : List Int} (S : SmD c) {b s h : Int} {t : Nat} (b1 : 1 ≤ b) (b2 : b ≤ 20000) (s1 : 1 ≤ s) (s2 : s ≤ 10000) (t1 : t ≤ 100) (h1 : 1 ≤ h) (h2 : h ≤ 10000) : Evt (fun n => call T C n 52 (c, (b, s, ()), (t : Int), h, ())) ((wearN s h t c, 0, ()), ()) := by
  have hl := S.len
  refine Evt.next (Evt.bind (e120 S b1 b2 s1 s2 (t := (t : Int)) (by omega) (by omega) h1 h2) (Evt.no (by simp) (Evt.chk (decide_eq_true (by simp only [List.length_nil]; omega)) ?_))) (fun n => r52 n c (b, s, ()) t h)
  refine for_evt' 0 (t : Int) (fun i (_ : Unit) => ((t : Int), h, (b, s, ()), wearN s h i.toNat c, i, ())) (fun _ _ => True) (b0 := ()) rfl (by omega) trivial ?_ ?_
  · intro i _ i0 i1 _
    have hS := (wearN_ok S s h1 i.toNat).1
    refine Round.yes (decide_eq_true i1) (Round.bind (e121 hS s1 s2 h1 h2) (Round.again _ ⟨(), ?_, trivial⟩))
    rw [wr_succ i0 i1 (by omega), show (i + 1).toNat = i.toNat + 1 by omega]
    rfl
  · intro _ _
    rw [Int.toNat_natCast]
    exact Round.no (by simp) (Round.done (Evt.some _))
/- slices.Equal[impl.Cam,int16] -/
theorem e122 (a b : List Int) (hl : (a.length : Int) ≤ 1000000) : Evt (fun n => call T C n 122 (a, b, ())) ((decide (a = b), ()), ()) := by
  by_cases hlen : a.length = b.length
  · refine Evt.next (Evt.no (by simp [hlen]) ?_) (fun n => r122 n a b)
    refine for_evt' 0 (a.length : Int) (fun i (_ : Unit) => (a, b, (a.length : Int), i, ())) (fun i _ => a.take i.toNat = b.take i.toNat) (b0 := ()) rfl (by omega) (by simp) ?_ ?_
    · intro i _ h2 h3 he
      obtain ⟨u, hu⟩ := at_of h2 h3
      obtain ⟨v, hv⟩ := at_of (l := b) h2 (by omega)
      refine Round.yes (decide_eq_true h3) (Round.at hu.idx (Round.at hv.idx (Round.ite (fun h => ?_) (fun h => ?_))))
      · have h : u ≠ v := by simpa using h
        have : a ≠ b := fun e => by
          subst e
          have := hu.get.symm.trans hv.get
          exact h (Option.some.inj this)
        rw [decide_eq_false this]
        exact Round.done (Evt.some _)
      · have h : u = v := by simpa using h
        exact Round.again _ ⟨(), by rw [wr_succ h2 h3 (by omega)], by rw [hu.take, hv.take, he, h]⟩
    · intro _ he
      have he : a = b := by rwa [take_all, hlen, take_all] at he
      rw [decide_eq_true he]
      exact Round.no (by simp) (Round.done (Evt.some _))
  · have : a ≠ b := fun e => hlen (by rw [e])
    rw [decide_eq_false this]
    exact Evt.next (Evt.yes (by simp; omega) (Evt.some _)) (fun n => r122 n a b)
/- impl.TurnsToWear -/
theorem e53 {c : List Int} (S : SmD c) {b s h t : Int} (b1 : 1 ≤ b) (b2 : b ≤ 20000) (s1 : 1 ≤ s) (s2 : s ≤ 10000) (t0 : 1 ≤ t) (t1 : t ≤ 100) (h1 : 1 ≤ h) (h2 : h ≤ 10000) : Evt (fun n => call T C n 53 (c, (b, s, ()), h, t, ())) (ttR c s h, ()) := by
  have hl := S.len
  have hwl := wnL_len c s h
  refine Evt.next (Evt.bind (e118 S b1 b2 s1 s2 (t := t) (by omega) t1 h1 h2) (Evt.no (by simp) (Evt.yes (decide_eq_true (show t > 0 by omega)) (Evt.bind (e119 S s1 s2 h1 h2) (Evt.bind (e122 (wnL c s h) c (by omega)) ?_))))) (fun n => r53 n c (b, s, ()) h t)
  by_cases he : wnL c s h = c
  · have e : ttR c s h = (0, 6, ()) := if_pos he
    rw [e]
    exact Evt.no (by simp [he]) (Evt.some _)
  · have e : ttR c s h = (1, 0, ()) := if_neg he
    rw [e]
    exact Evt.yes (by simp [he]) (Evt.some _)
/- spec.l01Same -/
theorem e89 (l : List Int) (hl : (l.length : Int) ≤ 1000000) : Evt (fun n => call T C n 89 (l, l, ())) ((true, ()), ()) := by
  refine Evt.next (Evt.no (by simp) ?_) (fun n => r89 n l l)
  refine for_evt' 0 (l.length : Int) (fun i (_ : Unit) => (l, l, i, ())) (fun _ _ => True) (b0 := ()) rfl (by omega) trivial ?_ ?_
  · intro i _ h2 h3 _
    obtain ⟨v, hv⟩ := at_of h2 h3
    exact Round.yes (decide_eq_true h3) (Round.at hv.idx (Round.at hv.idx (Round.no (by simp) (Round.again _ ⟨(), by rw [wr_succ h2 h3 (by omega)], trivial⟩))))
  · intro _ _
    exact Round.no (by simp) (Round.done (Evt.some _))
theorem e89_2 (a b : List Int) (hl : (a.length : Int) ≤ 1000000) : Evt (fun n => call T C n 89 (a, b, ())) ((decide (a = b), ()), ()) := by
  by_cases hlen : a.length = b.length
  · refine Evt.next (Evt.no (by simp [hlen]) ?_) (fun n => r89 n a b)
    refine for_evt' 0 (a.length : Int) (fun i (_ : Unit) => (a, b, i, ())) (fun i _ => a.take i.toNat = b.take i.toNat) (b0 := ()) rfl (by omega) (by simp) ?_ ?_
    · intro i _ h2 h3 he
      obtain ⟨u, hu⟩ := at_of h2 h3
      obtain ⟨v, hv⟩ := at_of (l := b) h2 (by omega)
      refine Round.yes (decide_eq_true h3) (Round.at hu.idx (Round.at hv.idx (Round.ite (fun h => ?_) (fun h => ?_))))
      · have h : u ≠ v := by simpa using h
        have : a ≠ b := fun e => by
          subst e
          have := hu.get.symm.trans hv.get
          exact h (Option.some.inj this)
        rw [decide_eq_false this]
        exact Round.done (Evt.some _)
      · have h : u = v := by simpa using h
        exact Round.again _ ⟨(), by rw [wr_succ h2 h3 (by omega)], by rw [hu.take, hv.take, he, h]⟩
    · intro _ he
      have he : a = b := by rwa [take_all, hlen, take_all] at he
      rw [decide_eq_true he]
      exact Round.no (by simp) (Round.done (Evt.some _))
  · have : a ≠ b := fun e => hlen (by rw [e])
    rw [decide_eq_false this]
    exact Evt.next (Evt.yes (by simp; omega) (Evt.some _)) (fun n => r89 n a b)
/- spec.SameCam -/
theorem e32 (l : List Int) (hl : (l.length : Int) ≤ 1000000) : Evt (fun n => call T C n 32 (l, l, ())) ((true, ()), ()) := Evt.next (Evt.bind (e89 l hl) (Evt.some _)) (fun n => r32 n l l)
theorem e32_2 (a b : List Int) (hl : (a.length : Int) ≤ 1000000) : Evt (fun n => call T C n 32 (a, b, ())) ((decide (a = b), ()), ()) := Evt.next (Evt.bind (e89_2 a b hl) (Evt.some _)) (fun n => r32 n a b)
/- laws.FnSlopes -/
theorem e6 (a b : List Int) (hd : DomA (C 6).params (a, b, ())) : Evt (fun n => call T C n 6 (a, b, ())) ((true, ()), ()) := by
  have ha : ∀ v ∈ a, 0 ≤ v ∧ v ≤ 255 := fun v hv => hd.1.2 v hv
  have hb : ∀ v ∈ b, 0 ≤ v ∧ v ≤ 255 := fun v hv => hd.2.1.2 v hv
  refine Evt.next (Evt.bind (e40 a) (Evt.ite (fun _ => Evt.some _) (fun h1 => Evt.bind (e40 b) (Evt.ite (fun _ => Evt.some _) (fun h2 => ?_))))) (fun n => r6 n a b)
  have la : (a.length : Int) ≤ 4096 := by simpa using h1
  have lb : (b.length : Int) ≤ 4096 := by
    have h : ¬ decide ((b.length : Int) > 4096) = true := h2
    simpa using h
  obtain ⟨c, hC, S⟩ := e41 ha la
  obtain ⟨B, s, hF, ⟨B1, B2⟩, s1, s2⟩ := e42 hb lb
  have hl := S.len
  have hr := S.rng
  have h0 : 0 < c.length := by omega
  refine Evt.bind hC (Evt.bind hF (Evt.bind (e43 S (b := B) (s := s) (by omega) (by omega) (by omega) (by omega)) (Evt.bind (e44 S (b := B) (s := s) (by omega) (by omega) (by omega) (by omega)) ?_)))
  refine Evt.no (by simp) (Evt.no (by simp) (Evt.no (by simp) (Evt.no (by simp) ?_)))
  have hDB : ∀ i, 1 ≤ slD c B i := fun i => by have := S.slD_bd (b := B) (by omega) (by omega) i; omega
  obtain ⟨k, hk, ek, k1, k2⟩ := stB_spec hDB c.length (by omega)
  rw [ek]
  have hsp := sprF_small h0 (M := 60) (by omega) S.el
  have hSB : ∀ i : Int, SlB (slS c B i) := fun i => S.slB (by omega) (by omega) i
  refine for_evt' 0 (c.length : Int) (fun i (_ : Unit) => (a, b, c, (B, s, ()), (k : Int), slS c B (k : Nat), i, ())) (fun _ _ => True) (b0 := ()) rfl (by omega) trivial ?_ ?_
  · intro i _ i0 i1 _
    obtain ⟨j, rfl⟩ : ∃ j : Nat, i = j := ⟨i.toNat, by omega⟩
    have hle := k1 j (by omega)
    have c1 := cm_lt (slO (hDB (j : Nat))) (slO (hDB (k : Nat)))
    have c2 := cm_lt (slO (hDB (k : Nat))) (slO (hDB (j : Nat)))
    have hgt : ¬ cmS (slS c B (j : Int)) (slS c B (k : Nat)) > 0 := by
      rw [cmS_gt, c1]; omega
    have again : ∃ b' : Unit, ((a, b, c, (B, s, ()), (k : Int), slS c B (k : Nat), wr .i64 ((j : Int) + 1), ()) : List Int × List Int × List Int × (Int × Int × Unit) × Int × Slp × Int × Unit) = (a, b, c, (B, s, ()), (k : Int), slS c B (k : Nat), (j : Int) + 1, ()) ∧ True := ⟨(), by rw [wr_succ i0 i1 (by omega)], trivial⟩
    refine Round.yes (decide_eq_true i1) (Round.bind (e45 S (b := B) (s := s) (by omega) (by omega) (by omega) (by omega) i0 i1) (Round.bind (e46 (hSB (j : Int)) (hSB (k : Nat))) (Round.no (by simp) (Round.no (by simp) (Round.no (by simpa using hgt) ?_)))))
    by_cases hjk : j < k
    · have hne : ¬ cmS (slS c B (j : Int)) (slS c B (k : Nat)) = 0 := by
        rw [cmS_zero]
        have := c2.2 (k2 j hjk)
        omega
      refine Round.yes (decide_eq_true (show (j : Int) < (k : Int) by omega)) (Round.no (by simpa using hne) (Round.no (by simp; omega) (Round.no (by simp) (Round.again _ again))))
    · refine Round.no (by simp; omega) (Round.no (by simp) ?_)
      by_cases hjk2 : j = k
      · subst hjk2
        exact Round.yes (by simp) (Round.no (by simp) (Round.again _ again))
      · exact Round.no (by simp; omega) (Round.no (by simp) (Round.again _ again))
  · intro _ _
    obtain ⟨v, hV, v0, v1⟩ := e47 hb lb (m := 9) (by omega) (by omega)
    obtain ⟨w, hW, w0, w1⟩ := e47 ha la (m := 9) (by omega) (by omega)
    refine Round.no (by simp) (Round.bind hV (Round.bind hW ?_))
    simp only [wrap_id (x := 1 + v) (by omega) (by omega), wrap_id (x := 1 + w) (by omega) (by omega)]
    have hM : SlB (1 + v, 1 + w, ()) := ⟨by show -1000000000 ≤ 1 + v ∧ 1 + v ≤ 1000000000; omega, by show 1 ≤ 1 + w ∧ 1 + w ≤ 1000000000; omega⟩
    have hbp := baT_pos c (1 + v) (1 + w) c.length
    have hW1 := e51 S (b := 5) (s := sprF (bends c)) (h := 1) (t := 4) (by omega) (by omega) hsp.1 (by omega) (by omega) (by omega) (by omega)
    rw [wearN_none (spr_bend h0)] at hW1
    have hW2 := e51 S (b := B) (s := s) (h := 2) (t := 3) (by omega) (by omega) s1 (by omega) (by omega) (by omega) (by omega)
    have hW3 := e52 S (b := B) (s := s) (h := 2) (t := 3) (by omega) (by omega) s1 (by omega) (by omega) (by omega) (by omega)
    have hTW := e53 S (b := B) (s := s) (h := 2) (t := 3) (by omega) (by omega) s1 (by omega) (by omega) (by omega) (by omega) (by omega)
    obtain ⟨hwS, hwl, hwg⟩ := wearN_ok S s (h := 2) (by omega) 3
    have hws := wearN_same S s (h := 2) (by omega)
    obtain ⟨W, hWW⟩ : ∃ W, W = wearN s 2 3 c := ⟨_, rfl⟩
    rw [← hWW] at hW2 hW3 hwS hwl hwg hws
    refine Round.bind (e48 S (P := 1 + v) (Q := 1 + w) (by omega) (by omega) (by omega) (by omega)) (Round.bind (e49 S (P := 1 + v) (Q := 1 + w) (by omega) (by omega) (by omega) (by omega)) (Round.no (by simp) (Round.no (by simp) ?_)))
    by_cases hba : baL c (1 + v) (1 + w) > 20000
    · have eL : lsbR c (1 + v) (1 + w) = (0, 6, ()) := if_pos hba
      rw [eL]
      refine Round.no (by simp) (Round.no (by simp) ?_)
      refine Round.done ?_
      refine Evt.bind (e50 hr S.ok) (Evt.bind hW1 (Evt.bind hW2 (Evt.bind hW3 (Evt.bind hTW ?_))))
      refine Evt.no (by simp) (Evt.no (by simp) (Evt.bind (e32 c (by omega)) (Evt.no (by simp) (Evt.no (by simp) (Evt.no (by simp) (Evt.bind (e32 W (by omega)) (Evt.no (by simp) (Evt.no (by simp [hwl]) ?_))))))))
      obtain ⟨tt, htt⟩ : ∃ tt : Int × Int × Unit, tt = ttR c s 2 := ⟨_, rfl⟩
      rw [← htt]
      refine for_evt' 0 (c.length : Int) (fun i (_ : Unit) => (c, W, tt.1, tt.2.1, i, ())) (fun _ _ => True) (b0 := ()) rfl (by omega) trivial ?_ ?_
      · intro i _ i0 i1 _
        have q1 := g_idx (l := W) i0 (by omega)
        have q2 := g_idx (l := c) i0 i1
        have q3 := hwg i.toNat (by omega)
        refine Round.yes (decide_eq_true i1) (Round.at q1.idx (Round.at q2.idx (Round.no (by simp; omega) (Round.at q1.idx (Round.no (by simp; omega) (Round.again _ ⟨(), by rw [wr_succ i0 i1 (by omega)], trivial⟩))))))
      · intro _ _
        refine Round.no (by simp) ?_
        by_cases he : wnL c s 2 = c
        · rw [show ttR c s 2 = (0, 6, ()) from if_pos he] at htt
          rw [htt]
          have hWc : W = c := hws.2 he
          refine Round.no (by simp) (Round.bind (e32_2 W c (by omega)) (Round.yes (by simp [hWc]) (Round.no (by simp) (Round.done ((Evt.some _).of_eq fun n => ?_)))))
          rfl
        · rw [show ttR c s 2 = (1, 0, ()) from if_neg he] at htt
          rw [htt]
          have hWc : ¬ W = c := fun h => he (hws.1 h)
          refine Round.yes (by simp) (Round.bind (e32_2 W c (by omega)) (Round.yes (by simp [hWc]) (Round.yes (by simp) (Round.done ((Evt.some _).of_eq fun n => ?_)))))
          rfl
    · have eL : lsbR c (1 + v) (1 + w) = (baL c (1 + v) (1 + w), 0, ()) := if_neg hba
      rw [eL]
      obtain ⟨L, hL⟩ : ∃ L, L = baL c (1 + v) (1 + w) := ⟨_, rfl⟩
      have hL1 : 1 ≤ L := by rw [hL]; exact hbp
      rw [← hL] at hba ⊢
      have st1 := ba_steep (c := c) (b := L) (P := 1 + v) (Q := 1 + w) (by omega) (by omega) (by omega) hL1 (fun i => by have := S.slD_bd (b := L) (by omega) (by omega) i; omega)
      rw [← hL] at st1
      refine Round.yes (by simp) (Round.bind (e44 S (b := L) (s := 1) (by omega) (by omega) (by omega) (by omega)) (Round.bind (e46 (S.stB_b (b := L) (by omega) (by omega) _) hM) (Round.no (by simp) (Round.no (by simp) (Round.no ?_ ?_)))))
      · show ¬ decide (cmS (stB c L c.length).2 (1 + v, 1 + w, ()) > 0) = true
        intro h
        have := st1.1 (of_decide_eq_true h)
        omega
      by_cases hL2 : L > 1
      · have st2 := ba_steep (c := c) (b := L - 1) (P := 1 + v) (Q := 1 + w) (by omega) (by omega) (by omega) (by omega) (fun i => by have := S.slD_bd (b := L - 1) (by omega) (by omega) i; omega)
        rw [← hL] at st2
        refine Round.yes (decide_eq_true hL2) ?_
        simp only [wrap_id (x := L - 1) (by omega) (by omega)]
        refine Round.bind (e44 S (b := L - 1) (s := 1) (by omega) (by omega) (by omega) (by omega)) (Round.bind (e46 (S.stB_b (b := L - 1) (by omega) (by omega) _) hM) (Round.no (by simp) (Round.no (by simp) (Round.no ?_ ?_))))
        · show ¬ decide (cmS (stB c (L - 1) c.length).2 (1 + v, 1 + w, ()) ≤ 0) = true
          intro h
          have h3 := of_decide_eq_true h
          have := st2.2 (by omega)
          omega
        refine Round.done ?_
        refine Evt.bind (e50 hr S.ok) (Evt.bind hW1 (Evt.bind hW2 (Evt.bind hW3 (Evt.bind hTW ?_))))
        refine Evt.no (by simp) (Evt.no (by simp) (Evt.bind (e32 c (by omega)) (Evt.no (by simp) (Evt.no (by simp) (Evt.no (by simp) (Evt.bind (e32 W (by omega)) (Evt.no (by simp) (Evt.no (by simp [hwl]) ?_))))))))
        obtain ⟨tt, htt⟩ : ∃ tt : Int × Int × Unit, tt = ttR c s 2 := ⟨_, rfl⟩
        rw [← htt]
        refine for_evt' 0 (c.length : Int) (fun i (_ : Unit) => (c, W, tt.1, tt.2.1, i, ())) (fun _ _ => True) (b0 := ()) rfl (by omega) trivial ?_ ?_
        · intro i _ i0 i1 _
          have q1 := g_idx (l := W) i0 (by omega)
          have q2 := g_idx (l := c) i0 i1
          have q3 := hwg i.toNat (by omega)
          refine Round.yes (decide_eq_true i1) (Round.at q1.idx (Round.at q2.idx (Round.no (by simp; omega) (Round.at q1.idx (Round.no (by simp; omega) (Round.again _ ⟨(), by rw [wr_succ i0 i1 (by omega)], trivial⟩))))))
        · intro _ _
          refine Round.no (by simp) ?_
          by_cases he : wnL c s 2 = c
          · rw [show ttR c s 2 = (0, 6, ()) from if_pos he] at htt
            rw [htt]
            have hWc : W = c := hws.2 he
            refine Round.no (by simp) (Round.bind (e32_2 W c (by omega)) (Round.yes (by simp [hWc]) (Round.no (by simp) (Round.done ((Evt.some _).of_eq fun n => ?_)))))
            rfl
          · rw [show ttR c s 2 = (1, 0, ()) from if_neg he] at htt
            rw [htt]
            have hWc : ¬ W = c := fun h => he (hws.1 h)
            refine Round.yes (by simp) (Round.bind (e32_2 W c (by omega)) (Round.yes (by simp [hWc]) (Round.yes (by simp) (Round.done ((Evt.some _).of_eq fun n => ?_)))))
            rfl
      · refine Round.no (by simpa using hL2) ?_
        refine Round.done ?_
        refine Evt.bind (e50 hr S.ok) (Evt.bind hW1 (Evt.bind hW2 (Evt.bind hW3 (Evt.bind hTW ?_))))
        refine Evt.no (by simp) (Evt.no (by simp) (Evt.bind (e32 c (by omega)) (Evt.no (by simp) (Evt.no (by simp) (Evt.no (by simp) (Evt.bind (e32 W (by omega)) (Evt.no (by simp) (Evt.no (by simp [hwl]) ?_))))))))
        obtain ⟨tt, htt⟩ : ∃ tt : Int × Int × Unit, tt = ttR c s 2 := ⟨_, rfl⟩
        rw [← htt]
        refine for_evt' 0 (c.length : Int) (fun i (_ : Unit) => (c, W, tt.1, tt.2.1, i, ())) (fun _ _ => True) (b0 := ()) rfl (by omega) trivial ?_ ?_
        · intro i _ i0 i1 _
          have q1 := g_idx (l := W) i0 (by omega)
          have q2 := g_idx (l := c) i0 i1
          have q3 := hwg i.toNat (by omega)
          refine Round.yes (decide_eq_true i1) (Round.at q1.idx (Round.at q2.idx (Round.no (by simp; omega) (Round.at q1.idx (Round.no (by simp; omega) (Round.again _ ⟨(), by rw [wr_succ i0 i1 (by omega)], trivial⟩))))))
        · intro _ _
          refine Round.no (by simp) ?_
          by_cases he : wnL c s 2 = c
          · rw [show ttR c s 2 = (0, 6, ()) from if_pos he] at htt
            rw [htt]
            have hWc : W = c := hws.2 he
            refine Round.no (by simp) (Round.bind (e32_2 W c (by omega)) (Round.yes (by simp [hWc]) (Round.no (by simp) (Round.done ((Evt.some _).of_eq fun n => ?_)))))
            rfl
          · rw [show ttR c s 2 = (1, 0, ()) from if_neg he] at htt
            rw [htt]
            have hWc : ¬ W = c := fun h => he (hws.1 h)
            refine Round.yes (by simp) (Round.bind (e32_2 W c (by omega)) (Round.yes (by simp [hWc]) (Round.yes (by simp) (Round.done ((Evt.some _).of_eq fun n => ?_)))))
            rfl

end Go.Cams.YtoafnbpahdnchaaLSl
