/- What the functions that the law reaches come to. -/
import Derived.Test.YteeciijmkmdplaaDoorRFi
import Derived.Test.YteeciijmkmdplaaDoorPuAll
namespace Go.Cams.YteeciijmkmdplaaDoorLFi
open Go Go.Fw Go.Proofs Go.Proofs.YteeciijmkmdplaaDoor.LFi
/- laws.f6big -/
theorem e24 (a : List Int) : Evt (fun n => call T C n 24 (a, ())) ((decide ((a.length : Int) > 4096), ()), ()) := Evt.next (Evt.some _) (fun n => r24 n a)
/- spec.l00From -/
theorem e67 (a : List Int) : Evt (fun n => call T C n 67 (a, ())) (((a, 0, 0, ()), ()), ()) := Evt.next (Evt.some _) (fun n => r67 n a)
/- (*spec.l00Src).next -/
theorem e106 {k : Int} {s : Src} (h : SrcAt k s) (hk : k ≤ 1000000000000) : ∃ (v : Int) (s' : Src), Evt (fun n => call T C n 106 (s, ())) ((v, ()), (s', ())) ∧ 0 ≤ v ∧ v ≤ 255 ∧ SrcAt (k + 1) s' := by
  obtain ⟨h1, h2, h3, h4⟩ := h
  have hw : wr .i64 (s.2.1 + 1) = s.2.1 + 1 := wrap_id (by omega) (by omega)
  by_cases hp : s.2.1 < (s.1.length : Int)
  · obtain ⟨v, hv⟩ := at_of h3 hp
    have hb := h1 v hv.mem
    have ev : wr .i64 v = v := wrap_id (by omega) (by omega)
    obtain ⟨z, hz⟩ : ∃ z, z = wr .u64 ((wr .u64 ((wr .u64 (s.2.2.1 * (6364136223846793005 : Int))) + (wr .u64 (wr .i64 v)))) + (1442695040888963407 : Int)) := ⟨_, rfl⟩
    refine ⟨v, (s.1, s.2.1 + 1, z, ()), Evt.next (Evt.yes (decide_eq_true hp) (Evt.at hv.idx (Evt.yes (decide_eq_true (by rw [hw]; omega)) ((Evt.some _).of_eq fun n => ?_)))) (fun n => r106 n s), hb.1, hb.2, h1, h2, by show 0 ≤ s.2.1 + 1; omega, by show s.2.1 + 1 ≤ k + 1; omega⟩
    rw [← hz, hw, ev]
    rfl
  · obtain ⟨z, hz⟩ : ∃ z, z = wr .u64 ((wr .u64 ((wr .u64 (s.2.2.1 * (6364136223846793005 : Int))) + (wr .u64 (0 : Int)))) + (1442695040888963407 : Int)) := ⟨_, rfl⟩
    have hzb : 0 ≤ z ∧ z < 18446744073709551616 := by rw [hz]; exact wrap_u64 _
    obtain ⟨y, rfl⟩ : ∃ y : Nat, z = y := ⟨z.toNat, by omega⟩
    have hval : wr .i64 (bitsI .and .u64 (shr_ .u64 (y : Int) (40 : Int)) (255 : Int)) = ((y / 2 ^ 40 % 256 : Nat) : Int) := by
      rw [show (40 : Int) = ((40 : Nat) : Int) from rfl, shr_nat (by omega), and_255 (Nat.lt_of_le_of_lt (Nat.div_le_self _ _) (by omega))]
      have := Nat.mod_lt (y / 2 ^ 40) (show 0 < 256 by omega)
      exact wrap_id (by omega) (by omega)
    have hm := Nat.mod_lt (y / 2 ^ 40) (show 0 < 256 by omega)
    refine ⟨((y / 2 ^ 40 % 256 : Nat) : Int), (s.1, s.2.1 + 1, (y : Int), ()), Evt.next (Evt.no (by simpa using hp) (Evt.no (by rw [hw]; simp; omega) (Evt.chk rfl ((Evt.some _).of_eq fun n => ?_)))) (fun n => r106 n s), by omega, by omega, h1, h2, by show 0 ≤ s.2.1 + 1; omega, by show s.2.1 + 1 ≤ k + 1; omega⟩
    rw [← hz, hw, hval]
    rfl
/- (*spec.l00Src).pick -/
theorem e68 {k : Int} {s : Src} (h : SrcAt k s) (hk : k ≤ 999999999000) {m : Int} (m1 : 1 ≤ m) (m2 : m ≤ 1000000) : ∃ (v : Int) (s' : Src), Evt (fun n => call T C n 68 (s, m, ())) ((v, ()), (s', ())) ∧ 0 ≤ v ∧ v < m ∧ SrcAt (k + 2) s' := by
  by_cases hm : m ≤ 1
  · exact ⟨0, s, Evt.next (Evt.yes (decide_eq_true hm) (Evt.some _)) (fun n => r68 n s m), by omega, by omega, h.mono (by omega)⟩
  · obtain ⟨v, s1, hE, v0, v1, hs1⟩ := e106 h (by omega)
    by_cases hb : m > 200
    · obtain ⟨u, s2, hE2, u0, u1, hs2⟩ := e106 hs1 (by omega)
      have hx : wr .i64 (wr .i64 (v * 256) + u) = v * 256 + u := by rw [wrap_id (x := v * 256) (by omega) (by omega), wrap_id (by omega) (by omega)]
      have ht0 := Int.tmod_nonneg m (show 0 ≤ v * 256 + u by omega)
      have ht1 := Int.tmod_lt_of_pos (v * 256 + u) (show 0 < m by omega)
      refine ⟨Int.tmod (v * 256 + u) m, s2, Evt.next (Evt.no (by simpa using hm) (Evt.bind hE (Evt.yes (decide_eq_true hb) (Evt.bind hE2 (Evt.chk (bne_pos (by omega)) ((Evt.some _).of_eq fun n => ?_)))))) (fun n => r68 n s m), ht0, ht1, hs2.mono (by omega)⟩
      rw [hx]
      rfl
    · have ht0 := Int.tmod_nonneg m v0
      have ht1 := Int.tmod_lt_of_pos v (show 0 < m by omega)
      exact ⟨Int.tmod v m, s1, Evt.next (Evt.no (by simpa using hm) (Evt.bind hE (Evt.no (by simpa using hb) (Evt.chk (bne_pos (by omega)) (Evt.some _))))) (fun n => r68 n s m), ht0, ht1, hs1.mono (by omega)⟩
/- (*spec.l00Src).among -/
theorem e103 {k : Int} {s : Src} (h : SrcAt k s) (hk : k ≤ 999999999000) {l : List Int} (l1 : 1 ≤ (l.length : Int)) (l2 : (l.length : Int) ≤ 1000000) : ∃ (v : Int) (s' : Src), Evt (fun n => call T C n 103 (s, l, ())) ((v, ()), (s', ())) ∧ v ∈ l ∧ SrcAt (k + 2) s' := by
  obtain ⟨i, s1, hE, i0, i1, hs1⟩ := e68 h hk l1 l2
  obtain ⟨v, hv⟩ := at_of i0 i1
  refine ⟨v, s1, Evt.next ?_ (fun n => r103 n s l), hv.mem, hs1⟩
  exact Evt.bind hE (Evt.at hv.idx (Evt.some _))
/- spec.l00Min -/
theorem e87 (a b : Int) : Evt (fun n => call T C n 87 (a, b, ())) ((min a b, ()), ()) := by
  refine Evt.next (Evt.ite (fun h => ?_) (fun h => ?_)) (fun n => r87 n a b)
  · have h : a < b := of_decide_eq_true h
    rw [show min a b = a by omega]; exact Evt.some _
  · have h : ¬ a < b := by simpa using h
    rw [show min a b = b by omega]; exact Evt.some _
/- spec.l00Max -/
theorem e104 (a b : Int) : Evt (fun n => call T C n 104 (a, b, ())) ((max a b, ()), ()) := by
  refine Evt.next (Evt.ite (fun h => ?_) (fun h => ?_)) (fun n => r104 n a b)
  · have h : a > b := of_decide_eq_true h
    rw [show max a b = a by omega]; exact Evt.some _
  · have h : ¬ a > b := by simpa using h
    rw [show max a b = b by omega]; exact Evt.some _
/- (*spec.l00Src).one -/
theorem e105 {k : Int} {s : Src} (h : SrcAt k s) (hk : k ≤ 999999999000) {m : Int} (m1 : 1 ≤ m) (m2 : m ≤ 1000000) : ∃ (b : Bool) (s' : Src), Evt (fun n => call T C n 105 (s, m, ())) ((b, ()), (s', ())) ∧ SrcAt (k + 2) s' := by
  obtain ⟨v, s1, hE, v0, v1, hs1⟩ := e68 h hk m1 m2
  exact ⟨v == 0, s1, Evt.next (Evt.bind hE (Evt.some _)) (fun n => r105 n s m), hs1⟩
/- spec.l01Drawn -/
theorem e66 {k : Int} {s : Src} (h : SrcAt k s) (hk : k ≤ 999999990000) : ∃ (c : List Int) (s' : Src), Evt (fun n => call T C n 66 (s, ())) ((c, ()), (s', ())) ∧ SmD c ∧ SrcAt (k + 200) s' := by
  obtain ⟨n0, s1, hE1, hn0, hs1⟩ := e103 h (by omega) (l := [8, 9, 12, 16, 24, 36]) (by simp) (by simp)
  have hn : 8 ≤ n0 ∧ n0 ≤ 36 := by simp at hn0; omega
  obtain ⟨nn, rfl⟩ : ∃ m : Nat, n0 = m := ⟨n0.toNat, by omega⟩
  obtain ⟨l0, s2, hE2, l00, l01, hs2⟩ := e68 hs1 (by omega) (m := 20) (by omega) (by omega)
  have key : EvtX (fun n => call T C n 66 (s, ())) (fun y => SmD y.1.1 ∧ SrcAt (k + 200) y.2.1) := by
    refine EvtX.next (EvtX.bind hE1 (EvtX.bind hE2 ?_)) (fun n => r66 n s)
    refine EvtX.loop (fun x => ∃ (src : Src) (o : List Int) (l : Int), x = (src, (nn : Int), o, l, ()) ∧ SrcAt (k + 4 + 4 * o.length) src ∧ GoodG2 nn (o, l)) (fun x => nn - x.2.2.1.length)
      ⟨s2, [], l0, rfl, hs2.mono (by simp; omega), ⟨fun v hv => (by cases hv), by show 0 ≤ l0 ∧ l0 ≤ 60; omega, by show 0 ≤ nn; omega⟩⟩ ?_
    rintro x ⟨src, out, l, rfl, hsrc, G⟩
    have hle : out.length ≤ nn := G.le
    by_cases hlt : out.length < nn
    · right
      obtain ⟨a, a1, hA, a0, al, hs3⟩ := e68 hsrc (by omega) (m := 7) (by omega) (by omega)
      obtain ⟨b, b1, hB, b0, bl, hs4⟩ := e68 hs3 (by omega) (m := 5) (by omega) (by omega)
      obtain ⟨m, hm⟩ : ∃ m : Nat, 1 + b = m := ⟨(1 + b).toNat, by omega⟩
      have G2 := grow_good (b := a - 3) m G
      have G3 := grow_more (b := a - 3) (k := m) G hlt (by omega)
      obtain ⟨R, eR⟩ : ∃ R, R = grow (a - 3) nn m (out, l) := ⟨_, rfl⟩
      rw [← eR] at G2 G3
      have G3 : out.length < R.1.length := G3
      have hRle : R.1.length ≤ nn := G2.1.le
      refine ⟨(b1, (nn : Int), R.1, R.2, ()), ⟨b1, R.1, R.2, rfl, hs4.mono (by omega), G2.1⟩, by show nn - R.1.length < nn - out.length; omega, fun y => ?_⟩
      refine Round.yes (decide_eq_true (show (out.length : Int) < (nn : Int) by omega)) (Round.bind hA (Round.bind hB ?_))
      simp only [wrap_id (x := a - 3) (by omega) (by omega), hm, wrap_id (x := (m : Int)) (by omega) (by omega)]
      refine for_round' 0 (m : Int) (fun i (s : List Int × Int) => (b1, (nn : Int), s.1, s.2, a - 3, (m : Int) - i, ())) (fun i s => GoodG2 nn s ∧ grow (a - 3) nn ((m : Int) - i).toNat s = R) (b0 := (out, l)) (by rw [Int.sub_zero]) (by omega) ⟨G, by rw [Int.sub_zero, Int.toNat_natCast, eR]⟩ ?_ ?_
      · intro i s h2 h3 ⟨hG, he⟩
        rw [show ((m : Int) - i).toNat = ((m : Int) - (i + 1)).toNat + 1 by omega, grow] at he
        refine Round.yes (decide_eq_true (show (m : Int) - i > 0 by omega)) ?_
        have hsle : s.1.length ≤ nn := hG.le
        have hlf := hG.lf
        by_cases hl : s.1.length < nn
        · rw [if_pos hl] at he
          have hone := grow_one (b := a - 3) hG hl
          refine Round.yes (show (bif true then decide ((s.1.length : Int) < (nn : Int)) else false) = true from decide_eq_true (by omega)) ?_
          simp only [wrap_id (x := s.2 + (a - 3)) (by omega) (by omega)]
          refine Round.bind (e87 60 _) (Round.bind (e104 0 _) (Round.chk (decide_eq_true (by simp only [List.length_cons, List.length_nil]; omega)) (Round.inr _ ⟨(s.1 ++ [max 0 (min 60 (s.2 + (a - 3)))], max 0 (min 60 (s.2 + (a - 3)))), ?_, hone, he⟩)))
          rw [wrap16 (x := max 0 (min 60 (s.2 + (a - 3)))) (by omega) (by omega), wrap_id (x := (m : Int) - i - 1) (by omega) (by omega), show (m : Int) - (i + 1) = (m : Int) - i - 1 by omega]
        · rw [if_neg hl] at he
          refine Round.no (show ¬ (bif true then decide ((s.1.length : Int) < (nn : Int)) else false) = true from fun h => by have := of_decide_eq_true (p := (s.1.length : Int) < (nn : Int)) h; omega) (Round.inl _ ?_)
          rw [← he]
      · intro s ⟨hG, he⟩
        rw [Int.sub_self] at he
        have he : s = R := he
        rw [he]
        exact Round.no (by simp) (Round.inl _ rfl)
    · left
      have hlen : out.length = nn := by omega
      obtain ⟨bo, s3, hO, hs3⟩ := e105 hsrc (by omega) (m := 8) (by omega) (by omega)
      have S0 : SmD out := ⟨by omega, G.el⟩
      have hs5 : SrcAt (k + 200) s3 := hs3.mono (by omega)
      cases bo with
      | false => exact ⟨((out, ()), (s3, ())), ⟨S0, hs5⟩, Round.no (by simp; omega) (Round.bind hO (Round.no (by simp) (Round.done (Evt.some _))))⟩
      | true =>
        have ht : wr .i64 (Int.tdiv (nn : Int) 2) = ((nn / 2 : Nat) : Int) := by
          rw [Int.tdiv_eq_ediv_of_nonneg (by omega), wrap_id (by omega) (by omega)]; omega
        by_cases he : nn % 2 = 0
        · obtain ⟨p, hp⟩ : ∃ p, p = (out.take (nn / 2)).drop 0 := ⟨_, rfl⟩
          have lp : p.length = nn / 2 := by rw [hp, List.drop_zero, List.length_take]; omega
          refine ⟨(((([] : List Int) ++ p) ++ p, ()), (s3, ())), ⟨⟨by show 8 ≤ (((([] : List Int) ++ p) ++ p).length : Int) ∧ (((([] : List Int) ++ p) ++ p).length : Int) ≤ 36; simp only [List.length_append, List.length_nil, lp]; omega, fun v hv => ?_⟩, hs5⟩, ?_⟩
          · have hv : v ∈ p := by simpa using hv
            rw [hp, List.drop_zero] at hv
            exact G.el v (List.mem_of_mem_take hv)
          · refine Round.no (by simp; omega) (Round.bind hO (Round.yes rfl (Round.chk rfl ?_)))
            simp only [ht, Int.toNat_natCast, show Int.toNat 0 = 0 from rfl, ← hp]
            refine Round.chk (decide_eq_true (by omega)) (Round.chk rfl (Round.yes (by rw [beq_iff_eq, Int.tmod_eq_emod_of_nonneg (by omega)]; omega) (Round.chk (decide_eq_true (by simp only [List.length_append, List.length_nil, lp]; omega)) (Round.chk (decide_eq_true (by simp only [List.length_append, List.length_nil, lp]; omega)) (Round.done (Evt.some _))))))
        · refine ⟨((out, ()), (s3, ())), ⟨S0, hs5⟩, Round.no (by simp; omega) (Round.bind hO (Round.yes rfl (Round.chk rfl ?_)))⟩
          simp only [ht]
          exact Round.chk (decide_eq_true (by omega)) (Round.chk rfl (Round.no (by rw [beq_iff_eq, Int.tmod_eq_emod_of_nonneg (by omega)]; omega) (Round.done (Evt.some _))))
  obtain ⟨⟨⟨c, _⟩, ⟨s', _⟩⟩, ⟨h1, h2⟩, hE⟩ := key
  exact ⟨c, s', hE, h1, h2⟩
/- spec.P6Cam -/
theorem e25 {b : List Int} (hb : ∀ v ∈ b, 0 ≤ v ∧ v ≤ 255) (hl : (b.length : Int) ≤ 4096) : ∃ c : List Int, Evt (fun n => call T C n 25 (b, ())) ((c, ()), ()) ∧ SmD c := by
  have h0 : SrcAt 0 ((b, 0, 0, ()) : Src) := ⟨hb, by show (b.length : Int) ≤ 1000000; omega, Int.le_refl _, Int.le_refl _⟩
  obtain ⟨c, s1, hE, S, _⟩ := e66 h0 (by omega)
  refine ⟨c, Evt.next ?_ (fun n => r25 n b), S⟩
  exact Evt.bind (e67 b) (Evt.bind hE (Evt.some _))
/- spec.P6Pick -/
theorem e26 {b : List Int} (hb : ∀ v ∈ b, 0 ≤ v ∧ v ≤ 255) (hl : (b.length : Int) ≤ 4096) {m : Int} (m1 : 1 ≤ m) (m2 : m ≤ 1000000) : ∃ v : Int, Evt (fun n => call T C n 26 (b, m, ())) ((v, ()), ()) ∧ 0 ≤ v ∧ v < m := by
  have h0 : SrcAt 0 ((b, 0, 0, ()) : Src) := ⟨hb, by show (b.length : Int) ≤ 1000000; omega, Int.le_refl _, Int.le_refl _⟩
  obtain ⟨v, s1, hE, v0, v1, _⟩ := e68 h0 (by omega) m1 m2
  refine ⟨v, Evt.next ?_ (fun n => r26 n b m), v0, v1⟩
  exact Evt.bind (e67 b) (Evt.bind hE (Evt.some _))
/- (impl.Cam).steps -/
theorem e62 (a : List Int) : Evt (fun n => call T C n 62 (a, ())) (((a.length : Int), ()), ()) := Evt.next (Evt.some _) (fun n => r62 n a)
/- impl.inRange -/
theorem e60 (a b c : Int) : Evt (fun n => call T C n 60 (a, b, c, ())) ((inR a b c, ()), ()) := by
  refine Evt.next ?_ (fun n => r60 n a b c)
  refine Evt.ite (fun h => ?_) (fun h => ?_)
  · refine (Evt.some _).of_eq fun n => ?_
    have h : b ≤ a := of_decide_eq_true h
    simp [inR, h]
    rfl
  · refine (Evt.some _).of_eq fun n => ?_
    have h : ¬ b ≤ a := by simpa using h
    simp [inR, h]
    rfl
/- impl.isSteps -/
theorem e97 (a : Int) : Evt (fun n => call T C n 97 (a, ())) ((inR a 8 360, ()), ()) := Evt.next (Evt.bind (e60 a 8 360) (Evt.some _)) (fun n => r97 n a)
/- impl.isLift -/
theorem e100 (a : Int) : Evt (fun n => call T C n 100 (a, ())) ((inR a 0 10000, ()), ()) := Evt.next (Evt.bind (e60 a 0 10000) (Evt.some _)) (fun n => r100 n a)
/- impl.ValidCam$1 -/
theorem e99 (v : Int) : Evt (fun n => call T C n 99 (v, ())) ((!okV v, ()), ()) := Evt.next (Evt.bind (e100 _) (Evt.some _)) (fun n => r99 n v)
/- slices.IndexFunc[impl.Cam,int16]{impl.ValidCam$1} -/
theorem e120 (l : List Int) (hl : (l.length : Int) ≤ 140737488351232) : Evt (fun n => call T C n 120 (l, ((), ()), ())) ((fi (fun v => !okV v) l 0, ()), ()) := by
  refine Evt.next ?_ (fun n => r120 n l ((), ()))
  refine loop_evt (fun (x : List Int × (Unit × Unit) × Int × Int × Unit) => x.1 = l ∧ x.2.2.1 = (l.length : Int) ∧ 0 ≤ x.2.2.2.1 ∧ x.2.2.2.1 ≤ (l.length : Int) ∧ fi (fun v => !okV v) l 0 = fi (fun v => !okV v) (l.drop x.2.2.2.1.toNat) x.2.2.2.1) (fun (x : List Int × (Unit × Unit) × Int × Int × Unit) => ((l.length : Int) - x.2.2.2.1).toNat) (x := (l, ((), ()), (l.length : Int), 0, ())) ⟨rfl, rfl, Int.le_refl _, by simp, by simp⟩ ?_
  rintro ⟨x1, u, m, i, _⟩ ⟨h', hm, h0, h1, h2⟩
  simp only at h' hm h0 h1 h2
  subst h'; subst hm
  refine Round.ite (fun hlt => ?_) (fun hge => ?_)
  · have hlt : i < (x1.length : Int) := of_decide_eq_true hlt
    obtain ⟨v, hv, hv'⟩ := idx_at h0 hlt
    have hd := drop_cons hv'
    refine Round.at hv (Round.bind (e99 _) (Round.ite (fun hb => ?_) (fun hb => ?_)))
    · have hb : okV v = false := by simpa using hb
      have h3 : fi (fun v => !okV v) x1 0 = i := by rw [h2, hd]; simp [fi, hb]
      rw [h3]
      exact Round.done (Evt.some _)
    · have hb : okV v = true := by simpa using hb
      have hw : wr .i64 (i + 1) = i + 1 := wrap_id (by omega) (by omega)
      refine Round.again _ ⟨⟨rfl, rfl, ?_, ?_, ?_⟩, ?_⟩ <;> simp only [hw]
      · omega
      · omega
      · rw [h2, hd, show (i + 1).toNat = i.toNat + 1 by omega]
        simp [fi, hb]
      · omega
  · have hge : ¬ i < (x1.length : Int) := by simpa using hge
    have : x1.drop i.toNat = [] := List.drop_of_length_le (by omega)
    rw [h2, this]
    exact Round.done (Evt.some _)
/- slices.ContainsFunc[impl.Cam,int16]{impl.ValidCam$1} -/
theorem e98 (l : List Int) (hl : (l.length : Int) ≤ 140737488351232) : Evt (fun n => call T C n 98 (l, ((), ()), ())) ((l.any (fun v => !okV v), ()), ()) := by
  refine Evt.next (Evt.bind (e120 l hl) ((Evt.some _).of_eq fun n => ?_)) (fun n => r98 n l ((), ()))
  simp only [fi_any _ l 0 (Int.le_refl _)]
  rfl
/- impl.ValidCam -/
theorem e59 (l : List Int) (hl : (l.length : Int) ≤ 140737488351232) : Evt (fun n => call T C n 59 (l, ())) ((okC l, ()), ()) := by
  refine Evt.next (Evt.bind (e62 l) (Evt.bind (e97 _) ?_)) (fun n => r59 n l)
  refine Evt.ite (fun h => ?_) (fun h => ?_)
  · refine Evt.bind (e98 l hl) ((Evt.some _).of_eq fun n => ?_)
    have h : inR (l.length : Int) 8 360 = true := h
    have : okC l = !l.any (fun v => !okV v) := by simp [okC, h, List.any_eq_not_all_not]
    rw [this]
    rfl
  · refine (Evt.some _).of_eq fun n => ?_
    have h : inR (l.length : Int) 8 360 = false := by simpa using h
    simp [okC, h]
    rfl
/- impl.codeIf -/
theorem e58 (c : Bool) (v : Int) : Evt (fun n => call T C n 58 (c, v, ())) (((if c = true then v else 0), ()), ()) := by
  refine Evt.next ?_ (fun n => r58 n c v)
  cases c with
  | true => exact Evt.yes rfl (Evt.some _)
  | false => exact Evt.no (by simp) (Evt.some _)
/- impl.isPlace -/
theorem e88 (a b : Int) : Evt (fun n => call T C n 88 (a, b, ())) ((inR a 0 (wr .i64 (b - 1)), ()), ()) := Evt.next (Evt.bind (e60 _ _ _) (Evt.some _)) (fun n => r88 n a b)
/- impl.firstCode -/
theorem e57 (l : List Int) (hl : (l.length : Int) ≤ 140737488351232) : Evt (fun n => call T C n 57 (l, ())) ((fst0 l, ()), ()) := by
  refine Evt.next ?_ (fun n => r57 n l)
  refine loop_evt (fun (x : List Int × Int × Int × Unit) => x.1 = l ∧ x.2.1 = (l.length : Int) ∧ 0 ≤ x.2.2.1 ∧ x.2.2.1 ≤ (l.length : Int) ∧ fst0 l = fst0 (l.drop x.2.2.1.toNat)) (fun (x : List Int × Int × Int × Unit) => ((l.length : Int) - x.2.2.1).toNat) (x := (l, (l.length : Int), 0, ())) ⟨rfl, rfl, Int.le_refl _, by simp, by simp⟩ ?_
  rintro ⟨x1, m, i, _⟩ ⟨h', hm, h0, h1, h2⟩
  simp only at h' hm h0 h1 h2
  subst h'; subst hm
  refine Round.ite (fun hlt => ?_) (fun hge => ?_)
  · have hlt : i < (x1.length : Int) := of_decide_eq_true hlt
    obtain ⟨v, hv, hv'⟩ := idx_at h0 hlt
    have hd := drop_cons hv'
    refine Round.at hv (Round.ite (fun hb => ?_) (fun hb => ?_))
    · have hb : v ≠ 0 := by simpa using hb
      have h3 : fst0 x1 = v := by rw [h2, hd]; simp [fst0, hb]
      rw [h3]
      exact Round.done (Evt.some _)
    · have hb : v = 0 := by simpa using hb
      have hw : wr .i64 (i + 1) = i + 1 := wrap_id (by omega) (by omega)
      refine Round.again _ ⟨⟨rfl, rfl, ?_, ?_, ?_⟩, ?_⟩ <;> simp only [hw]
      · omega
      · omega
      · rw [h2, hd, show (i + 1).toNat = i.toNat + 1 by omega]
        simp [fst0, hb]
      · omega
  · have hge : ¬ i < (x1.length : Int) := by simpa using hge
    have : x1.drop i.toNat = [] := List.drop_of_length_le (by omega)
    rw [h2, this]
    exact Round.done (Evt.some _)
/- impl.floorDiv -/
theorem e102 {a b : Int} (hb : 0 < b) (h1 : -4500000000000000000 ≤ a) (h2 : a ≤ 4500000000000000000) : Evt (fun n => call T C n 102 (a, b, ())) ((a / b, ()), ()) := by
  have hbd := ediv_bd hb h1 h2 (by omega)
  have he := floorDiv_eq (a := a) hb
  refine Evt.next (Evt.chk (bne_pos hb) (Evt.chk (bne_pos hb) (Evt.ite (fun h => ?_) (fun h => ?_)))) (fun n => r102 n a b)
  · have h : Int.tmod a b < 0 := of_decide_eq_true h
    rw [if_pos h] at he
    refine (Evt.some _).of_eq fun n => ?_
    rw [wrap_id (x := Int.tdiv a b) (by omega) (by omega), wrap_id (by omega) (by omega), he]
    rfl
  · have h : ¬ Int.tmod a b < 0 := by simpa using h
    rw [if_neg h] at he
    refine (Evt.some _).of_eq fun n => ?_
    rw [wrap_id (x := Int.tdiv a b) (by omega) (by omega), he]
    rfl
/- impl.mod -/
theorem e65 {a b : Int} (hb : 0 < b) (hb' : b ≤ 1000000000000) (h1 : -1000000000000 ≤ a) (h2 : a ≤ 1000000000000) : Evt (fun n => call T C n 65 (a, b, ())) ((a % b, ()), ()) := by
  have hd := Int.emod_def a b
  have h3 := Int.emod_nonneg a (show b ≠ 0 by omega)
  have h4 := Int.emod_lt_of_pos a hb
  refine Evt.next (Evt.bind (e102 hb (by omega) (by omega)) ((Evt.some _).of_eq fun n => ?_)) (fun n => r65 n a b)
  simp only
  rw [wrap_id (x := b * (a / b)) (by omega) (by omega), ← hd, wrap_id (by omega) (by omega)]
  rfl
/- (impl.Cam).at -/
theorem e118 {l : List Int} (hr : Rng l) (h0 : 0 < (l.length : Int)) (h1 : (l.length : Int) ≤ 1000000) {x : Int} (hx : -4000000 ≤ x) (hx' : x ≤ 4000000) : Evt (fun n => call T C n 118 (l, x, ())) ((cAt l x, ()), ()) := by
  have hp := Int.emod_nonneg x (show (l.length : Int) ≠ 0 by omega)
  have hq := Int.emod_lt_of_pos x h0
  have hv := g_idx (l := l) hp hq
  refine Evt.next (Evt.bind (e62 l) (Evt.bind (e65 (a := x) h0 (by omega) (by omega) (by omega)) (Evt.at hv.idx ((Evt.some _).of_eq fun n => ?_)))) (fun n => r118 n l x)
  rw [hr.id hv.mem]
  rfl
/- (impl.stretch).height -/
theorem e89 {c : List Int} (hr : Rng c) (h0 : 0 < (c.length : Int)) (h1 : (c.length : Int) ≤ 1000000) (f m lo : Int) (l0 : 0 ≤ lo) (l1 : lo ≤ 9937) {s : Int} (s0 : -4000000 ≤ s) (s1 : s ≤ 4000000) : Evt (fun n => call T C n 89 ((c, (f, (m, (lo, ())))), s, ())) ((hgt c lo s, ()), ()) := by
  have b1 := hr.el _ (cAt_mem (by omega) s)
  refine Evt.next (Evt.bind (e118 hr h0 h1 s0 s1) ((Evt.some _).of_eq fun n => ?_)) (fun n => r89 n _ s)
  show some ((wr .i64 (cAt c s - lo), ()), ()) = _
  rw [wrap_id (x := cAt c s - lo) (by omega) (by omega)]
  rfl
/- (impl.stretch).code -/
theorem e46 {c : List Int} (hr : Rng c) (f m lo b : Int) : Evt (fun n => call T C n 46 ((c, (f, (m, (lo, ())))), b, ())) ((askP c f m lo b, ()), ()) := by
  have hl := hr.len'
  refine Evt.next (Evt.bind (e62 c) (Evt.bind (e59 c (by omega)) (Evt.bind (e58 _ _) (Evt.bind (e88 _ _) ?_)))) (fun n => r46 n _ b)
  unfold askP
  have bad : ∀ (v : Int) (X : Nat → Option ((Int × Unit) × Unit)), Evt (fun n => (call T C n 57 (([(if (!okC c) = true then (1 : Int) else 0), v] : List Int), ())).bind fun r => if (r.1.1 != (0 : Int)) = true then some ((r.1.1, ()), ()) else X n) ((fst0 [(if (!okC c) = true then (1 : Int) else 0), v], ()), ()) ∨ fst0 [(if (!okC c) = true then (1 : Int) else 0), v] = 0 := by
    intro v X
    by_cases h : fst0 [(if (!okC c) = true then (1 : Int) else 0), v] = 0
    · exact .inr h
    · exact .inl (Evt.bind (e57 _ (by simp)) (Evt.yes (by simpa using h) (Evt.some _)))
  cases hc : okC c with
  | false =>
    have h1 : ∀ v : Int, fst0 [(if (!false) = true then (1 : Int) else 0), v] = 1 := fun v => rfl
    have bad1 : ∀ (v : Int) (X : Nat → Option ((Int × Unit) × Unit)), Evt (fun n => (call T C n 57 (([(if (!false) = true then (1 : Int) else 0), v] : List Int), ())).bind fun r => if (r.1.1 != (0 : Int)) = true then some ((r.1.1, ()), ()) else X n) ((1, ()), ()) := fun v X => Evt.bind (e57 _ (by simp)) (Evt.yes rfl (Evt.some _))
    refine Evt.ite (fun _ => Evt.bind (e58 _ _) (bad1 _ _)) (fun _ => Evt.bind (e60 _ _ _) (Evt.ite (fun _ => Evt.bind (e58 _ _) (bad1 _ _)) (fun _ => Evt.bind (e60 _ _ _) (Evt.ite (fun _ => Evt.bind (e58 _ _) (bad1 _ _)) (fun _ => Evt.bind (e60 _ _ _) (Evt.bind (e58 _ _) (bad1 _ _)))))))
  | true =>
  have hlen := okC_len hc
  have bad2 : ∀ (X : Nat → Option ((Int × Unit) × Unit)), Evt (fun n => (call T C n 57 (([(if (!true) = true then (1 : Int) else 0), (if true = true then (2 : Int) else 0)] : List Int), ())).bind fun r => if (r.1.1 != (0 : Int)) = true then some ((r.1.1, ()), ()) else X n) ((2, ()), ()) := fun X => Evt.bind (e57 _ (by simp)) (Evt.yes rfl (Evt.some _))
  have hmin : (if wr .i64 ((c.length : Int) - 4) < (40 : Int) then wr .i64 ((c.length : Int) - 4) else (40 : Int)) = min 40 ((c.length : Int) - 4) := by
    rw [wrap_id (x := (c.length : Int) - 4) (by omega) (by omega)]; split <;> omega
  rw [wrap_id (x := (c.length : Int) - 1) (by omega) (by omega)]
  rw [hmin]
  cases h1 : inR f 0 ((c.length : Int) - 1) with
  | false => exact Evt.yes rfl (Evt.bind (e58 _ _) (bad2 _))
  | true =>
  refine Evt.no (by simp) (Evt.bind (e60 _ _ _) ?_)
  cases h2 : inR m 1 (min 40 ((c.length : Int) - 4)) with
  | false => exact Evt.yes rfl (Evt.bind (e58 _ _) (bad2 _))
  | true =>
  refine Evt.no (by simp) (Evt.bind (e60 _ _ _) ?_)
  cases h3 : inR lo 0 9937 with
  | false => exact Evt.yes rfl (Evt.bind (e58 _ _) (bad2 _))
  | true =>
  refine Evt.no (by simp) (Evt.bind (e60 _ _ _) (Evt.bind (e58 _ _) ?_))
  cases h4 : inR b 0 40000 with
  | false => exact bad2 _
  | true =>
  refine Evt.bind (e57 _ (by simp)) (Evt.no (by decide) ?_)
  have g1 := inR_iff.1 h1
  have g2 := inR_iff.1 h2
  have g3 := inR_iff.1 h3
  rw [wrap_id (x := f - 2) (by omega) (by omega), wrap_id (x := f - 1) (by omega) (by omega), wrap_id (x := f + m) (by omega) (by omega), wrap_id (x := f + m + 1) (by omega) (by omega)]
  refine Evt.at (x := 0) rfl (Evt.at (x := 0) rfl (Evt.at (x := 0) rfl (Evt.at (x := 0) rfl ?_)))
  refine for_evt' 0 4 (fun i (_ : Unit) => ((c, (f, (m, (lo, ())))), [f - 2, f - 1, f + m, f + m + 1], i, ())) (fun i _ => (0 < i → inR (hgt c lo (f - 2)) 0 63 = true) ∧ (1 < i → inR (hgt c lo (f - 1)) 0 63 = true) ∧ (2 < i → inR (hgt c lo (f + m)) 0 63 = true) ∧ (3 < i → inR (hgt c lo (f + m + 1)) 0 63 = true)) (b0 := ()) rfl (by omega) ⟨by omega, by omega, by omega, by omega⟩ ?_ ?_
  · intro i _ i0 i1 hp
    obtain ⟨s, s0, s1, hs, hbad, hgood⟩ : ∃ s : Int, -4000000 ≤ s ∧ s ≤ 4000000 ∧ idx [f - 2, f - 1, f + m, f + m + 1] i = some s ∧ (inR (hgt c lo s) 0 63 = false → (inR (hgt c lo (f - 2)) 0 63 && inR (hgt c lo (f - 1)) 0 63 && inR (hgt c lo (f + m)) 0 63 && inR (hgt c lo (f + m + 1)) 0 63) = false) ∧ (inR (hgt c lo s) 0 63 = true → (0 < i + 1 → inR (hgt c lo (f - 2)) 0 63 = true) ∧ (1 < i + 1 → inR (hgt c lo (f - 1)) 0 63 = true) ∧ (2 < i + 1 → inR (hgt c lo (f + m)) 0 63 = true) ∧ (3 < i + 1 → inR (hgt c lo (f + m + 1)) 0 63 = true)) := by
      rcases (show i = 0 ∨ i = 1 ∨ i = 2 ∨ i = 3 by omega) with e | e | e | e <;> subst e
      · exact ⟨f - 2, by omega, by omega, rfl, fun h => by rw [h]; rfl, fun h => ⟨fun _ => h, by omega, by omega, by omega⟩⟩
      · exact ⟨f - 1, by omega, by omega, rfl, fun h => by rw [h]; simp, fun h => ⟨fun _ => hp.1 (by omega), fun _ => h, by omega, by omega⟩⟩
      · exact ⟨f + m, by omega, by omega, rfl, fun h => by rw [h]; simp, fun h => ⟨fun _ => hp.1 (by omega), fun _ => hp.2.1 (by omega), fun _ => h, by omega⟩⟩
      · exact ⟨f + m + 1, by omega, by omega, rfl, fun h => by rw [h]; simp, fun h => ⟨fun _ => hp.1 (by omega), fun _ => hp.2.1 (by omega), fun _ => hp.2.2.1 (by omega), fun _ => h⟩⟩
    refine Round.yes (decide_eq_true i1) (Round.at hs (Round.bind (e89 hr (by omega) (by omega) f m lo (by omega) (by omega) s0 s1) (Round.bind (e60 _ _ _) (Round.ite (fun h => ?_) (fun h => ?_)))))
    · have h : inR (hgt c lo s) 0 63 = false := by simpa using h
      rw [hbad h]
      exact Round.done (Evt.some _)
    · have h : inR (hgt c lo s) 0 63 = true := by simpa using h
      refine Round.again _ ⟨(), ?_, hgood h⟩
      rw [wrap_id (x := i + 1) (by omega) (by omega)]
  · intro _ hp
    rw [hp.1 (by omega), hp.2.1 (by omega), hp.2.2.1 (by omega), hp.2.2.2 (by omega)]
    exact Round.no (by simp) (Round.done (Evt.some _))
/- impl.span -/
theorem e119 {A B : Int} (a0 : -1000000 ≤ A) (a1 : A ≤ 1000000) (b0 : -1000000 ≤ B) (b1 : B ≤ 1000000) : Evt (fun n => call T C n 119 (A, B, ())) ((row fun z => decide (A ≤ z ∧ (z : Int) ≤ B), ()), ()) := by
  obtain ⟨A', hA'⟩ : ∃ A' : Int, A' = if (0 : Int) > A then 0 else A := ⟨_, rfl⟩
  obtain ⟨B', hB'⟩ : ∃ B' : Int, B' = if (63 : Int) < B then 63 else B := ⟨_, rfl⟩
  have ha : 0 ≤ A' ∧ A' ≤ 1000000 ∧ A ≤ A' ∧ (A' = A ∨ A' = 0) := by rw [hA']; split <;> omega
  have hb : B' ≤ 63 ∧ -1000000 ≤ B' ∧ B' ≤ B ∧ (B' = B ∨ B' = 63) := by rw [hB']; split <;> omega
  refine Evt.next ?_ (fun n => r119 n A B)
  rw [← hA', ← hB']
  have he : (row fun z => decide (A ≤ z ∧ (z : Int) ≤ B)) = row fun z => decide (A' ≤ z ∧ (z : Int) ≤ B') := row_congr fun z hz => by rw [Bool.eq_iff_iff, decide_eq_true_eq, decide_eq_true_eq]; omega
  rw [he]
  refine Evt.ite (fun h => ?_) (fun h => ?_)
  · have h : A' > B' := of_decide_eq_true h
    rw [row_none fun z hz => decide_eq_false (by omega)]
    exact Evt.some _
  · have h : ¬ A' > B' := by simpa using h
    refine Evt.chk (decide_eq_true ?_) (Evt.chk (decide_eq_true (by omega)) ((Evt.some _).of_eq fun n => ?_))
    · rw [wrap_id (x := 63 - B') (by omega) (by omega), wrap_id (by omega) (by omega)]; omega
    · rw [span_val (by omega) (by omega) h]
      rfl
/- impl.leads -/
theorem e94 {b : Int} (b0 : 0 ≤ b) (b1 : b ≤ 40000) {x y : Nat} (hx : x < 64) (hy : y < 64) : Evt (fun n => call T C n 94 ((x : Int), (y : Int), b, ())) ((row (sp b x y), ()), ()) := by
  refine Evt.next ?_ (fun n => r94 n x y b)
  rw [wrap_id (x := 2 * (y : Int)) (by omega) (by omega), wrap_id (x := 2 * (y : Int) - x) (by omega) (by omega), wrap_id (x := 2 * (y : Int) - x - b) (by omega) (by omega), wrap_id (x := 2 * (y : Int) - x + b) (by omega) (by omega)]
  exact Evt.bind (e119 (by omega) (by omega) (by omega) (by omega)) (Evt.some _)
/- (impl.stretch).allowed -/
theorem e76 {c : List Int} (hr : Rng c) {f m lo b : Int} (G : GoodS c f m lo b) {k : Nat} (hk : (k : Int) ≤ m + 1) : Evt (fun n => call T C n 76 ((c, (f, (m, (lo, ())))), (k : Int), ())) ((row (al c f m lo k), ()), ()) := by
  have hl := G.len; have hf := G.hf; have hlo := G.hlo; have hm := G.hm
  refine Evt.next ?_ (fun n => r76 n _ k)
  refine Evt.ite (fun h => ?_) (fun h => ?_)
  · have h : (k : Int) < m := of_decide_eq_true h
    have : row (al c f m lo k) = 18446744073709551615 := by
      rw [row_ones]; exact row_congr fun z hz => by unfold al; simp [h]
    rw [this]; exact Evt.some _
  · have h : ¬ (k : Int) < m := by simpa using h
    have hw := G.fix (k := k) h hk
    rw [wrap_id (x := f + (k : Int)) (by omega) (by omega)]
    refine Evt.bind (e89 hr (by omega) (by omega) f m lo (by omega) (by omega) (by omega) (by omega)) (Evt.chk (decide_eq_true hw.1) ((Evt.some _).of_eq fun n => ?_))
    obtain ⟨w, hw'⟩ : ∃ w : Nat, hgt c lo (f + k) = w := ⟨(hgt c lo (f + k)).toNat, by omega⟩
    have hw64 : w < 64 := by omega
    show some ((shl_ .u64 (1 : Int) (hgt c lo (f + k)), ()), ()) = _
    rw [hw', row_one hw64]
    have : row (fun z => z == w) = row (al c f m lo k) := row_congr fun z hz => by
      unfold al
      rw [hw', show decide ((k : Int) < m) = false from decide_eq_false h, Bool.eq_iff_iff]
      simp only [beq_iff_eq, Bool.false_or, decide_eq_true_eq]
      omega
    rw [this]
    rfl
/- (impl.stretch).behind -/
theorem e92 {c : List Int} (hr : Rng c) {f m lo b : Int} (G : GoodS c f m lo b) : Evt (fun n => call T C n 92 ((c, (f, (m, (lo, ())))), b, ())) ((tb (m.toNat + 3) (fun j => gR (can (qq c f m lo b) (m.toNat + 2 - j) j)), ()), ()) := by
  have hm := G.hm; have hb := G.hb
  obtain ⟨M, hM⟩ : ∃ M : Nat, (M : Int) = m := ⟨m.toNat, by omega⟩
  have hMm : m.toNat = M := by omega
  rw [hMm]
  obtain ⟨q, hq⟩ : ∃ q, q = qq c f m lo b := ⟨_, rfl⟩
  obtain ⟨tt, htt⟩ : ∃ tt : Nat → Nat → Nat → Bool, tt = fun j => can q (M + 2 - j) j := ⟨_, rfl⟩
  rw [← hq]
  have w1 : wr .i64 (m + 2) = ((M + 2 : Nat) : Int) := by rw [wrap_id (by omega) (by omega)]; omega
  have w2 : wr .i64 (((M + 2 : Nat) : Int) + 1) = ((M + 3 : Nat) : Int) := by rw [wrap_id (by omega) (by omega)]; omega
  have w3 : wr .i64 (((M + 2 : Nat) : Int) - 1) = ((M + 2 : Nat) : Int) - 1 := wrap_id (by omega) (by omega)
  refine Evt.next ?_ (fun n => r92 n _ b)
  dsimp only
  rw [w1, w2]
  refine Evt.chk (decide_eq_true ⟨rfl, by omega, by omega⟩) ?_
  have lastG : gR (tt (M + 2)) = gR fun _ _ => true := gR_ext fun x y _ _ => by rw [htt]; show can q (M + 2 - (M + 2)) (M + 2) x y = true; rw [Nat.sub_self]; rfl
  -- the grids behind, made from the last one on
  have main : Evt (fun n => loopK (fun (x7 : Int × ((List Int) × (Int × (Int × (Int × Unit)))) × (List (List Int)) × Int × Unit) again8 => 
    (if (decide (x7.2.2.2.1 ≥ (0 : Int))) = true then 
  loopK (fun (x11 : Int × ((List Int) × (Int × (Int × (Int × Unit)))) × (List (List Int)) × Int × Int × Unit) again12 => 
    (if (decide (x11.2.2.2.2.1 < (64 : Int))) = true then 
  loopK (fun (x15 : Int × ((List Int) × (Int × (Int × (Int × Unit)))) × (List (List Int)) × Int × Int × Int × Int × Unit) again16 => 
    (if (decide (x15.2.2.2.2.2.2.1 < (64 : Int))) = true then (
   call T C n 94 (x15.2.2.2.2.1, x15.2.2.2.2.2.2.1, x15.1, ())).bind fun r19 => (
   call T C n 76 (x15.2.1, x15.2.2.2.1, ())).bind fun r20 => chk (decide (0 ≤ (wr .i64 (x15.2.2.2.1 + (1 : Int))) ∧ (wr .i64 (x15.2.2.2.1 + (1 : Int))) < (x15.2.2.1.length : Int))) (chk (decide (0 ≤ x15.2.2.2.2.2.2.1 ∧ x15.2.2.2.2.2.2.1 < ((64 : Nat) : Int))) ((x15.2.2.1[(Int.toNat (wr .i64 (x15.2.2.2.1 + (1 : Int))))]?).bind fun v21 => (v21[(Int.toNat x15.2.2.2.2.2.2.1)]?).bind fun v22 => 
    (if ((bitsI .and .u64 (bitsI .and .u64 r19.1.1 r20.1.1) v22) != (0 : Int)) = true then chk (decide (0 ≤ x15.2.2.2.1 ∧ x15.2.2.2.1 < (x15.2.2.1.length : Int))) (chk (decide (0 ≤ x15.2.2.2.2.1 ∧ x15.2.2.2.2.1 < ((64 : Nat) : Int))) ((x15.2.2.1[(Int.toNat x15.2.2.2.1)]?).bind fun v23 => (v23[(Int.toNat x15.2.2.2.2.1)]?).bind fun v24 => chk (decide (0 ≤ x15.2.2.2.2.2.2.1)) (chk (decide (0 ≤ x15.2.2.2.1 ∧ x15.2.2.2.1 < (x15.2.2.1.length : Int))) (chk (decide (0 ≤ x15.2.2.2.2.1 ∧ x15.2.2.2.2.1 < ((64 : Nat) : Int))) ((x15.2.2.1[(Int.toNat x15.2.2.2.1)]?).bind fun v25 => (v25[(Int.toNat x15.2.2.2.2.1)]?).bind fun v26 => again16 (x15.1, x15.2.1, (x15.2.2.1.set (Int.toNat x15.2.2.2.1) (v25.set (Int.toNat x15.2.2.2.2.1) (bitsI .or .u64 v24 (shl_ .u64 (1 : Int) x15.2.2.2.2.2.2.1)))), x15.2.2.2.1, x15.2.2.2.2.1, x15.2.2.2.2.2.1, (wr .i64 (x15.2.2.2.2.2.2.1 + (1 : Int))), ())))))) else again16 (x15.1, x15.2.1, x15.2.2.1, x15.2.2.2.1, x15.2.2.2.2.1, x15.2.2.2.2.2.1, (wr .i64 (x15.2.2.2.2.2.2.1 + (1 : Int))), ())))) else again12 (x15.1, x15.2.1, x15.2.2.1, x15.2.2.2.1, (wr .i64 (x15.2.2.2.2.2.1 + (1 : Int))), ()))) n (x11.1, x11.2.1, x11.2.2.1, x11.2.2.2.1, x11.2.2.2.2.1, x11.2.2.2.2.1, (0 : Int), ()) else again8 (x11.1, x11.2.1, x11.2.2.1, (wr .i64 (x11.2.2.2.1 - (1 : Int))), ()))) n (x7.1, x7.2.1, x7.2.2.1, x7.2.2.2.1, (0 : Int), ()) else some ((x7.2.2.1, ()), (())))) n (b, (c, (f, (m, (lo, ())))), tb (M + 3) (fun j => if M + 2 ≤ j then gR (tt j) else List.replicate 64 (0 : Int)), ((M + 2 : Nat) : Int) - 1, ())) ((tb (M + 3) (fun j => gR (tt j)), ()), ()) := by
    refine for_evt' 0 ((M + 2 : Nat) : Int) (fun i (_ : Unit) => (b, (c, (f, (m, (lo, ())))), tb (M + 3) (fun j => if M + 2 - i.toNat ≤ j then gR (tt j) else List.replicate 64 (0 : Int)), ((M + 2 : Nat) : Int) - 1 - i, ())) (fun _ _ => True) (b0 := ()) (by simp) (by omega) trivial ?_ ?_
    · intro i _ i0 i1 _
      obtain ⟨k, hk⟩ : ∃ k : Nat, (k : Int) = ((M + 2 : Nat) : Int) - 1 - i := ⟨(((M + 2 : Nat) : Int) - 1 - i).toNat, by omega⟩
      have hk1 : (k : Int) ≤ m + 1 := by omega
      have hi : M + 2 - i.toNat = k + 1 := by omega
      have hi2 : M + 2 - (i + 1).toNat = k := by omega
      rw [hi, hi2, ← hk, show ((M + 2 : Nat) : Int) - 1 - (i + 1) = (k : Int) - 1 by omega]
      have w4 : wr .i64 ((k : Int) + 1) = ((k + 1 : Nat) : Int) := by rw [wrap_id (by omega) (by omega)]; omega
      have w5 : wr .i64 ((k : Int) - 1) = (k : Int) - 1 := wrap_id (by omega) (by omega)
      have tk : ∀ x y, tt k x y = (List.range 64).any fun z => q k x y z && tt (k + 1) y z := by
        intro x y
        rw [htt]
        show can q (M + 2 - k) k x y = _
        rw [show M + 2 - k = (M + 2 - (k + 1)) + 1 by omega]
        rfl
      refine Round.yes (decide_eq_true (show (k : Int) ≥ 0 by omega)) ?_
      dsimp only
      refine for_round' 0 64 (fun x (_ : Unit) => (b, (c, (f, (m, (lo, ())))), tb (M + 3) (fun j => if k + 1 ≤ j then gR (tt j) else if j = k then pg (tt k) x.toNat 0 else List.replicate 64 (0 : Int)), (k : Int), x, ())) (fun _ _ => True) (b0 := ()) ?_ (by omega) trivial ?_ ?_
      · rw [show tb (M + 3) (fun j => if k + 1 ≤ j then gR (tt j) else List.replicate 64 (0 : Int)) = tb (M + 3) (fun j => if k + 1 ≤ j then gR (tt j) else if j = k then pg (tt k) (0 : Int).toNat 0 else List.replicate 64 (0 : Int)) from tb_ext fun j _ => by
          split
          · rfl
          · split
            · exact (pg_zero _).symm
            · rfl]
      · intro x _ x0 x1 _
        obtain ⟨x, rfl⟩ : ∃ x' : Nat, x = x' := ⟨x.toNat, by omega⟩
        have hx : x < 64 := by omega
        rw [Int.toNat_natCast]
        refine Round.yes (decide_eq_true x1) ?_
        dsimp only
        refine for_round' 0 64 (fun y (_ : Unit) => (b, (c, (f, (m, (lo, ())))), tb (M + 3) (fun j => if k + 1 ≤ j then gR (tt j) else if j = k then pg (tt k) x y.toNat else List.replicate 64 (0 : Int)), (k : Int), (x : Int), (x : Int), y, ())) (fun _ _ => True) (b0 := ()) rfl (by omega) trivial ?_ ?_
        · intro y _ y0 y1 _
          obtain ⟨y, rfl⟩ : ∃ y' : Nat, y = y' := ⟨y.toNat, by omega⟩
          have hy : y < 64 := by omega
          rw [Int.toNat_natCast]
          dsimp only
          rw [w4]
          rw [tb_len]
          refine Round.yes (decide_eq_true y1) (Round.bind (e94 (by omega) (by omega) hx hy) (Round.bind (e76 hr G hk1) (Round.chk (decide_eq_true ⟨by omega, by omega⟩) (Round.chk (decide_eq_true ⟨by omega, Int.ofNat_lt.2 hy⟩) (Round.at (v := gR (tt (k + 1))) (by rw [Int.toNat_natCast, tb_get (by omega), if_pos (Nat.le_refl _)]) (Round.at (v := row (tt (k + 1) y)) (gR_get _ hy) ?_))))))
          dsimp only
          have hc : (bitsI .and .u64 (bitsI .and .u64 (row (sp b x y)) (row (al c f m lo k))) (row (tt (k + 1) y)) != (0 : Int)) = tt k x y := by
            rw [row_and, row_and, row_ne, tk, hq]
            rfl
          have hat : (tb (M + 3) (fun j => if k + 1 ≤ j then gR (tt j) else if j = k then pg (tt k) x y else List.replicate 64 (0 : Int)))[(Int.toNat (k : Int))]? = some (pg (tt k) x y) := by
            rw [Int.toNat_natCast, tb_get (by omega), if_neg (by omega), if_pos rfl]
          rw [hc, hat, wrap_id (x := (y : Int) + 1) (by omega) (by omega)]
          refine Round.ite (fun h => ?_) (fun h => ?_)
          · refine Round.chk (decide_eq_true ⟨by omega, by omega⟩) (Round.chk (decide_eq_true ⟨by omega, Int.ofNat_lt.2 hx⟩) (Round.at rfl (Round.at (pg_get _ hx) (Round.chk (decide_eq_true (by omega)) (Round.chk (decide_eq_true ⟨by omega, by omega⟩) (Round.chk (decide_eq_true ⟨by omega, Int.ofNat_lt.2 hx⟩) (Round.at rfl (Round.at (pg_get _ hx) (Round.inr _ ⟨(), ?_, trivial⟩)))))))))
            try simp only [Int.toNat_natCast]
            rw [pg_put hy h, tb_set, show ((y : Int) + 1).toNat = y + 1 by omega]
            rw [show tb (M + 3) (fun j => if j = k then pg (tt k) x (y + 1) else if k + 1 ≤ j then gR (tt j) else if j = k then pg (tt k) x y else List.replicate 64 (0 : Int)) = tb (M + 3) (fun j => if k + 1 ≤ j then gR (tt j) else if j = k then pg (tt k) x (y + 1) else List.replicate 64 (0 : Int)) from tb_ext fun j _ => by
              by_cases e : j = k
              · subst e; rw [if_pos rfl, if_neg (by omega), if_pos rfl]
              · rw [if_neg e, if_neg e, if_neg e]]
          · have h : tt k x y = false := by simpa using h
            refine Round.inr _ ⟨(), ?_, trivial⟩
            rw [show ((y : Int) + 1).toNat = y + 1 by omega, pg_skip h]
        · intro _ _
          refine Round.no (by simp) (Round.inl _ ⟨(), ?_, trivial⟩)
          dsimp only
          rw [wrap_id (x := (x : Int) + 1) (by omega) (by omega), show (64 : Int).toNat = 64 from rfl, pg_next, show ((x : Int) + 1).toNat = x + 1 by omega]
      · intro _ _
        refine Round.no (by simp) (Round.again _ ⟨(), ?_, trivial⟩)
        dsimp only
        rw [w5, show (64 : Int).toNat = 64 from rfl, pg_full]
        rw [show tb (M + 3) (fun j => if k + 1 ≤ j then gR (tt j) else if j = k then gR (tt k) else List.replicate 64 (0 : Int)) = tb (M + 3) (fun j => if k ≤ j then gR (tt j) else List.replicate 64 (0 : Int)) from tb_ext fun j _ => by
          by_cases e : j = k
          · subst e; rw [if_neg (by omega), if_pos rfl, if_pos (Nat.le_refl _)]
          · by_cases e2 : k ≤ j
            · rw [if_pos (by omega), if_pos e2]
            · rw [if_neg (by omega), if_neg e, if_neg e2]]
    · intro _ _
      refine Round.no (by simp; omega) (Round.done ?_)
      dsimp only
      rw [show tb (M + 3) (fun j => if M + 2 - ((M + 2 : Nat) : Int).toNat ≤ j then gR (tt j) else List.replicate 64 (0 : Int)) = tb (M + 3) (fun j => gR (tt j)) from tb_ext fun j _ => if_pos (by rw [Int.toNat_natCast]; omega)]
      exact Evt.some _
  refine for_evt' 0 64 (fun x (_ : Unit) => (b, (c, (f, (m, (lo, ())))), ((M + 2 : Nat) : Int), tb (M + 3) (fun j => if j = M + 2 then gR (fun x' _ => decide (x' < x.toNat)) else List.replicate 64 (0 : Int)), x, ())) (fun _ _ => True) (b0 := ()) ?_ (by omega) trivial ?_ ?_
  · rw [Int.toNat_natCast, tb_rep (M + 3)]
    rw [show tb (M + 3) (fun j => if j = M + 2 then gR (fun x' _ => decide (x' < (0 : Int).toNat)) else List.replicate 64 (0 : Int)) = tb (M + 3) (fun _ => List.replicate 64 (0 : Int)) from tb_ext fun j _ => by
      split
      · rw [gR_zero]; exact gR_ext fun _ _ _ _ => by simp
      · rfl]
  · intro x _ x0 x1 _
    obtain ⟨x, rfl⟩ : ∃ x' : Nat, x = x' := ⟨x.toNat, by omega⟩
    have hx : x < 64 := by omega
    dsimp only
    rw [tb_len, Int.toNat_natCast]
    refine Round.yes (decide_eq_true x1) (Round.chk (decide_eq_true ⟨by omega, by omega⟩) (Round.chk (decide_eq_true ⟨by omega, Int.ofNat_lt.2 hx⟩) (Round.at (by rw [Int.toNat_natCast, tb_get (by omega), if_pos rfl]) (Round.at (gR_get _ hx) (Round.again _ ⟨(), ?_, trivial⟩)))))
    try simp only [Int.toNat_natCast]
    rw [row_ones, gR_set, tb_set, wrap_id (x := (x : Int) + 1) (by omega) (by omega), show ((x : Int) + 1).toNat = x + 1 by omega]
    rw [show tb (M + 3) (fun j => if j = M + 2 then gR (fun x' y' => if x' = x then true else decide (x' < x)) else if j = M + 2 then gR (fun x' _ => decide (x' < x)) else List.replicate 64 (0 : Int)) = tb (M + 3) (fun j => if j = M + 2 then gR (fun x' _ => decide (x' < x + 1)) else List.replicate 64 (0 : Int)) from tb_ext fun j _ => by
      split
      · refine gR_ext fun x' _ _ _ => ?_
        by_cases e : x' = x
        · subst e; simp
        · rw [if_neg e, decide_eq_decide]; omega
      · rfl]
  · intro _ _
    refine Round.no (by simp) (Round.done ?_)
    dsimp only
    rw [w3]
    rw [show tb (M + 3) (fun j => if j = M + 2 then gR (fun x' _ => decide (x' < (64 : Int).toNat)) else List.replicate 64 (0 : Int)) = tb (M + 3) (fun j => if M + 2 ≤ j then gR (tt j) else List.replicate 64 (0 : Int)) from tb_ext fun j hj => by
      by_cases e : j = M + 2
      · subst e
        rw [if_pos rfl, if_pos (Nat.le_refl _), lastG]
        exact gR_ext fun x' _ hx' _ => decide_eq_true hx'
      · rw [if_neg e, if_neg (by omega)]]
    rw [htt] at main
    rw [htt]
    exact main
/- (impl.stretch).pair -/
theorem e74 {c : List Int} (hr : Rng c) {f m lo b : Int} (G : GoodS c f m lo b) : Evt (fun n => call T C n 74 ((c, (f, (m, (lo, ())))), ())) ((((px c f lo : Nat) : Int), ((py c f lo : Nat) : Int), ()), ()) := by
  have hl := G.len; have hf := G.hf; have hlo := G.hlo
  obtain ⟨ex, hx⟩ := G.px
  obtain ⟨ey, hy⟩ := G.py
  refine Evt.next (Evt.bind (e89 hr (by omega) (by omega) f m lo (by omega) (by omega) (s := wr .i64 (f - 2)) (by rw [wrap_id (by omega) (by omega)]; omega) (by rw [wrap_id (by omega) (by omega)]; omega)) (Evt.bind (e89 hr (by omega) (by omega) f m lo (by omega) (by omega) (s := wr .i64 (f - 1)) (by rw [wrap_id (by omega) (by omega)]; omega) (by rw [wrap_id (by omega) (by omega)]; omega)) ?_)) (fun n => r74 n _)
  rw [wrap_id (x := f - 2) (by omega) (by omega), wrap_id (x := f - 1) (by omega) (by omega), ex, ey]
  exact Evt.some _
/- impl.HasPair -/
theorem e93 (t : Nat → Nat → Bool) {x y : Nat} (hx : x < 64) (hy : y < 64) : Evt (fun n => call T C n 93 (gR t, (x : Int), (y : Int), ())) ((t x y, ()), ()) := by
  have h1 : ∀ z : Nat, z < 64 → inR (z : Int) 0 (wr .i64 (64 - 1)) = true := fun z hz => inR_iff.2 ⟨by omega, by rw [wrap_id (by omega) (by omega)]; omega⟩
  refine Evt.next (Evt.bind (e88 _ _) (Evt.yes (h1 x hx) (Evt.bind (e88 _ _) (Evt.yes (h1 y hy) (Evt.chk (decide_eq_true (by omega)) (Evt.at (x := row (t x)) (gR_get t hx) (Evt.chk (decide_eq_true (by omega)) ((Evt.some _).of_eq fun n => ?_)))))))) (fun n => r93 n _ x y)
  show some ((bif true then (bitsI .and .u64 (shr_ .u64 (row (t x)) (y : Int)) (1 : Int) == (1 : Int)) else false, ()), ()) = _
  rw [row_bit _ hy]
  rfl
/- bits.TrailingZeros64 -/
theorem e85 (p : Nat → Bool) : Evt (fun n => call T C n 85 (row p, ())) ((((fstZ p : Nat) : Int), ()), ()) := by
  refine Evt.next ?_ (fun n => r85 n (row p))
  have h : 0 ≤ row p ∧ row p < 18446744073709551616 := by have := row_lt p; unfold row; omega
  dsimp only
  rw [if_pos h, row_ctz]
  exact Evt.some _
/- (impl.stretch).fill -/
theorem e49 {c : List Int} (hr : Rng c) {f m lo b : Int} (G : GoodS c f m lo b) : Evt (fun n => call T C n 49 ((c, (f, (m, (lo, ())))), b, ())) (fillR c f m lo b, ()) := by
  have hm := G.hm; have hb := G.hb; have hlo := G.hlo
  obtain ⟨ex, hx⟩ := G.px
  obtain ⟨ey, hy⟩ := G.py
  obtain ⟨M, hM⟩ : ∃ M : Nat, (M : Int) = m := ⟨m.toNat, by omega⟩
  have hMm : m.toNat = M := by omega
  obtain ⟨q, hq⟩ : ∃ q, q = qq c f m lo b := ⟨_, rfl⟩
  obtain ⟨tt, htt⟩ : ∃ tt : Nat → Nat → Nat → Bool, tt = fun j => can q (M + 2 - j) j := ⟨_, rfl⟩
  have tk : ∀ k x y : Nat, (k : Int) ≤ m + 1 → tt k x y = (List.range 64).any fun z => q k x y z && tt (k + 1) y z := by
    intro k x y hk
    rw [htt]
    show can q (M + 2 - k) k x y = _
    rw [show M + 2 - k = (M + 2 - (k + 1)) + 1 by omega]
    rfl
  refine Evt.next (Evt.bind (e92 hr G) (Evt.bind (e74 hr G) ?_)) (fun n => r49 n _ b)
  rw [hMm, ← hq, show (fun j => gR (can q (M + 2 - j) j)) = fun j => gR (tt j) by rw [htt]]
  refine Evt.chk (decide_eq_true ⟨by omega, by dsimp only; rw [tb_len]; omega⟩) (Evt.at (x := gR (tt 0)) (tb_get (by omega)) (Evt.bind (e93 (tt 0) hx hy) ?_))
  dsimp only
  have hcq : cq c f m lo b = tt 0 (px c f lo) (py c f lo) := by unfold cq; rw [hMm, htt, ← hq]; rfl
  unfold fillR
  rw [hcq]
  refine Evt.ite (fun h => ?_) (fun h => ?_)
  · rw [if_neg (by simpa using h)]; exact Evt.some _
  have h : tt 0 (px c f lo) (py c f lo) = true := by simpa using h
  rw [if_pos h]
  have hfil : filP c f m lo b = fil q lo (M + 2) M 0 (px c f lo) (py c f lo) := by unfold filP; rw [hMm, hq]
  rw [hfil]
  refine for_evt' 0 m (fun k (s : Nat × Nat × List Int) => (b, (c, (f, (m, (lo, ())))), tb (M + 3) (fun j => gR (tt j)), (s.1 : Int), (s.2.1 : Int), s.2.2, m, k, ())) (fun k s => s.1 < 64 ∧ s.2.1 < 64 ∧ tt k.toNat s.1 s.2.1 = true ∧ s.2.2.length = k.toNat ∧ s.2.2 ++ fil q lo (M + 2) (M - k.toNat) k.toNat s.1 s.2.1 = fil q lo (M + 2) M 0 (px c f lo) (py c f lo)) (b0 := (px c f lo, py c f lo, [])) rfl (by omega) ⟨hx, hy, h, rfl, rfl⟩ ?_ ?_
  · rintro k ⟨x, y, out⟩ k0 k1 ⟨hx, hy, ht, hlen, hfil⟩
    obtain ⟨k, rfl⟩ : ∃ k' : Nat, k = k' := ⟨k.toNat, by omega⟩
    dsimp only at hx hy ht hlen hfil ⊢
    rw [Int.toNat_natCast] at ht hlen hfil
    have hw : wr .i64 ((k : Int) + 1) = ((k + 1 : Nat) : Int) := by rw [wrap_id (by omega) (by omega)]; omega
    rw [hw]
    have hat : idx (tb (M + 3) fun j => gR (tt j)) ((k + 1 : Nat) : Int) = some (gR (tt (k + 1))) := by
      unfold idx
      rw [if_pos (by omega), Int.toNat_natCast, tb_get (by omega)]
    have hat2 : idx (gR (tt (k + 1))) (y : Int) = some (row (tt (k + 1) y)) := by
      unfold idx
      rw [if_pos (by omega), Int.toNat_natCast]; exact gR_get _ hy
    have hz : fstZ (fun z => sp b x y z && tt (k + 1) y z) = fstZ fun z => q k x y z && tt (k + 1) y z := by
      congr 1
      funext z
      rw [hq]
      unfold qq al
      rw [decide_eq_true k1]; simp
    rw [tk k x y (by omega)] at ht
    obtain ⟨z1, z2, _⟩ := fstZ_some ht
    obtain ⟨z, hzz⟩ : ∃ z, z = fstZ fun z => q k x y z && tt (k + 1) y z := ⟨_, rfl⟩
    rw [← hzz] at z1 z2 hz
    simp only [Bool.and_eq_true] at z2
    refine Round.yes (decide_eq_true k1) (Round.bind (e94 (by omega) (by omega) hx hy) (Round.at hat (Round.at hat2 ?_)))
    dsimp only
    rw [row_and]
    refine Round.bind (e85 _) (Round.chk (decide_eq_true (by simp; omega)) (Round.again _ ⟨(y, z, out ++ [lo + (z : Int)]), ?_, hy, z1, ?_, ?_, ?_⟩))
    · dsimp only
      rw [hz, wrap_id (x := lo + (z : Int)) (by omega) (by omega)]
      rfl
    · dsimp only; rw [show ((k : Int) + 1).toNat = k + 1 by omega]; exact z2.2
    · dsimp only; rw [List.length_append, hlen, show ((k : Int) + 1).toNat = k + 1 by omega]; rfl
    · dsimp only
      rw [← hfil, show ((k : Int) + 1).toNat = k + 1 by omega, show M - k = (M - (k + 1)) + 1 by omega, List.append_assoc]
      congr 1
      have : (fstZ fun z => q k x y z && can q (M + 2 - (k + 1)) (k + 1) y z) = z := by rw [hzz, htt]
      show _ = (lo + (fstZ fun z => q k x y z && can q (M + 2 - (k + 1)) (k + 1) y z : Nat)) :: fil q lo (M + 2) (M - (k + 1)) (k + 1) y (fstZ fun z => q k x y z && can q (M + 2 - (k + 1)) (k + 1) y z)
      rw [this]
      rfl
  · rintro ⟨x, y, out⟩ ⟨hx, hy, ht, hlen, hfil⟩
    dsimp only at hfil ⊢
    rw [hMm, Nat.sub_self] at hfil
    rw [show ∀ k, fil q lo (M + 2) 0 k x y = [] from fun _ => rfl, List.append_nil] at hfil
    rw [hfil]
    exact Round.no (by simp) (Round.done (Evt.some _))
/- (impl.stretch).leastBound -/
theorem e47 {c : List Int} (hr : Rng c) {f m lo b : Int} (G : GoodS c f m lo b) : Evt (fun n => call T C n 47 ((c, (f, (m, (lo, ())))), ())) ((lbV c f m lo, ()), ()) := by
  refine Evt.next ?_ (fun n => r47 n _)
  refine loop_evt (fun x => ∃ l h : Int, 0 ≤ l ∧ l ≤ h ∧ h ≤ 128 ∧ x = ((c, (f, (m, (lo, ())))), l, h, ()) ∧ bs (fun b => cq c f m lo b) (h - l).toNat l h = lbV c f m lo) (fun x => (x.2.2.1 - x.2.1).toNat) ⟨0, 128, by omega, by omega, by omega, rfl, rfl⟩ ?_
  rintro x ⟨l, h, l0, lh, h1, rfl, hv⟩
  dsimp only
  by_cases hl : l < h
  · have hd : Int.tdiv (l + h) 2 = (l + h) / 2 := Int.tdiv_eq_ediv_of_nonneg (by omega)
    rw [wrap_id (x := l + h) (by omega) (by omega), hd, wrap_id (x := (l + h) / 2) (by omega) (by omega), wrap_id (x := (l + h) / 2 + 1) (by omega) (by omega)]
    have G' := G.bound (b' := (l + h) / 2) (by omega) (by omega)
    refine Round.yes (decide_eq_true hl) (Round.chk rfl (Round.bind (e49 hr G') ?_))
    dsimp only
    have key : (fillR c f m lo ((l + h) / 2)).2.1 = cq c f m lo ((l + h) / 2) := by
      unfold fillR
      cases cq c f m lo ((l + h) / 2) <;> rfl
    rw [key]
    have hs : (h - l).toNat = ((h - l).toNat - 1) + 1 := by omega
    rw [hs] at hv
    unfold bs at hv
    rw [if_pos hl] at hv
    refine Round.ite (fun hc => ?_) (fun hc => ?_)
    · rw [if_pos hc] at hv
      exact Round.again _ ⟨⟨l, (l + h) / 2, by omega, by omega, by omega, rfl, by rw [← hv]; exact (bs_any _ (by omega)).symm⟩, by dsimp only; omega⟩
    · rw [if_neg hc] at hv
      exact Round.again _ ⟨⟨(l + h) / 2 + 1, h, by omega, by omega, by omega, rfl, by rw [← hv]; exact (bs_any _ (by omega)).symm⟩, by dsimp only; omega⟩
  · have : l = h := by omega
    subst this
    rw [Int.sub_self] at hv
    rw [← hv]
    exact Round.no (by simp) (Round.done (Evt.some _))
/- impl.LeastBound -/
theorem e11 {c : List Int} (hr : Rng c) (f m lo : Int) : Evt (fun n => call T C n 11 (c, f, m, lo, ())) (lbR c f m lo, ()) := by
  refine Evt.next (Evt.bind (e46 hr f m lo 0) ?_) (fun n => r11 n c f m lo)
  unfold lbR
  refine Evt.ite (fun h => ?_) (fun h => ?_)
  · rw [if_pos (by simpa using h)]; exact Evt.some _
  · have h : askP c f m lo 0 = 0 := by simpa using h
    rw [if_neg (by simp [h])]
    exact Evt.bind (e47 hr (goodS h)) (Evt.some _)
/- spec.l00In -/
theorem e86 (a b c : Int) : Evt (fun n => call T C n 86 (a, b, c, ())) ((inR a b c, ()), ()) := by
  refine Evt.next ?_ (fun n => r86 n a b c)
  refine Evt.ite (fun h => ?_) (fun h => ?_)
  · refine (Evt.some _).of_eq fun n => ?_
    have h : b ≤ a := of_decide_eq_true h
    simp [inR, h]
    rfl
  · refine (Evt.some _).of_eq fun n => ?_
    have h : ¬ b ≤ a := by simpa using h
    simp [inR, h]
    rfl
/- spec.l01Steps -/
theorem e95 (a : Int) : Evt (fun n => call T C n 95 (a, ())) ((inR a 8 360, ()), ()) := Evt.next (Evt.bind (e86 a 8 360) (Evt.some _)) (fun n => r95 n a)
/- spec.l01Lift -/
theorem e96 (a : Int) : Evt (fun n => call T C n 96 (a, ())) ((inR a 0 10000, ()), ()) := Evt.next (Evt.bind (e86 a 0 10000) (Evt.some _)) (fun n => r96 n a)
/- spec.l01Ok -/
theorem e52 (l : List Int) (hl : (l.length : Int) ≤ 140737488351232) : Evt (fun n => call T C n 52 (l, ())) ((okC l, ()), ()) := by
  refine Evt.next ?_ (fun n => r52 n l)
  refine Evt.bind (e95 _) ?_
  refine Evt.ite (fun h => ?_) (fun h => ?_)
  · refine (Evt.some _).of_eq fun n => ?_
    have h : inR (l.length : Int) 8 360 = false := by simpa using h
    simp [okC, h]
    rfl
  · have h : inR (l.length : Int) 8 360 = true := by simpa using h
    have he : okC l = l.all okV := by simp [okC, h]
    rw [he]
    refine loop_evt (fun (x : List Int × Int × Unit) => x.1 = l ∧ 0 ≤ x.2.1 ∧ x.2.1 ≤ (l.length : Int) ∧ l.all okV = (l.drop x.2.1.toNat).all okV) (fun (x : List Int × Int × Unit) => ((l.length : Int) - x.2.1).toNat) (x := (l, 0, ())) ⟨rfl, Int.le_refl _, by simp, by simp⟩ ?_
    rintro ⟨x1, i, _⟩ ⟨h', h0, h1, h2⟩
    simp only at h' h0 h1 h2
    subst h'
    refine Round.ite (fun hlt => ?_) (fun hge => ?_)
    · have hlt : i < (x1.length : Int) := of_decide_eq_true hlt
      obtain ⟨v, hv, hv'⟩ := idx_at h0 hlt
      have hd := drop_cons hv'
      refine Round.at hv (Round.bind (e96 _) (Round.ite (fun hb => ?_) (fun hb => ?_)))
      · have hb : okV v = false := by simpa [okV] using hb
        have h3 : x1.all okV = false := by rw [h2, hd]; simp [hb]
        rw [h3]
        exact Round.done (Evt.some _)
      · have hb : okV v = true := by simpa [okV] using hb
        have hw : wr .i64 (i + 1) = i + 1 := wrap_id (by omega) (by omega)
        refine Round.again _ ⟨⟨rfl, ?_, ?_, ?_⟩, ?_⟩ <;> simp only [hw]
        · omega
        · omega
        · rw [h2, hd, show (i + 1).toNat = i.toNat + 1 by omega]
          simp [hb]
        · omega
    · have hge : ¬ i < (x1.length : Int) := by simpa using hge
      have : x1.drop i.toNat = [] := List.drop_of_length_le (by omega)
      rw [h2, this]
      exact Round.done (Evt.some _)
/- spec.l05Low -/
theorem e54 (a : Int) : Evt (fun n => call T C n 54 (a, ())) ((inR a 0 9937, ()), ()) := Evt.next (Evt.bind (e86 a 0 9937) (Evt.some _)) (fun n => r54 n a)
/- spec.l05Bound -/
theorem e53 (a : Int) : Evt (fun n => call T C n 53 (a, ())) ((inR a 0 40000, ()), ()) := Evt.next (Evt.bind (e86 a 0 40000) (Evt.some _)) (fun n => r53 n a)
/- spec.l01At -/
theorem e56 {l : List Int} (hr : Rng l) (h0 : 0 < (l.length : Int)) (h1 : (l.length : Int) ≤ 1000000) {x : Int} (hx : -4000000 ≤ x) (hx' : x ≤ 4000000) : ∃ v, l[(x % l.length).toNat]? = some v ∧ v ∈ l ∧ Evt (fun n => call T C n 56 (l, x, ())) ((v, ()), ()) := by
  have hp := Int.emod_nonneg x (show (l.length : Int) ≠ 0 by omega)
  obtain ⟨v, hv⟩ := at_of (l := l) hp (Int.emod_lt_of_pos x h0)
  refine ⟨v, hv.get, hv.mem, ?_⟩
  refine Evt.next (Evt.chk (bne_pos h0) (Evt.chk (bne_pos h0) ?_)) (fun n => r56 n l x)
  rw [turn_at h0 h1 hx hx']
  refine Evt.at hv.idx ((Evt.some _).of_eq fun n => ?_)
  rw [hr.id hv.mem]
  rfl
theorem e56' {l : List Int} (hr : Rng l) (h0 : 0 < (l.length : Int)) (h1 : (l.length : Int) ≤ 1000000) {x : Int} (hx : -4000000 ≤ x) (hx' : x ≤ 4000000) : Evt (fun n => call T C n 56 (l, x, ())) ((cAt l x, ()), ()) := by
  obtain ⟨v, hv, hm, he⟩ := e56 hr h0 h1 hx hx'
  have : cAt l x = v := by unfold cAt g; rw [List.getD_eq_getElem?_getD, hv]; rfl
  rw [this]; exact he
/- spec.l05Asked -/
theorem e44 {c : List Int} (hr : Rng c) (f m lo b : Int) : Evt (fun n => call T C n 44 (c, f, m, lo, b, ())) ((askP c f m lo b, ()), ()) := by
  have hl := hr.len'
  refine Evt.next (Evt.bind (e52 c (by omega)) ?_) (fun n => r44 n c f m lo b)
  unfold askP
  cases hc : okC c with
  | false => exact Evt.yes rfl (Evt.some _)
  | true =>
  have hlen := okC_len hc
  rw [wrap_id (x := (c.length : Int) - 1) (by omega) (by omega), wrap_id (x := (c.length : Int) - 4) (by omega) (by omega)]
  refine Evt.no (by simp) (Evt.bind (e86 f 0 _) ?_)
  cases h1 : inR f 0 ((c.length : Int) - 1) with
  | false => exact Evt.yes rfl (Evt.some _)
  | true =>
  refine Evt.no (by simp) (Evt.bind (e87 40 _) (Evt.bind (e86 m 1 _) ?_))
  cases h2 : inR m 1 (min 40 ((c.length : Int) - 4)) with
  | false => exact Evt.yes rfl (Evt.some _)
  | true =>
  refine Evt.no (by simp) (Evt.bind (e54 lo) ?_)
  cases h3 : inR lo 0 9937 with
  | false => exact Evt.yes rfl (Evt.some _)
  | true =>
  refine Evt.no (by simp) (Evt.bind (e53 b) ?_)
  cases h4 : inR b 0 40000 with
  | false => exact Evt.yes rfl (Evt.some _)
  | true =>
  have g1 := inR_iff.1 h1
  have g2 := inR_iff.1 h2
  have g3 := inR_iff.1 h3
  rw [wrap_id (x := f - 2) (by omega) (by omega), wrap_id (x := f - 1) (by omega) (by omega), wrap_id (x := f + m) (by omega) (by omega), wrap_id (x := f + m + 1) (by omega) (by omega)]
  have one : ∀ s : Int, -4000000 ≤ s → s ≤ 4000000 → inR (cAt c s) lo (wr .i64 (wr .i64 (lo + 64) - 1)) = inR (hgt c lo s) 0 63 := by
    intro s _ _
    rw [wrap_id (x := lo + 64) (by omega) (by omega), wrap_id (x := lo + 64 - 1) (by omega) (by omega), Bool.eq_iff_iff, inR_iff, inR_iff]
    unfold hgt
    omega
  refine Evt.no (by simp) ?_
  refine for_evt' 0 4 (fun i (_ : Unit) => (c, lo, [f - 2, f - 1, f + m, f + m + 1], i, ())) (fun i _ => (0 < i → inR (hgt c lo (f - 2)) 0 63 = true) ∧ (1 < i → inR (hgt c lo (f - 1)) 0 63 = true) ∧ (2 < i → inR (hgt c lo (f + m)) 0 63 = true) ∧ (3 < i → inR (hgt c lo (f + m + 1)) 0 63 = true)) (b0 := ()) rfl (by omega) ⟨by omega, by omega, by omega, by omega⟩ ?_ ?_
  · intro i _ i0 i1 hp
    obtain ⟨s, s0, s1, hs, hbad, hgood⟩ : ∃ s : Int, -4000000 ≤ s ∧ s ≤ 4000000 ∧ idx [f - 2, f - 1, f + m, f + m + 1] i = some s ∧ (inR (hgt c lo s) 0 63 = false → (inR (hgt c lo (f - 2)) 0 63 && inR (hgt c lo (f - 1)) 0 63 && inR (hgt c lo (f + m)) 0 63 && inR (hgt c lo (f + m + 1)) 0 63) = false) ∧ (inR (hgt c lo s) 0 63 = true → (0 < i + 1 → inR (hgt c lo (f - 2)) 0 63 = true) ∧ (1 < i + 1 → inR (hgt c lo (f - 1)) 0 63 = true) ∧ (2 < i + 1 → inR (hgt c lo (f + m)) 0 63 = true) ∧ (3 < i + 1 → inR (hgt c lo (f + m + 1)) 0 63 = true)) := by
      rcases (show i = 0 ∨ i = 1 ∨ i = 2 ∨ i = 3 by omega) with e | e | e | e <;> subst e
      · exact ⟨f - 2, by omega, by omega, rfl, fun h => by rw [h]; rfl, fun h => ⟨fun _ => h, by omega, by omega, by omega⟩⟩
      · exact ⟨f - 1, by omega, by omega, rfl, fun h => by rw [h]; simp, fun h => ⟨fun _ => hp.1 (by omega), fun _ => h, by omega, by omega⟩⟩
      · exact ⟨f + m, by omega, by omega, rfl, fun h => by rw [h]; simp, fun h => ⟨fun _ => hp.1 (by omega), fun _ => hp.2.1 (by omega), fun _ => h, by omega⟩⟩
      · exact ⟨f + m + 1, by omega, by omega, rfl, fun h => by rw [h]; simp, fun h => ⟨fun _ => hp.1 (by omega), fun _ => hp.2.1 (by omega), fun _ => hp.2.2.1 (by omega), fun _ => h⟩⟩
    refine Round.yes (decide_eq_true (show i < ((4 : Nat) : Int) from i1)) (Round.at hs (Round.bind (e56' hr (by omega) (by omega) s0 s1) (Round.bind (e86 _ _ _) (Round.ite (fun h => ?_) (fun h => ?_)))))
    · have h : inR (hgt c lo s) 0 63 = false := by rw [one s s0 s1] at h; simpa using h
      rw [hbad h]
      exact Round.done (Evt.some _)
    · have h : inR (hgt c lo s) 0 63 = true := by rw [one s s0 s1] at h; simpa using h
      refine Round.again _ ⟨(), ?_, hgood h⟩
      rw [wrap_id (x := i + 1) (by omega) (by omega)]
  · intro _ hp
    rw [hp.1 (by omega), hp.2.1 (by omega), hp.2.2.1 (by omega), hp.2.2.2 (by omega)]
    exact Round.no (by simp) (Round.done (Evt.some _))
/- (*spec.l05Stretch).at -/
theorem e91 {c : List Int} (hr : Rng c) (h0 : 0 < (c.length : Int)) (h1 : (c.length : Int) ≤ 1000000) (f m lo b : Int) (l0 : 0 ≤ lo) (l1 : lo ≤ 9937) {s : Int} (s0 : -4000000 ≤ s) (s1 : s ≤ 4000000) : Evt (fun n => call T C n 91 ((c, (f, (m, (lo, (b, ()))))), s, ())) ((hgt c lo s, ()), ()) := by
  have b1 := hr.el _ (cAt_mem (by omega) s)
  refine Evt.next (Evt.bind (e56' hr h0 h1 s0 s1) ((Evt.some _).of_eq fun n => ?_)) (fun n => r91 n _ s)
  show some ((wr .i64 (cAt c s - lo), ()), ()) = _
  rw [wrap_id (x := cAt c s - lo) (by omega) (by omega)]
  rfl
/- (*spec.l05Stretch).first -/
theorem e109 {c : List Int} (hr : Rng c) {f m lo b : Int} (G : GoodS c f m lo b) : Evt (fun n => call T C n 109 ((c, (f, (m, (lo, (b, ()))))), ())) ((gR (fwd (qq c f m lo b) (px c f lo) (py c f lo) 0), ()), ()) := by
  have hl := G.len; have hf := G.hf; have hlo := G.hlo
  obtain ⟨ex, hx⟩ := G.px
  obtain ⟨ey, hy⟩ := G.py
  refine Evt.next (Evt.bind (e91 hr (by omega) (by omega) f m lo b (by omega) (by omega) (s := wr .i64 (f - 2)) (by rw [wrap_id (by omega) (by omega)]; omega) (by rw [wrap_id (by omega) (by omega)]; omega)) (Evt.bind (e91 hr (by omega) (by omega) f m lo b (by omega) (by omega) (s := wr .i64 (f - 1)) (by rw [wrap_id (by omega) (by omega)]; omega) (by rw [wrap_id (by omega) (by omega)]; omega)) ?_)) (fun n => r109 n _)
  rw [wrap_id (x := f - 2) (by omega) (by omega), wrap_id (x := f - 1) (by omega) (by omega), ex, ey]
  dsimp only
  rw [wrU (x := ((py c f lo : Nat) : Int)) (by omega) (by omega)]
  have key : (List.replicate 64 (0 : Int)).set (Int.toNat ((px c f lo : Nat) : Int)) (shl_ .u64 (1 : Int) ((py c f lo : Nat) : Int)) = gR (fwd (qq c f m lo b) (px c f lo) (py c f lo) 0) := by
    rw [Int.toNat_natCast, row_one hy, gR_zero, gR_set]
    exact gR_ext fun x y _ _ => by
      unfold fwd
      by_cases e : x = px c f lo <;> simp [e]
  rw [key]
  refine Evt.chk (decide_eq_true (by omega)) (Evt.chk (decide_eq_true ?_) (Evt.at (x := (0 : Int)) (by rw [Int.toNat_natCast, List.getElem?_replicate, if_pos hx]) (Evt.some _)))
  exact ⟨Int.natCast_nonneg _, Int.ofNat_lt.2 hx⟩
/- (*spec.l05Stretch).may -/
theorem e90 {c : List Int} (hr : Rng c) {f m lo b : Int} (G : GoodS c f m lo b) {x y k : Nat} (hx : x < 64) (hy : y < 64) (hk : (k : Int) ≤ m + 1) {ix : Int} (hix : ix = (k : Int) + 1) : Evt (fun n => call T C n 90 ((c, (f, (m, (lo, (b, ()))))), (x : Int), (y : Int), ix, ())) ((row (qq c f m lo b k x y), ()), ()) := by
  subst hix
  have hl := G.len; have hf := G.hf; have hlo := G.hlo; have hb := G.hb; have hm := G.hm
  refine Evt.next (Evt.bind (e104 _ _) (Evt.bind (e87 _ _) ?_)) (fun n => r90 n _ x y _)
  rw [wrap_id (x := 2 * (y : Int)) (by omega) (by omega), wrap_id (x := 2 * (y : Int) - x) (by omega) (by omega), wrap_id (x := 2 * (y : Int) - x - b) (by omega) (by omega), wrap_id (x := 2 * (y : Int) - x + b) (by omega) (by omega)]
  have fin : ∀ A B : Int, 0 ≤ A → B ≤ 63 → (∀ z : Nat, z < 64 → (A ≤ z ∧ (z : Int) ≤ B ↔ qq c f m lo b k x y z = true)) → Evt (fun n => if decide (A > B) = true then some (((0 : Int), ()), ()) else chk (decide (0 ≤ wr .u64 (wr .i64 (63 - B)))) (chk (decide (0 ≤ wr .u64 A)) (chk (decide (0 ≤ wr .u64 A)) (some ((shl_ .u64 (shr_ .u64 (shr_ .u64 (18446744073709551615 : Int) (wr .u64 (wr .i64 (63 - B)))) (wr .u64 A)) (wr .u64 A), ()), ()))))) ((row (qq c f m lo b k x y), ()), ()) := by
    intro A B hA hB hq
    refine Evt.ite (fun h => ?_) (fun h => ?_)
    · have h : A > B := of_decide_eq_true h
      rw [row_none fun z hz => by
        cases e : qq c f m lo b k x y z with
        | false => rfl
        | true => have := (hq z hz).2 e; omega]
      exact Evt.some _
    · have h : ¬ A > B := by simpa using h
      refine Evt.chk (decide_eq_true ?_) (Evt.chk (decide_eq_true ?_) (Evt.chk (decide_eq_true ?_) ((Evt.some _).of_eq fun n => ?_)))
      · rw [wrap_id (x := 63 - B) (by omega) (by omega), wrU (x := 63 - B) (by omega) (by omega)]; omega
      · rw [wrU (x := A) (by omega) (by omega)]; omega
      · rw [wrU (x := A) (by omega) (by omega)]; omega
      · rw [may_val hA hB h]
        have : row (fun z => decide (A ≤ z ∧ (z : Int) ≤ B)) = row (qq c f m lo b k x y) := row_congr fun z hz => by rw [Bool.eq_iff_iff, decide_eq_true_eq]; exact hq z hz
        rw [this]
  refine Evt.ite (fun h => ?_) (fun h => ?_)
  · have h : (k : Int) + 1 > m := of_decide_eq_true h
    have hw := G.fix (k := k) (by omega) hk
    rw [wrap_id (x := f + ((k : Int) + 1)) (by omega) (by omega), wrap_id (x := f + ((k : Int) + 1) - 1) (by omega) (by omega), show f + ((k : Int) + 1) - 1 = f + k by omega]
    refine Evt.bind (e91 hr (by omega) (by omega) f m lo b (by omega) (by omega) (by omega) (by omega)) (Evt.bind (e104 _ _) (Evt.bind (e87 _ _) ?_))
    dsimp only
    refine fin _ _ (by omega) (by omega) fun z hz => ?_
    unfold qq sp al
    rw [show decide ((k : Int) < m) = false from decide_eq_false (by omega)]
    simp only [Bool.false_or, Bool.and_eq_true, decide_eq_true_eq]
    omega
  · have h : ¬ (k : Int) + 1 > m := by simpa using h
    dsimp only
    refine fin _ _ (by omega) (by omega) fun z hz => ?_
    unfold qq sp al
    rw [show decide ((k : Int) < m) = true from decide_eq_true (by omega)]
    simp only [Bool.true_or, Bool.and_true, decide_eq_true_eq]
    omega
/- (*spec.l05Stretch).reach -/
theorem e77 {c : List Int} (hr : Rng c) {f m lo b : Int} (G : GoodS c f m lo b) : Evt (fun n => call T C n 77 ((c, (f, (m, (lo, (b, ()))))), ())) ((tb (m.toNat + 3) (fun i => gR (fwd (qq c f m lo b) (px c f lo) (py c f lo) i)), ()), ()) := by
  have hm := G.hm
  obtain ⟨F, hF⟩ : ∃ F, F = fwd (qq c f m lo b) (px c f lo) (py c f lo) := ⟨_, rfl⟩
  rw [← hF]
  refine Evt.next (Evt.bind (e109 hr G) ?_) (fun n => r77 n _)
  rw [← hF]
  have w0 : wr .i64 (m + 2) = m + 2 := wrap_id (by omega) (by omega)
  refine for_evt' 1 (m + 3) (fun i (_ : Unit) => ((c, (f, (m, (lo, (b, ()))))), tb i.toNat (fun i => gR (F i)), i, ())) (fun _ _ => True) (b0 := ()) (by show (_, [gR (F 0)], _) = _; simp [tb]) (by omega) trivial ?_ ?_
  · intro i _ i0 i1 _
    obtain ⟨k, rfl⟩ : ∃ k : Nat, i = ((k + 1 : Nat) : Int) := ⟨(i - 1).toNat, by omega⟩
    have hk : (k : Int) ≤ m + 1 := by omega
    have w1 : wr .i64 (((k + 1 : Nat) : Int) - 1) = (k : Int) := by rw [wrap_id (by omega) (by omega)]; omega
    have w2 : wr .i64 (((k + 1 : Nat) : Int) + 1) = ((k + 1 : Nat) : Int) + 1 := wrap_id (by omega) (by omega)
    rw [Int.toNat_natCast]
    dsimp only
    rw [w0, w1]
    refine Round.yes (decide_eq_true (by omega)) (Round.chk (decide_eq_true ⟨by omega, by rw [tb_len]; omega⟩) ?_)
    rw [Int.toNat_natCast]
    -- the pairs of the grid ahead, one by one
    have step1 : ∀ x y : Nat, x < 64 → y < 64 → F k x y = false → gR (fun y' z => (List.range 64).any fun x' => (decide (x' < x) || (x' == x && decide (y' < y))) && F k x' y' && qq c f m lo b k x' y' z) = gR (fun y' z => (List.range 64).any fun x' => (decide (x' < x) || (x' == x && decide (y' < y + 1))) && F k x' y' && qq c f m lo b k x' y' z) := by
      intro x y hx hy hf
      refine gR_ext fun y' z _ _ => ?_
      congr 1
      funext x'
      by_cases h1 : x' = x
      · subst h1
        by_cases h2 : y' = y
        · subst h2; simp [hf]
        · have : decide (y' < y) = decide (y' < y + 1) := by rw [decide_eq_decide]; omega
          rw [this]
      · have : (x' == x) = false := by simpa using h1
        rw [this]; rfl
    have step2 : ∀ x y : Nat, x < 64 → y < 64 → F k x y = true → (gR (fun y' z => (List.range 64).any fun x' => (decide (x' < x) || (x' == x && decide (y' < y))) && F k x' y' && qq c f m lo b k x' y' z)).set y (bitsI .or .u64 (row fun z => (List.range 64).any fun x' => (decide (x' < x) || (x' == x && decide (y < y))) && F k x' y && qq c f m lo b k x' y z) (row (qq c f m lo b k x y))) = gR (fun y' z => (List.range 64).any fun x' => (decide (x' < x) || (x' == x && decide (y' < y + 1))) && F k x' y' && qq c f m lo b k x' y' z) := by
      intro x y hx hy hf
      rw [row_or, gR_set]
      refine gR_ext fun y' z _ _ => ?_
      by_cases h2 : y' = y
      · subst h2
        rw [if_pos rfl, Bool.eq_iff_iff, Bool.or_eq_true, any64, any64]
        constructor
        · rintro (⟨x', hx', h⟩ | h)
          · refine ⟨x', hx', ?_⟩
            simp only [Bool.and_eq_true, Bool.or_eq_true, decide_eq_true_eq, beq_iff_eq] at h ⊢
            exact ⟨⟨by omega, h.1.2⟩, h.2⟩
          · exact ⟨x, hx, by simp [hf, h]⟩
        · rintro ⟨x', hx', h⟩
          simp only [Bool.and_eq_true, Bool.or_eq_true, decide_eq_true_eq, beq_iff_eq] at h
          by_cases h3 : x' = x
          · subst h3; exact .inr h.2
          · refine .inl ⟨x', hx', ?_⟩
            simp only [Bool.and_eq_true, Bool.or_eq_true, decide_eq_true_eq, beq_iff_eq]
            exact ⟨⟨by omega, h.1.2⟩, h.2⟩
      · rw [if_neg h2]
        congr 1
        funext x'
        have : decide (y' < y) = decide (y' < y + 1) := by rw [decide_eq_decide]; omega
        rw [this]
    refine for_round' 0 64 (fun x (_ : Unit) => ((c, (f, (m, (lo, (b, ()))))), tb (k + 1) (fun i => gR (F i)), ((k + 1 : Nat) : Int), gR (fun y' z => (List.range 64).any fun x' => (decide (x' < x.toNat) || (x' == x.toNat && decide (y' < 0))) && F k x' y' && qq c f m lo b k x' y' z), (k : Int), x, ())) (fun _ _ => True) (b0 := ()) ?_ (by omega) trivial ?_ ?_
    · rw [gR_zero, show gR (fun _ _ => false) = gR (fun y' z => (List.range 64).any fun x' => (decide (x' < (0 : Int).toNat) || (x' == (0 : Int).toNat && decide (y' < 0))) && F k x' y' && qq c f m lo b k x' y' z) from gR_ext fun y' z _ _ => by simp]
    · intro x _ x0 x1 _
      obtain ⟨x, rfl⟩ : ∃ x' : Nat, x = x' := ⟨x.toNat, by omega⟩
      have hx : x < 64 := by omega
      rw [Int.toNat_natCast]
      refine Round.yes (decide_eq_true x1) ?_
      dsimp only
      rw [Int.toNat_natCast]
      refine for_round' 0 64 (fun y (_ : Unit) => ((c, (f, (m, (lo, (b, ()))))), tb (k + 1) (fun i => gR (F i)), ((k + 1 : Nat) : Int), gR (fun y' z => (List.range 64).any fun x' => (decide (x' < x) || (x' == x && decide (y' < y.toNat))) && F k x' y' && qq c f m lo b k x' y' z), (k : Int), (x : Int), y, ())) (fun _ _ => True) (b0 := ()) rfl (by omega) trivial ?_ ?_
      · intro y _ y0 y1 _
        obtain ⟨y, rfl⟩ : ∃ y' : Nat, y = y' := ⟨y.toNat, by omega⟩
        have hy : y < 64 := by omega
        rw [Int.toNat_natCast]
        refine Round.yes (decide_eq_true y1) (Round.chk (decide_eq_true ⟨by omega, Int.ofNat_lt.2 hx⟩) (Round.at (v := gR (F k)) (by dsimp only; rw [Int.toNat_natCast]; exact tb_get (by omega)) (Round.at (v := row (F k x)) (by dsimp only; rw [Int.toNat_natCast]; exact gR_get _ hx) ?_)))
        dsimp only
        rw [Int.toNat_natCast, wrU (x := (y : Int)) (by omega) (by omega), row_bit _ hy, wrap_id (x := (y : Int) + 1) (by omega) (by omega)]
        refine Round.chk (decide_eq_true (by omega)) (Round.ite (fun h => ?_) (fun h => ?_))
        · refine Round.chk (decide_eq_true ⟨by omega, Int.ofNat_lt.2 hy⟩) (Round.at (gR_get _ hy) (Round.bind (e90 hr G hx hy hk (ix := ((k + 1 : Nat) : Int)) (by omega)) (Round.chk (decide_eq_true ⟨by omega, Int.ofNat_lt.2 hy⟩) (Round.at (gR_get _ hy) (Round.inr _ ⟨(), ?_, trivial⟩)))))
          try dsimp only
          rw [step2 x y hx hy h, show ((y : Int) + 1).toNat = y + 1 by omega]
        · have h : F k x y = false := by simpa using h
          refine Round.inr _ ⟨(), ?_, trivial⟩
          rw [step1 x y hx hy h, show ((y : Int) + 1).toNat = y + 1 by omega]
      · intro _ _
        refine Round.no (by simp) (Round.inl _ ⟨(), ?_, trivial⟩)
        dsimp only
        rw [Int.toNat_natCast, wrap_id (x := (x : Int) + 1) (by omega) (by omega)]
        have : gR (fun y' z => (List.range 64).any fun x' => (decide (x' < x) || (x' == x && decide (y' < (64 : Int).toNat))) && F k x' y' && qq c f m lo b k x' y' z) = gR (fun y' z => (List.range 64).any fun x' => (decide (x' < ((x : Int) + 1).toNat) || (x' == ((x : Int) + 1).toNat && decide (y' < 0))) && F k x' y' && qq c f m lo b k x' y' z) := by
          refine gR_ext fun y' z hy' _ => ?_
          congr 1
          funext x'
          congr 2
          rw [Bool.eq_iff_iff]
          simp
          omega
        rw [this]
    · intro _ _
      refine Round.no (by simp) (Round.chk (decide_eq_true ?_) (Round.again _ ⟨(), ?_, trivial⟩))
      · dsimp only
        rw [tb_len]
        simp only [List.length_cons, List.length_nil]
        omega
      · dsimp only
        have : gR (fun y' z => (List.range 64).any fun x' => (decide (x' < (64 : Int).toNat) || (x' == (64 : Int).toNat && decide (y' < 0))) && F k x' y' && qq c f m lo b k x' y' z) = gR (F (k + 1)) := by
          refine gR_ext fun y' z _ _ => ?_
          rw [hF]
          show _ = (List.range 64).any fun x => fwd (qq c f m lo b) (px c f lo) (py c f lo) k x y' && qq c f m lo b k x y' z
          rw [Bool.eq_iff_iff, any64, any64]
          constructor
          · rintro ⟨x', hx', h⟩
            exact ⟨x', hx', by simp only [Bool.and_eq_true] at h ⊢; exact ⟨h.1.2, h.2⟩⟩
          · rintro ⟨x', hx', h⟩
            exact ⟨x', hx', by simp only [Bool.and_eq_true, Bool.or_eq_true, decide_eq_true_eq] at h ⊢; exact ⟨⟨.inl hx', h.1⟩, h.2⟩⟩
        rw [this, tb_snoc, w2, show (((k + 1 : Nat) : Int) + 1).toNat = k + 1 + 1 by omega]
  · intro _ _
    dsimp only
    rw [w0, show (m + 3).toNat = m.toNat + 3 by omega]
    exact Round.no (by simp) (Round.done (Evt.some _))
/- spec.l05Least -/
theorem e45 {c : List Int} (hr : Rng c) {f m lo b : Int} (G : GoodS c f m lo b) : Evt (fun n => call T C n 45 (c, f, m, lo, ())) ((lbV c f m lo, ()), ()) := by
  have hm := G.hm
  obtain ⟨ex, hx⟩ := G.px
  obtain ⟨ey, hy⟩ := G.py
  refine Evt.next ?_ (fun n => r45 n c f m lo)
  refine loop_evt (fun x => ∃ l h : Int, 0 ≤ l ∧ l ≤ h ∧ h ≤ 128 ∧ x = (c, f, m, lo, l, h, ()) ∧ bs (fun b => cq c f m lo b) (h - l).toNat l h = lbV c f m lo) (fun x => (x.2.2.2.2.2.1 - x.2.2.2.2.1).toNat) ⟨0, 128, by omega, by omega, by omega, rfl, rfl⟩ ?_
  rintro x ⟨l, h, l0, lh, h1, rfl, hv⟩
  dsimp only
  by_cases hl : l < h
  · have hd : Int.tdiv (l + h) 2 = (l + h) / 2 := Int.tdiv_eq_ediv_of_nonneg (by omega)
    rw [wrap_id (x := l + h) (by omega) (by omega), hd, wrap_id (x := (l + h) / 2) (by omega) (by omega), wrap_id (x := m + 2) (by omega) (by omega), wrap_id (x := (l + h) / 2 + 1) (by omega) (by omega)]
    have G' := G.bound (b' := (l + h) / 2) (by omega) (by omega)
    refine Round.yes (decide_eq_true hl) (Round.chk rfl (Round.bind (e77 hr G') (Round.chk (decide_eq_true ⟨by omega, by dsimp only; rw [tb_len]; omega⟩) (Round.at (v := gR (fwd (qq c f m lo ((l + h) / 2)) (px c f lo) (py c f lo) (m.toNat + 2))) (by dsimp only; rw [show (m + 2).toNat = m.toNat + 2 by omega]; exact tb_get (by omega)) ?_))))
    have key : (!decide (gR (fwd (qq c f m lo ((l + h) / 2)) (px c f lo) (py c f lo) (m.toNat + 2)) = List.replicate 64 (0 : Int))) = cq c f m lo ((l + h) / 2) := by
      rw [Bool.eq_iff_iff, Bool.not_eq_true', decide_eq_false_iff_not, gR_ne_zero]
      unfold cq
      rw [← fwd_can hx hy (m.toNat + 2) (m.toNat + 2) (Nat.le_refl _)]
      rw [Nat.sub_self]
      constructor
      · intro hh
        apply Classical.byContradiction
        intro hn
        apply hh
        intro x y hx hy
        cases e : fwd (qq c f m lo ((l + h) / 2)) (px c f lo) (py c f lo) (m.toNat + 2) x y with
        | false => rfl
        | true => exact absurd ⟨x, y, hx, hy, e, rfl⟩ hn
      · rintro ⟨x, y, hx, hy, h1, _⟩ h2
        rw [h2 x y hx hy] at h1; cases h1
    rw [key]
    have hs : (h - l).toNat = ((h - l).toNat - 1) + 1 := by omega
    rw [hs] at hv
    unfold bs at hv
    rw [if_pos hl] at hv
    refine Round.ite (fun hc => ?_) (fun hc => ?_)
    · rw [if_pos hc] at hv
      exact Round.again _ ⟨⟨l, (l + h) / 2, by omega, by omega, by omega, rfl, by rw [← hv]; exact (bs_any _ (by omega)).symm⟩, by dsimp only; omega⟩
    · rw [if_neg hc] at hv
      exact Round.again _ ⟨⟨(l + h) / 2 + 1, h, by omega, by omega, by omega, rfl, by rw [← hv]; exact (bs_any _ (by omega)).symm⟩, by dsimp only; omega⟩
  · have : l = h := by omega
    subst this
    rw [Int.sub_self] at hv
    rw [← hv]
    exact Round.no (by simp) (Round.done (Evt.some _))
/- spec.LeastBound -/
theorem e9 {c : List Int} (hr : Rng c) (f m lo : Int) : Evt (fun n => call T C n 9 (c, f, m, lo, ())) (lbR c f m lo, ()) := by
  refine Evt.next (Evt.bind (e44 hr f m lo 0) ?_) (fun n => r9 n c f m lo)
  unfold lbR
  refine Evt.ite (fun h => ?_) (fun h => ?_)
  · rw [if_pos (by simpa using h)]; exact Evt.some _
  · have h : askP c f m lo 0 = 0 := by simpa using h
    rw [if_neg (by simp [h])]
    exact Evt.bind (e45 hr (goodS h)) (Evt.some _)
/- impl.FillWithin -/
theorem e14 {c : List Int} (hr : Rng c) (f m lo b : Int) : Evt (fun n => call T C n 14 (c, f, m, lo, b, ())) (fwR c f m lo b, ()) := by
  refine Evt.next (Evt.bind (e46 hr f m lo b) ?_) (fun n => r14 n c f m lo b)
  unfold fwR
  refine Evt.ite (fun h => ?_) (fun h => ?_)
  · rw [if_pos (by simpa using h)]; exact Evt.some _
  · have h : askP c f m lo b = 0 := by simpa using h
    rw [if_neg (by simp [h])]
    refine Evt.bind (e49 hr (goodS h)) ?_
    unfold fillR
    cases hc : cq c f m lo b with
    | false => exact Evt.yes rfl (Evt.some _)
    | true => exact Evt.no (by simp) (Evt.some _)
/- (*spec.l05Stretch).fill -/
theorem e48 {c : List Int} (hr : Rng c) {f m lo b : Int} (G : GoodS c f m lo b) : Evt (fun n => call T C n 48 ((c, (f, (m, (lo, (b, ()))))), ())) (fillR c f m lo b, ()) := by
  have hm := G.hm; have hb := G.hb; have hlo := G.hlo; have hl := G.len; have hf := G.hf
  obtain ⟨ex, hx0⟩ := G.px
  obtain ⟨ey, hy0⟩ := G.py
  obtain ⟨M, hM⟩ : ∃ M : Nat, (M : Int) = m := ⟨m.toNat, by omega⟩
  have hMm : m.toNat = M := by omega
  obtain ⟨q, hq⟩ : ∃ q, q = qq c f m lo b := ⟨_, rfl⟩
  obtain ⟨F, hF⟩ : ∃ F, F = fwd q (px c f lo) (py c f lo) := ⟨_, rfl⟩
  obtain ⟨tt, htt⟩ : ∃ tt : Nat → Nat → Nat → Bool, tt = fun j => can q (M + 2 - j) j := ⟨_, rfl⟩
  have tk : ∀ k x y : Nat, (k : Int) ≤ m + 1 → tt k x y = (List.range 64).any fun z => q k x y z && tt (k + 1) y z := by
    intro k x y hk
    rw [htt]
    show can q (M + 2 - k) k x y = _
    rw [show M + 2 - k = (M + 2 - (k + 1)) + 1 by omega]
    rfl
  have tl : ∀ x y, tt (M + 2) x y = true := by
    intro x y
    rw [htt]
    show can q (M + 2 - (M + 2)) (M + 2) x y = true
    rw [Nat.sub_self]; rfl
  have Fk : ∀ k x y z, x < 64 → F k x y = true → q k x y z = true → F (k + 1) y z = true := by
    intro k x y z hx h1 h2
    rw [hF] at h1 ⊢
    simp only [fwd]
    exact any64.2 ⟨x, hx, by simp [h1, h2]⟩
  refine Evt.next (Evt.bind (e77 hr G) ?_) (fun n => r48 n _)
  rw [hMm, ← hq, ← hF]
  dsimp only
  have w1 : wr .i64 (m + 1) = ((M + 1 : Nat) : Int) := by rw [wrap_id (by omega) (by omega)]; omega
  rw [w1]
  refine for_evt' 0 ((M + 2 : Nat) : Int) (fun i (_ : Unit) => ((c, (f, (m, (lo, (b, ()))))), tb (M + 3) (fun j => if M + 2 - i.toNat ≤ j then gR (fun x y => F j x y && tt j x y) else gR (F j)), ((M + 1 : Nat) : Int) - i, ())) (fun _ _ => True) (b0 := ()) ?_ (by omega) trivial ?_ ?_
  · rw [show tb (M + 3) (fun j => if M + 2 - (0 : Int).toNat ≤ j then gR (fun x y => F j x y && tt j x y) else gR (F j)) = tb (M + 3) (fun i => gR (F i)) from tb_ext fun j hj => by
      split
      · rename_i h
        have : j = M + 2 := by have : (0 : Int).toNat = 0 := rfl; omega
        subst this
        exact gR_ext fun x y _ _ => by rw [tl, Bool.and_true]
      · rfl, Int.sub_zero]
  · intro i _ i0 i1 _
    obtain ⟨k, hk⟩ : ∃ k : Nat, (k : Int) = ((M + 1 : Nat) : Int) - i := ⟨(((M + 1 : Nat) : Int) - i).toNat, by omega⟩
    have hk1 : (k : Int) ≤ m + 1 := by omega
    have hi : M + 2 - i.toNat = k + 1 := by omega
    have hi2 : M + 2 - (i + 1).toNat = k := by omega
    rw [hi, hi2, ← hk, show ((M + 1 : Nat) : Int) - (i + 1) = (k : Int) - 1 by omega]
    have w4 : wr .i64 ((k : Int) + 1) = ((k + 1 : Nat) : Int) := by rw [wrap_id (by omega) (by omega)]; omega
    have w5 : wr .i64 ((k : Int) - 1) = (k : Int) - 1 := wrap_id (by omega) (by omega)
    refine Round.yes (decide_eq_true (show (k : Int) ≥ 0 by omega)) ?_
    dsimp only
    refine for_round' 0 64 (fun x (_ : Unit) => ((c, (f, (m, (lo, (b, ()))))), tb (M + 3) (fun j => if k + 1 ≤ j then gR (fun x y => F j x y && tt j x y) else if j = k then pm (F k) (tt k) x.toNat 0 else gR (F j)), (k : Int), x, ())) (fun _ _ => True) (b0 := ()) ?_ (by omega) trivial ?_ ?_
    · rw [show tb (M + 3) (fun j => if k + 1 ≤ j then gR (fun x y => F j x y && tt j x y) else gR (F j)) = tb (M + 3) (fun j => if k + 1 ≤ j then gR (fun x y => F j x y && tt j x y) else if j = k then pm (F k) (tt k) (0 : Int).toNat 0 else gR (F j)) from tb_ext fun j _ => by
        split
        · rfl
        · split
          · rename_i h; subst h; exact (pm_zero _ _).symm
          · rfl]
    · intro x _ x0 x1 _
      obtain ⟨x, rfl⟩ : ∃ x' : Nat, x = x' := ⟨x.toNat, by omega⟩
      have hx : x < 64 := by omega
      rw [Int.toNat_natCast]
      refine Round.yes (decide_eq_true x1) ?_
      dsimp only
      refine for_round' 0 64 (fun y (_ : Unit) => ((c, (f, (m, (lo, (b, ()))))), tb (M + 3) (fun j => if k + 1 ≤ j then gR (fun x y => F j x y && tt j x y) else if j = k then pm (F k) (tt k) x y.toNat else gR (F j)), (k : Int), (x : Int), y, ())) (fun _ _ => True) (b0 := ()) rfl (by omega) trivial ?_ ?_
      · intro y _ y0 y1 _
        obtain ⟨y, rfl⟩ : ∃ y' : Nat, y = y' := ⟨y.toNat, by omega⟩
        have hy : y < 64 := by omega
        rw [Int.toNat_natCast]
        have hat : (tb (M + 3) (fun j => if k + 1 ≤ j then gR (fun x y => F j x y && tt j x y) else if j = k then pm (F k) (tt k) x y else gR (F j)))[(Int.toNat (k : Int))]? = some (pm (F k) (tt k) x y) := by
          rw [Int.toNat_natCast, tb_get (by omega), if_neg (by omega), if_pos rfl]
        have hat2 : (tb (M + 3) (fun j => if k + 1 ≤ j then gR (fun x y => F j x y && tt j x y) else if j = k then pm (F k) (tt k) x y else gR (F j)))[(Int.toNat ((k + 1 : Nat) : Int))]? = some (gR (fun x y => F (k + 1) x y && tt (k + 1) x y)) := by
          rw [Int.toNat_natCast, tb_get (by omega), if_pos (Nat.le_refl _)]
        dsimp only
        rw [w4, tb_len, hat, hat2, wrU (x := (y : Int)) (by omega) (by omega), wrap_id (x := (y : Int) + 1) (by omega) (by omega)]
        refine Round.yes (decide_eq_true y1) (Round.chk (decide_eq_true (by omega)) (Round.chk (decide_eq_true ⟨by omega, by omega⟩) (Round.chk (decide_eq_true ⟨by omega, Int.ofNat_lt.2 hx⟩) (Round.at rfl (Round.at (pm_get _ _ hx) ?_)))))
        rw [row_has _ hy, show (F k x y && (!decide (y < y) || tt k x y)) = F k x y by simp]
        have again : ∀ g, g = pm (F k) (tt k) x (y + 1) → (tb (M + 3) (fun j => if k + 1 ≤ j then gR (fun x y => F j x y && tt j x y) else if j = k then pm (F k) (tt k) x y else gR (F j))).set k g = tb (M + 3) (fun j => if k + 1 ≤ j then gR (fun x y => F j x y && tt j x y) else if j = k then pm (F k) (tt k) x ((y : Int) + 1).toNat else gR (F j)) := by
          intro g hg
          rw [hg, tb_set, show ((y : Int) + 1).toNat = y + 1 by omega]
          refine tb_ext fun j _ => ?_
          by_cases e : j = k
          · subst e; rw [if_pos rfl, if_neg (by omega), if_pos rfl]
          · rw [if_neg e, if_neg e, if_neg e]
        have skip : (F k x y = false ∨ tt k x y = true) → tb (M + 3) (fun j => if k + 1 ≤ j then gR (fun x y => F j x y && tt j x y) else if j = k then pm (F k) (tt k) x y else gR (F j)) = tb (M + 3) (fun j => if k + 1 ≤ j then gR (fun x y => F j x y && tt j x y) else if j = k then pm (F k) (tt k) x ((y : Int) + 1).toNat else gR (F j)) := by
          intro hs
          rw [pm_skip hs, show ((y : Int) + 1).toNat = y + 1 by omega]
        refine Round.ite (fun hc => ?_) (fun hc => ?_)
        · refine Round.bind (e90 hr G hx hy hk1 (ix := ((k + 1 : Nat) : Int)) (by omega)) (Round.chk (decide_eq_true ⟨by omega, by omega⟩) (Round.chk (decide_eq_true ⟨by omega, Int.ofNat_lt.2 hy⟩) (Round.at rfl (Round.at (gR_get _ hy) ?_))))
          dsimp only
          have key : (bitsI .and .u64 (row (qq c f m lo b k x y)) (row fun z => F (k + 1) y z && tt (k + 1) y z) == (0 : Int)) = !tt k x y := by
            have h1 := row_ne fun z => qq c f m lo b k x y z && (F (k + 1) y z && tt (k + 1) y z)
            rw [row_and]
            have h2 : ∀ v : Int, (v == 0) = !(v != 0) := fun v => by simp [bne]
            have h3 : ((List.range 64).any fun z => qq c f m lo b k x y z && (F (k + 1) y z && tt (k + 1) y z)) = tt k x y := by
              rw [tk k x y hk1, ← hq, Bool.eq_iff_iff, any64, any64]
              constructor
              · rintro ⟨z, hz, h⟩
                simp only [Bool.and_eq_true] at h
                exact ⟨z, hz, by rw [h.1, h.2.2]; rfl⟩
              · rintro ⟨z, hz, h⟩
                simp only [Bool.and_eq_true] at h
                exact ⟨z, hz, by rw [h.1, h.2, Fk k x y z hx hc h.1]; rfl⟩
            rw [h2, h1, h3]
          rw [key]
          refine Round.ite (fun hd => ?_) (fun hd => ?_)
          · have hd : tt k x y = false := by simpa using hd
            refine Round.chk (decide_eq_true ⟨by omega, by omega⟩) (Round.chk (decide_eq_true ⟨by omega, Int.ofNat_lt.2 hx⟩) (Round.at rfl (Round.at (pm_get _ _ hx) (Round.chk (decide_eq_true ⟨by omega, by omega⟩) (Round.chk (decide_eq_true ⟨by omega, Int.ofNat_lt.2 hx⟩) (Round.at rfl (Round.at (pm_get _ _ hx) (Round.inr _ ⟨(), ?_, trivial⟩))))))))
            rw [show (Int.toNat (k : Int)) = k from rfl, show (Int.toNat (x : Int)) = x from rfl, again _ (pm_cut hy hc hd)]
          · have hd : tt k x y = true := by simpa using hd
            refine Round.inr _ ⟨(), ?_, trivial⟩
            rw [← skip (.inr hd)]
        · have hc : F k x y = false := by simpa using hc
          refine Round.inr _ ⟨(), ?_, trivial⟩
          rw [← skip (.inl hc)]
      · intro _ _
        refine Round.no (by simp) (Round.inl _ ⟨(), ?_, trivial⟩)
        dsimp only
        rw [wrap_id (x := (x : Int) + 1) (by omega) (by omega), show (64 : Int).toNat = 64 from rfl, pm_next, show ((x : Int) + 1).toNat = x + 1 by omega]
    · intro _ _
      refine Round.no (by simp) (Round.again _ ⟨(), ?_, trivial⟩)
      dsimp only
      rw [w5, show (64 : Int).toNat = 64 from rfl, pm_full]
      rw [show tb (M + 3) (fun j => if k + 1 ≤ j then gR (fun x y => F j x y && tt j x y) else if j = k then gR (fun x y => F k x y && tt k x y) else gR (F j)) = tb (M + 3) (fun j => if k ≤ j then gR (fun x y => F j x y && tt j x y) else gR (F j)) from tb_ext fun j _ => by
        by_cases e : j = k
        · subst e; rw [if_neg (by omega), if_pos rfl, if_pos (Nat.le_refl _)]
        · by_cases e2 : k ≤ j
          · rw [if_pos (by omega), if_pos e2]
          · rw [if_neg (by omega), if_neg e, if_neg e2]]
  · intro _ _
    refine Round.no (by simp <;> omega) (Round.done ?_)
    dsimp only
    rw [show tb (M + 3) (fun j => if M + 2 - ((M + 2 : Nat) : Int).toNat ≤ j then gR (fun x y => F j x y && tt j x y) else gR (F j)) = tb (M + 3) (fun j => gR (fun x y => F j x y && tt j x y)) from tb_ext fun j _ => if_pos (by rw [Int.toNat_natCast]; omega)]
    rw [wrap_id (x := f - 2) (by omega) (by omega), wrap_id (x := f - 1) (by omega) (by omega), tb_len]
    refine Evt.bind (e91 hr (by omega) (by omega) f m lo b (by omega) (by omega) (by omega) (by omega)) (Evt.bind (e91 hr (by omega) (by omega) f m lo b (by omega) (by omega) (by omega) (by omega)) ?_)
    rw [ex, ey]
    dsimp only
    refine Evt.chk (decide_eq_true ⟨by omega, by omega⟩) (Evt.chk (decide_eq_true ⟨Int.natCast_nonneg _, Int.ofNat_lt.2 hx0⟩) (Evt.at (x := gR fun x y => F 0 x y && tt 0 x y) (tb_get (i := 0) (by omega)) (Evt.at (x := row fun y => F 0 (px c f lo) y && tt 0 (px c f lo) y) (gR_get _ hx0) ?_)))
    rw [wrU (x := ((py c f lo : Nat) : Int)) (by omega) (by omega)]
    refine Evt.chk (decide_eq_true (by omega)) ?_
    have h00 : F 0 (px c f lo) (py c f lo) = true := by rw [hF]; simp [fwd]
    have hcq : cq c f m lo b = tt 0 (px c f lo) (py c f lo) := by unfold cq; rw [hMm, htt, ← hq]; rfl
    have key0 : (bitsI .and .u64 (shr_ .u64 (row fun y => F 0 (px c f lo) y && tt 0 (px c f lo) y) ((py c f lo : Nat) : Int)) (1 : Int) == (0 : Int)) = !tt 0 (px c f lo) (py c f lo) := by
      have h1 := row_bit (fun y => F 0 (px c f lo) y && tt 0 (px c f lo) y) hy0
      rw [h00, Bool.true_and] at h1
      rw [← h1]
      have h2 : bitsI .and .u64 (shr_ .u64 (row fun y => F 0 (px c f lo) y && tt 0 (px c f lo) y) ((py c f lo : Nat) : Int)) (1 : Int) = 0 ∨ bitsI .and .u64 (shr_ .u64 (row fun y => F 0 (px c f lo) y && tt 0 (px c f lo) y) ((py c f lo : Nat) : Int)) (1 : Int) = 1 := bit_or _ hy0
      rcases h2 with h2 | h2 <;> rw [h2] <;> rfl
    rw [key0]
    unfold fillR
    rw [hcq]
    refine Evt.ite (fun h => ?_) (fun h => ?_)
    · rw [if_neg (by simpa using h)]; exact Evt.some _
    have h : tt 0 (px c f lo) (py c f lo) = true := by simpa using h
    rw [if_pos h]
    have hfil : filP c f m lo b = fil q lo (M + 2) M 0 (px c f lo) (py c f lo) := by unfold filP; rw [hMm, hq]
    rw [hfil]
    refine for_evt' 0 m (fun k (s : Nat × Nat × List Int) => ((c, (f, (m, (lo, (b, ()))))), tb (M + 3) (fun j => gR (fun x y => F j x y && tt j x y)), (s.1 : Int), (s.2.1 : Int), s.2.2, k + 1, ())) (fun k s => s.1 < 64 ∧ s.2.1 < 64 ∧ F k.toNat s.1 s.2.1 = true ∧ tt k.toNat s.1 s.2.1 = true ∧ s.2.2.length = k.toNat ∧ s.2.2 ++ fil q lo (M + 2) (M - k.toNat) k.toNat s.1 s.2.1 = fil q lo (M + 2) M 0 (px c f lo) (py c f lo)) (b0 := (px c f lo, py c f lo, [])) rfl (by omega) ⟨hx0, hy0, h00, h, rfl, rfl⟩ ?_ ?_
    · rintro k ⟨x, y, out⟩ k0 k1 ⟨hx, hy, hFk, ht, hlen, hfil⟩
      obtain ⟨k, rfl⟩ : ∃ k' : Nat, k = k' := ⟨k.toNat, by omega⟩
      dsimp only at hx hy hFk ht hlen hfil ⊢
      rw [Int.toNat_natCast] at hFk ht hlen hfil
      rw [tk k x y (by omega)] at ht
      obtain ⟨z1, z2, z3⟩ := fstZ_some ht
      obtain ⟨z, hzz⟩ : ∃ z, z = fstZ fun z => q k x y z && tt (k + 1) y z := ⟨_, rfl⟩
      rw [← hzz] at z1 z2 z3
      have z2' := z2
      simp only [Bool.and_eq_true] at z2'
      rw [tb_len, show (k : Int) + 1 = ((k + 1 : Nat) : Int) by omega]
      refine Round.yes (decide_eq_true (by omega)) (Round.bind (e90 hr G hx hy (k := k) (by omega) (ix := ((k + 1 : Nat) : Int)) (by omega)) (Round.chk (decide_eq_true ⟨by omega, by omega⟩) (Round.chk (decide_eq_true ⟨by omega, Int.ofNat_lt.2 hy⟩) (Round.at (v := gR (fun x y => F (k + 1) x y && tt (k + 1) x y)) (by rw [Int.toNat_natCast]; exact tb_get (by omega)) (Round.at (v := row fun z => F (k + 1) y z && tt (k + 1) y z) (gR_get _ hy) ?_)))))
      dsimp only
      have hrow : bitsI .and .u64 (row (qq c f m lo b k x y)) (row fun z => F (k + 1) y z && tt (k + 1) y z) = row fun z => q k x y z && tt (k + 1) y z := by
        rw [row_and, ← hq]
        refine row_congr fun z hz => ?_
        cases e : q k x y z with
        | false => rfl
        | true => rw [Fk k x y z hx hFk e]; simp
      rw [hrow]
      have hbit : ∀ w : Nat, w < 64 → (bitsI .and .u64 (shr_ .u64 (row fun z => q k x y z && tt (k + 1) y z) (w : Int)) (1 : Int) == (0 : Int)) = !(q k x y w && tt (k + 1) y w) := by
        intro w hw
        have h1 := row_bit (fun z => q k x y z && tt (k + 1) y z) hw
        rw [← h1]
        rcases bit_or (fun z => q k x y z && tt (k + 1) y z) hw with h2 | h2 <;> rw [h2] <;> rfl
      refine for_round' 0 (z : Int) (fun w (_ : Unit) => ((c, (f, (m, (lo, (b, ()))))), tb (M + 3) (fun j => gR (fun x y => F j x y && tt j x y)), (y : Int), out, ((k + 1 : Nat) : Int), (row fun z => q k x y z && tt (k + 1) y z), w, ())) (fun _ _ => True) (b0 := ()) rfl (by omega) trivial ?_ ?_
      · intro w _ w0 w1 _
        obtain ⟨w, rfl⟩ : ∃ w' : Nat, w = w' := ⟨w.toNat, by omega⟩
        dsimp only
        rw [wrU (x := (w : Int)) (by omega) (by omega), hbit w (by omega), z3 w (by omega), wrap_id (x := (w : Int) + 1) (by omega) (by omega)]
        exact Round.chk (decide_eq_true (by omega)) (Round.yes rfl (Round.inr _ ⟨(), rfl, trivial⟩))
      · intro _ _
        dsimp only
        rw [wrU (x := (z : Int)) (by omega) (by omega), hbit z z1, z2, wrap_id (x := (z : Int) + lo) (by omega) (by omega), wrap_id (x := ((k + 1 : Nat) : Int) + 1) (by omega) (by omega)]
        refine Round.chk (decide_eq_true (by omega)) (Round.no (by simp) (Round.chk (decide_eq_true (by simp; omega)) (Round.inl _ ⟨(y, z, out ++ [lo + (z : Int)]), ?_, hy, z1, ?_, ?_, ?_, ?_⟩)))
        · dsimp only
          rw [Int.add_comm (z : Int) lo]
        · dsimp only; rw [Int.toNat_natCast]; exact Fk k x y z hx hFk z2'.1
        · dsimp only; rw [Int.toNat_natCast]; exact z2'.2
        · dsimp only; rw [List.length_append, hlen, Int.toNat_natCast]; rfl
        · dsimp only
          rw [← hfil, Int.toNat_natCast, show M - k = (M - (k + 1)) + 1 by omega, List.append_assoc]
          congr 1
          have : (fstZ fun z => q k x y z && can q (M + 2 - (k + 1)) (k + 1) y z) = z := by rw [hzz, htt]
          show _ = (lo + (fstZ fun z => q k x y z && can q (M + 2 - (k + 1)) (k + 1) y z : Nat)) :: fil q lo (M + 2) (M - (k + 1)) (k + 1) y (fstZ fun z => q k x y z && can q (M + 2 - (k + 1)) (k + 1) y z)
          rw [this]
          rfl
    · rintro ⟨x, y, out⟩ ⟨hx, hy, hFk, ht, hlen, hfil⟩
      dsimp only at hfil ⊢
      rw [hMm, Nat.sub_self] at hfil
      rw [show ∀ k, fil q lo (M + 2) 0 k x y = [] from fun _ => rfl, List.append_nil] at hfil
      rw [hfil]
      exact Round.no (by simp <;> omega) (Round.done (Evt.some _))
/- spec.FillWithin -/
theorem e13 {c : List Int} (hr : Rng c) (f m lo b : Int) : Evt (fun n => call T C n 13 (c, f, m, lo, b, ())) (fwR c f m lo b, ()) := by
  refine Evt.next (Evt.bind (e44 hr f m lo b) ?_) (fun n => r13 n c f m lo b)
  unfold fwR
  refine Evt.ite (fun h => ?_) (fun h => ?_)
  · rw [if_pos (by simpa using h)]; exact Evt.some _
  · have h : askP c f m lo b = 0 := by simpa using h
    rw [if_neg (by simp [h])]
    refine Evt.bind (e48 hr (goodS h)) ?_
    unfold fillR
    cases hc : cq c f m lo b with
    | false => exact Evt.yes rfl (Evt.some _)
    | true => exact Evt.no (by simp) (Evt.some _)
/- impl.putCode$1 -/
theorem e108 (v : Int) : Evt (fun n => call T C n 108 (v, ())) ((!inR v 0 10000, ()), ()) := Evt.next (Evt.bind (e100 v) (Evt.some _)) (fun n => r108 n v)
/- slices.IndexFunc[[]int64,int64]{impl.putCode$1} -/
theorem e121 (l : List Int)  (hl' : (l.length : Int) ≤ 1000000) : Evt (fun n => call T C n 121 (l, ((), ()), ())) ((fi (fun v => !inR v 0 10000) l 0, ()), ()) := by
  have hl : (l.length : Int) ≤ 140737488351232 := by omega
  refine Evt.next ?_ (fun n => r121 n l ((), ()))
  refine for_evt' 0 (l.length : Int) (fun i (_ : Unit) => (l, ((), ()), (l.length : Int), i, ())) (fun i _ => fi (fun v => !inR v 0 10000) l 0 = fi (fun v => !inR v 0 10000) (l.drop i.toNat) i) (b0 := ()) rfl (by omega) (by simp) ?_ ?_
  · intro i _ h2 h3 hp
    obtain ⟨v, hv⟩ := at_of h2 h3
    rw [hv.drop] at hp
    simp only [fi] at hp
    refine Round.yes (decide_eq_true h3) (Round.at hv.idx (Round.bind (e108 v) ?_))
    cases hb : !inR v 0 10000 with
    | true =>
      simp only [hb, if_true] at hp
      rw [hp]
      exact Round.yes rfl (Round.done (Evt.some _))
    | false =>
      simp only [hb, Bool.false_eq_true, if_false] at hp
      exact Round.no (by simp) (Round.again _ ⟨(), by rw [wr_succ h2 h3 (by omega)], hp⟩)
  · intro _ hp
    rw [drop_all] at hp
    rw [hp]
    exact Round.no (by simp) (Round.done (Evt.some _))
/- slices.ContainsFunc[[]int64,int64]{impl.putCode$1} -/
theorem e107 (l : List Int)  (hl' : (l.length : Int) ≤ 1000000) : Evt (fun n => call T C n 107 (l, ((), ()), ())) ((l.any (fun v => !inR v 0 10000), ()), ()) := by
  refine Evt.next (Evt.bind (e121 l  hl') ((Evt.some _).of_eq fun n => ?_)) (fun n => r107 n l ((), ()))
  simp only [fi_any _ l 0 (Int.le_refl _)]
  rfl
/- impl.putCode -/
theorem e69 {c : List Int} (hr : Rng c) (ok : okC c = true) {f : Int} (f0 : 0 ≤ f) (f1 : f < (c.length : Int)) {l : List Int} (l0 : 1 ≤ l.length) (l1 : l.length ≤ 40) (l2 : (l.length : Int) ≤ c.length - 4) (he : ∀ v ∈ l, 0 ≤ v ∧ v ≤ 10000) {b : Int} (b0 : 0 ≤ b) (b1 : b ≤ 40000) : Evt (fun n => call T C n 69 (c, f, l, b, ())) ((0, ()), ()) := by
  have hl := okC_len ok
  have hv := e59 c (by omega)
  rw [ok] at hv
  have hc1 := e58 (!true) 1
  have hc2 := e58 (bif false then true else (!true)) 2
  have hc3 := e58 false 3
  have hp := e88 f (c.length : Int)
  rw [wrap_id (x := (c.length : Int) - 1) (by omega) (by omega), show inR f 0 ((c.length : Int) - 1) = true from inR_iff.2 ⟨f0, by omega⟩] at hp
  have e4 : wr .i64 ((c.length : Int) - 4) = (c.length : Int) - 4 := wrap_id (by omega) (by omega)
  have hi := e60 (l.length : Int) 1 (if (c.length : Int) - 4 < 40 then (c.length : Int) - 4 else 40)
  rw [show inR (l.length : Int) 1 (if (c.length : Int) - 4 < 40 then (c.length : Int) - 4 else 40) = true from inR_iff.2 ⟨by omega, by split <;> omega⟩] at hi
  have hb := e60 b 0 40000
  rw [show inR b 0 40000 = true from inR_iff.2 ⟨b0, b1⟩] at hb
  have ha := e107 l (by omega)
  rw [show (l.any fun v => !inR v 0 10000) = false from List.any_eq_false.2 fun v hv => by simp [inR_iff.2 (he v hv)]] at ha
  refine Evt.next ?_ (fun n => r69 n c f l b)
  refine Evt.bind hv (Evt.bind hc1 (Evt.bind hp (Evt.no (by simp) (Evt.bind (e62 c) ?_))))
  simp only [e4]
  refine Evt.bind hi (Evt.no (by simp) (Evt.bind hb (Evt.bind hc2 (Evt.bind ha (Evt.bind hc3 (Evt.bind (e57 _ (by simp)) ((Evt.some _).of_eq fun n => ?_)))))))
  rfl
/- slices.Clone[impl.Cam,int16] -/
theorem e61 (l : List Int) (h0 : l.length ≠ 0) (hl : (l.length : Int) ≤ 1000000) : Evt (fun n => call T C n 61 (l, ())) ((l, ()), ()) :=
  Evt.next (Evt.yes (decide_eq_true h0) (Evt.chk (by simp; omega) (Evt.some _))) (fun n => r61 n l)
/- (impl.Cam).with -/
theorem e51 {c : List Int} (hr : Rng c) (h0 : 0 < c.length) (h1 : c.length ≤ 1000000) {f : Int} (f0 : 0 ≤ f) (f1 : f ≤ 1000000) (l : List Int) (hl : (l.length : Int) ≤ 1000000) : Evt (fun n => call T C n 51 (c, f, l, ())) ((putP c f l, ()), ()) := by
  refine Evt.next (Evt.bind (e61 c (by omega) (by omega)) ?_) (fun n => r51 n c f l)
  refine for_evt' 0 (l.length : Int) (fun i (_ : Unit) => (c, f, putP c f (l.take i.toNat), l, (l.length : Int), i, ())) (fun _ _ => True) (b0 := ()) (by simp [putP]) (by omega) trivial ?_ ?_
  · intro i _ i0 i1 _
    obtain ⟨v, hv⟩ := at_of (l := l) i0 i1
    have e0 := Int.emod_nonneg (f + i) (show (c.length : Int) ≠ 0 by omega)
    have e1 := Int.emod_lt_of_pos (f + i) (show 0 < (c.length : Int) by omega)
    have hlen := putP_len (l.take i.toNat) c f
    dsimp only
    rw [hlen, wrap_id (x := f + i) (by omega) (by omega), wrap_id (x := i + 1) (by omega) (by omega)]
    obtain ⟨u, hu⟩ := get_of_lt (b := putP c f (l.take i.toNat)) e0 (by rw [hlen]; exact e1)
    refine Round.yes (decide_eq_true i1) (Round.at hv.idx (Round.bind (e62 c) (Round.bind (e65 (a := f + i) (b := (c.length : Int)) (by omega) (by omega) (by omega) (by omega)) (Round.chk (decide_eq_true ⟨e0, e1⟩) (Round.at hu (Round.again _ ⟨(), ?_, trivial⟩))))))
    dsimp only
    rw [hv.take, putP_snoc]
    have : ((l.take i.toNat).length : Int) = i := by rw [List.length_take]; omega
    rw [this]
  · intro _ _
    dsimp only
    rw [take_all]
    exact Round.no (by simp) (Round.done (Evt.some _))
/- (impl.Cam).change -/
theorem e101 {c : List Int} (hr : Rng c) (h0 : 0 < c.length) (h1 : c.length ≤ 1000) {x : Int} (x0 : -1000000 ≤ x) (x1 : x ≤ 1000000) : Evt (fun n => call T C n 101 (c, x, ())) ((cAt c (x + 1) - cAt c x, ()), ()) := by
  have b1 := hr.el _ (cAt_mem h0 (x + 1))
  have b2 := hr.el _ (cAt_mem h0 x)
  refine Evt.next ?_ (fun n => r101 n c x)
  rw [wrap_id (x := x + 1) (by omega) (by omega)]
  refine Evt.bind (e118 hr (by omega) (by omega) (by omega) (by omega)) (Evt.bind (e118 hr (by omega) (by omega) (by omega) (by omega)) ((Evt.some _).of_eq fun n => ?_))
  show some ((wr .i64 (cAt c (x + 1) - cAt c x), ()), ()) = _
  rw [wrap_id (x := cAt c (x + 1) - cAt c x) (by omega) (by omega)]
  rfl
/- (impl.Cam).bend -/
theorem e64 {c : List Int} (hr : Rng c) (h0 : 0 < c.length) (h1 : c.length ≤ 1000) {x : Int} (x0 : -100000 ≤ x) (x1 : x ≤ 100000) : Evt (fun n => call T C n 64 (c, x, ())) ((bendP c x, ()), ()) := by
  have b1 := hr.el _ (cAt_mem h0 (x + 1))
  have b2 := hr.el _ (cAt_mem h0 x)
  have b3 := hr.el _ (cAt_mem h0 (x - 1))
  refine Evt.next ?_ (fun n => r64 n c x)
  rw [wrap_id (x := x - 1) (by omega) (by omega)]
  refine Evt.bind (e101 hr h0 h1 (by omega) (by omega)) (Evt.bind (e101 hr h0 h1 (by omega) (by omega)) ((Evt.some _).of_eq fun n => ?_))
  show some ((wr .i64 (cAt c (x + 1) - cAt c x - (cAt c (x - 1 + 1) - cAt c (x - 1))), ()), ()) = _
  rw [show x - 1 + 1 = x by omega, wrap_id (by omega) (by omega), show cAt c (x + 1) - cAt c x - (cAt c x - cAt c (x - 1)) = bendP c x by unfold bendP; omega]
  rfl
/- impl.abs -/
theorem e63 {a : Int} (h1 : -1000000000000 ≤ a) (h2 : a ≤ 1000000000000) : Evt (fun n => call T C n 63 (a, ())) ((siz a, ()), ()) := by
  refine Evt.next ((Evt.some _).of_eq fun n => ?_) (fun n => r63 n a)
  rw [wrap_id (x := 0 - a) (by omega) (by omega)]
  unfold siz
  have : (if 0 - a > a then 0 - a else a) = if a < 0 then -a else a := by split <;> split <;> omega
  rw [this]
  rfl
/- impl.CheckFill -/
theorem e27 {c : List Int} (hr : Rng c) (ok : okC c = true) {f : Int} (f0 : 0 ≤ f) (f1 : f < (c.length : Int)) {l : List Int} (l0 : 1 ≤ l.length) (l1 : l.length ≤ 40) (l2 : (l.length : Int) ≤ c.length - 4) (he : ∀ v ∈ l, 0 ≤ v ∧ v ≤ 10000) {b : Int} (b0 : 0 ≤ b) (b1 : b ≤ 40000) (hb : ∀ x, f - 1 ≤ x → x ≤ f + (l.length : Int) → siz (bendP (putP c f l) x) ≤ b) : Evt (fun n => call T C n 27 (c, f, l, b, ())) ((true, 0, ()), ()) := by
  have hl := okC_len ok
  have hC := okC_el ok hr
  have lP := putP_len l c f
  have hPe : ∀ v ∈ putP c f l, 0 ≤ v ∧ v ≤ 10000 := putP_all (Q := fun v => 0 ≤ v ∧ v ≤ 10000) l c f hC fun v hv => by have := he v hv; rw [wrap16 (by omega) (by omega)]; exact this
  have hPr : Rng (putP c f l) := putP_rng hr f l
  refine Evt.next (Evt.bind (e69 hr ok f0 f1 l0 l1 l2 he b0 b1) (Evt.no (by simp) (Evt.bind (e51 hr (by omega) (by omega) f0 (by omega) l (by omega)) ?_))) (fun n => r27 n c f l b)
  refine for_evt' (f - 1) (f + (l.length : Int) + 1) (fun i (_ : Unit) => (f, l, b, putP c f l, i, ())) (fun _ _ => True) (b0 := ()) (by rw [wrap_id (x := f - 1) (by omega) (by omega)]) (by omega) trivial ?_ ?_
  · intro i _ h2 h3 _
    have hbd := hb i h2 (by omega)
    have hA := hPe _ (cAt_mem (by omega) (i + 1))
    have hB := hPe _ (cAt_mem (by omega) i)
    have hD := hPe _ (cAt_mem (by omega) (i - 1))
    have hS := e63 (a := bendP (putP c f l) i) (by unfold bendP; omega) (by unfold bendP; omega)
    refine Round.yes (decide_eq_true (by show i ≤ wr .i64 (f + (l.length : Int)); rw [wrap_id (by omega) (by omega)]; omega)) (Round.bind (e64 hPr (by omega) (by omega) (x := i) (by omega) (by omega)) (Round.bind hS (Round.no (by simp; omega) (Round.again _ ⟨(), ?_, trivial⟩))))
    rw [wrap_id (x := i + 1) (by omega) (by omega)]
  · intro _ _
    refine Round.no ?_ (Round.done (Evt.some _))
    show ¬ decide (f + (l.length : Int) + 1 ≤ wr .i64 (f + (l.length : Int))) = true
    rw [wrap_id (by omega) (by omega)]
    simp
    omega
/- spec.l00Same -/
theorem e70 (l : List Int) (hl : (l.length : Int) ≤ 1000000) : Evt (fun n => call T C n 70 (l, l, ())) ((true, ()), ()) := by
  refine Evt.next (Evt.no (by simp) ?_) (fun n => r70 n l l)
  refine for_evt' 0 (l.length : Int) (fun i (_ : Unit) => (l, l, i, ())) (fun _ _ => True) (b0 := ()) rfl (by omega) trivial ?_ ?_
  · intro i _ h2 h3 _
    obtain ⟨v, hv⟩ := at_of h2 h3
    exact Round.yes (decide_eq_true h3) (Round.at hv.idx (Round.at hv.idx (Round.no (by simp) (Round.again _ ⟨(), by rw [wr_succ h2 h3 (by omega)], trivial⟩))))
  · intro _ _
    exact Round.no (by simp) (Round.done (Evt.some _))
/- spec.SameNumbers -/
theorem e28 (l : List Int) (hl : (l.length : Int) ≤ 1000000) : Evt (fun n => call T C n 28 (l, l, ())) ((true, ()), ()) := Evt.next (Evt.bind (e70 l hl) (Evt.some _)) (fun n => r28 n l l)
/- impl.PutLifts -/
theorem e29 {c : List Int} (hr : Rng c) (ok : okC c = true) {f : Int} (f0 : 0 ≤ f) (f1 : f < (c.length : Int)) {l : List Int} (l0 : 1 ≤ l.length) (l1 : l.length ≤ 40) (l2 : (l.length : Int) ≤ c.length - 4) (he : ∀ v ∈ l, 0 ≤ v ∧ v ≤ 10000) : Evt (fun n => call T C n 29 (c, f, l, ())) ((putP c f l, 0, ()), ()) := by
  have hl := okC_len ok
  refine Evt.next ?_ (fun n => r29 n c f l)
  exact Evt.bind (e69 hr ok f0 f1 l0 l1 l2 he (by omega) (by omega)) (Evt.no (by simp) (Evt.bind (e51 hr (by omega) (by omega) f0 (by omega) l (by omega)) (Evt.some _)))
/- impl.SmoothStretch -/
theorem e20 {c : List Int} (hr : Rng c) (f m lo : Int) : Evt (fun n => call T C n 20 (c, f, m, lo, ())) (ssR c f m lo, ()) := by
  refine Evt.next (Evt.bind (e46 hr f m lo 0) ?_) (fun n => r20 n c f m lo)
  unfold ssR
  refine Evt.ite (fun h => ?_) (fun h => ?_)
  · rw [if_pos (by simpa using h)]; exact Evt.some _
  · have h : askP c f m lo 0 = 0 := by simpa using h
    have G := goodS h
    have hl := G.len; have hf := G.hf
    have hb := lbV_in c f m lo
    rw [if_neg (by simp [h])]
    have hfl := fillR_len G (b' := lbV c f m lo)
    exact Evt.bind (e47 hr G) (Evt.bind (e49 hr (G.bound (b' := lbV c f m lo) (by omega) (by omega))) (Evt.bind (e51 hr (by omega) (by omega) (by omega) (by omega) (fillR c f m lo (lbV c f m lo)).1 (by omega)) (Evt.some _)))
/- spec.l01Same -/
theorem e71 (l : List Int) (hl : (l.length : Int) ≤ 1000000) : Evt (fun n => call T C n 71 (l, l, ())) ((true, ()), ()) := by
  refine Evt.next (Evt.no (by simp) ?_) (fun n => r71 n l l)
  refine for_evt' 0 (l.length : Int) (fun i (_ : Unit) => (l, l, i, ())) (fun _ _ => True) (b0 := ()) rfl (by omega) trivial ?_ ?_
  · intro i _ h2 h3 _
    obtain ⟨v, hv⟩ := at_of h2 h3
    exact Round.yes (decide_eq_true h3) (Round.at hv.idx (Round.at hv.idx (Round.no (by simp) (Round.again _ ⟨(), by rw [wr_succ h2 h3 (by omega)], trivial⟩))))
  · intro _ _
    exact Round.no (by simp) (Round.done (Evt.some _))
theorem e712 (a b : List Int) (hl : (a.length : Int) ≤ 1000000) : Evt (fun n => call T C n 71 (a, b, ())) ((decide (a = b), ()), ()) := by
  by_cases hlen : a.length = b.length
  · refine Evt.next (Evt.no (by simp [hlen]) ?_) (fun n => r71 n a b)
    refine for_evt' 0 (a.length : Int) (fun i (_ : Unit) => (a, b, i, ())) (fun i _ => a.take i.toNat = b.take i.toNat) (b0 := ()) rfl (by omega) (by simp) ?_ ?_
    · intro i _ h2 h3 he
      obtain ⟨u, hu⟩ := at_of h2 h3
      obtain ⟨v, hv⟩ := at_of (l := b) h2 (by omega)
      refine Round.yes (decide_eq_true h3) (Round.at hu.idx (Round.at hv.idx (Round.ite (fun h => ?_) (fun h => ?_))))
      · have h : u ≠ v := by simpa using h
        have : a ≠ b := fun e => by
          subst e
          have := hu.get.symm.trans hv.get
          exact h (Option.some.inj this)
        rw [decide_eq_false this]
        exact Round.done (Evt.some _)
      · have h : u = v := by simpa using h
        exact Round.again _ ⟨(), by rw [wr_succ h2 h3 (by omega)], by rw [hu.take, hv.take, he, h]⟩
    · intro _ he
      have he : a = b := by rwa [take_all, hlen, take_all] at he
      rw [decide_eq_true he]
      exact Round.no (by simp) (Round.done (Evt.some _))
  · have : a ≠ b := fun e => hlen (by rw [e])
    rw [decide_eq_false this]
    exact Evt.next (Evt.yes (by simp; omega) (Evt.some _)) (fun n => r71 n a b)
/- spec.SameCam -/
theorem e30 (l : List Int) (hl : (l.length : Int) ≤ 1000000) : Evt (fun n => call T C n 30 (l, l, ())) ((true, ()), ()) := Evt.next (Evt.bind (e71 l hl) (Evt.some _)) (fun n => r30 n l l)
theorem e302 (a b : List Int) (hl : (a.length : Int) ≤ 1000000) : Evt (fun n => call T C n 30 (a, b, ())) ((decide (a = b), ()), ()) := Evt.next (Evt.bind (e712 a b hl) (Evt.some _)) (fun n => r30 n a b)
/- spec.l01Far -/
theorem e72 (a : Int) : Evt (fun n => call T C n 72 (a, ())) ((inR a (-1000000) 1000000, ()), ()) := Evt.next (Evt.bind (e86 _ _ _) (Evt.some _)) (fun n => r72 n a)
/- spec.LiftAt -/
theorem e31 {c : List Int} (hr : Rng c) (ok : okC c = true) {x : Int} (x0 : 0 ≤ x) (x1 : x ≤ 1000) : Evt (fun n => call T C n 31 (c, x, ())) ((cAt c x, 0, ()), ()) := by
  have hl := okC_len ok
  have hv := e52 c (by omega)
  rw [ok] at hv
  have hf := e72 x
  rw [show inR x (-1000000) 1000000 = true from inR_iff.2 ⟨by omega, by omega⟩] at hf
  refine Evt.next (Evt.bind hv ?_) (fun n => r31 n c x)
  refine Evt.no (by decide) (Evt.bind hf ?_)
  exact Evt.no (by decide) (Evt.bind (e56' hr (by omega) (by omega) (by omega) (by omega)) (Evt.some _))
theorem e312 {c : List Int} (hr : Rng c) (ok : okC c = true) {x : Int} (x0 : -1000 ≤ x) (x1 : x ≤ 1000) : Evt (fun n => call T C n 31 (c, x, ())) ((cAt c x, 0, ()), ()) := by
  have hl := okC_len ok
  have hv := e52 c (by omega)
  rw [ok] at hv
  have hf := e72 x
  rw [show inR x (-1000000) 1000000 = true from inR_iff.2 ⟨by omega, by omega⟩] at hf
  refine Evt.next (Evt.bind hv ?_) (fun n => r31 n c x)
  refine Evt.no (by decide) (Evt.bind hf ?_)
  exact Evt.no (by decide) (Evt.bind (e56' hr (by omega) (by omega) (by omega) (by omega)) (Evt.some _))
/- laws.f6size -/
theorem e32 {a : Int} (h1 : -1000000000000 ≤ a) (h2 : a ≤ 1000000000000) : Evt (fun n => call T C n 32 (a, ())) ((siz a, ()), ()) := by
  refine Evt.next ((Evt.some _).of_eq fun n => ?_) (fun n => r32 n a)
  rw [wrap_id (x := 0 - a) (by omega) (by omega)]
  have : (if 0 - a > a then 0 - a else a) = siz a := by unfold siz; split <;> split <;> omega
  rw [this]
  rfl
/- impl.onePair -/
theorem e73 (q : Nat → Nat → Nat → Nat → Bool) {x y : Nat} (hx : x < 64) (hy : y < 64) : Evt (fun n => call T C n 73 ((x : Int), (y : Int), ())) ((gR (fwd q x y 0), ()), ()) := by
  have hg : (List.replicate 64 (0 : Int))[((x : Nat) : Int).toNat]? = some 0 := by rw [Int.toNat_natCast, List.getElem?_replicate, if_pos hx]
  refine Evt.next (Evt.chk (decide_eq_true (by omega)) (Evt.chk (decide_eq_true (by omega)) (Evt.at hg ((Evt.some _).of_eq fun n => ?_)))) (fun n => r73 n x y)
  rw [row_one hy, gR_zero, Int.toNat_natCast, gR_set]
  have : (gR fun x' y' => if x' = x then y' == y else false) = gR (fwd q x y 0) := gR_ext fun x' y' _ _ => by
    simp only [fwd]
    by_cases h : x' = x
    · simp [h]
    · simp [h]
  rw [this]
  rfl
/- impl.led -/
theorem e75 {b : Int} (b0 : 0 ≤ b) (b1 : b ≤ 40000) (F : Nat → Nat → Bool) (A : Nat → Bool) : Evt (fun n => call T C n 75 (gR F, b, row A, ())) ((gR (fun y z => (List.range 64).any fun x => F x y && (sp b x y z && A z)), ()), ()) := by
  have hfull := lg2_full F (fun x y z => sp b x y z && A z)
  rw [← hfull]
  refine Evt.next ?_ (fun n => r75 n (gR F) b (row A))
  refine for_evt' 0 64 (fun i (_ : Unit) => (b, row A, List.replicate 64 (0 : Int), lg2 F (fun x y z => sp b x y z && A z) i.toNat 0, gR F, i, ())) (fun _ _ => True) (b0 := ()) (by rw [show (0 : Int).toNat = 0 from rfl, lg2_zero]) (by omega) trivial ?_ ?_
  · intro x' _ h2 h3 _
    obtain ⟨x, rfl⟩ : ∃ x : Nat, x' = x := ⟨x'.toNat, by omega⟩
    have hx : x < 64 := by omega
    have hrow : idx (gR F) (x : Int) = some (row (F x)) := by
      unfold idx
      rw [if_pos (by omega), Int.toNat_natCast, gR_get F hx]
    rw [Int.toNat_natCast, show ((x : Int) + 1).toNat = x + 1 by omega]
    refine Round.yes (decide_eq_true h3) (Round.at hrow ?_)
    refine for_round' 0 64 (fun y (_ : Unit) => (b, row A, List.replicate 64 (0 : Int), lg2 F (fun x y z => sp b x y z && A z) x y.toNat, (x : Int), row (F x), gR F, (x : Int), y, ())) (fun _ _ => True) (b0 := ()) rfl (by omega) trivial ?_ ?_
    · intro y' _ h4 h5 _
      obtain ⟨y, rfl⟩ : ∃ y : Nat, y' = y := ⟨y'.toNat, by omega⟩
      have hy : y < 64 := by omega
      rw [Int.toNat_natCast, show ((y : Int) + 1).toNat = y + 1 by omega]
      refine Round.yes (decide_eq_true h5) (Round.chk (decide_eq_true (by omega)) ?_)
      rw [row_bit (F x) hy]
      cases hF : F x y with
      | false =>
        refine Round.no (by simp) (Round.inr _ ⟨(), ?_, trivial⟩)
        rw [wrap_id (x := (y : Int) + 1) (by omega) (by omega), lg2_skip hF]
      | true =>
        have hget := lg2_get F (fun x y z => sp b x y z && A z) (x := x) hy
        have hget' : (lg2 F (fun x y z => sp b x y z && A z) x y)[((y : Nat) : Int).toNat]? = some (row fun z => (List.range 64).any fun x' => decide (x' < x) && F x' y && (sp b x' y z && A z)) := by rw [Int.toNat_natCast]; exact hget
        have hck : decide (0 ≤ (y : Int) ∧ (y : Int) < ((64 : Nat) : Int)) = true := decide_eq_true (by omega)
        refine Round.yes rfl (Round.chk hck (Round.at hget' (Round.bind (e94 b0 b1 hx hy) (Round.chk hck (Round.at hget' (Round.inr _ ⟨(), ?_, trivial⟩))))))
        rw [row_and, wrap_id (x := (y : Int) + 1) (by omega) (by omega), ← lg2_put hx hF]
    · intro _ _
      refine Round.no (by simp) (Round.inl _ ⟨(), ?_, trivial⟩)
      rw [show (64 : Int).toNat = 64 from rfl, lg2_next, wrap_id (x := (x : Int) + 1) (by omega) (by omega)]
  · intro _ _
    exact Round.no (by simp) (Round.done (Evt.some _))
/- impl.ReachOf -/
theorem e33 {c : List Int} (hr : Rng c) {f m lo b : Int} (h : askP c f m lo b = 0) : Evt (fun n => call T C n 33 (c, f, m, lo, b, ())) ((tb (m.toNat + 3) (fun i => gR (fwd (qq c f m lo b) (px c f lo) (py c f lo) i)), 0, ()), ()) := by
  have G := goodS h
  have hm := G.hm
  have hb := G.hb
  have hco := e46 hr f m lo b
  rw [h] at hco
  refine Evt.next (Evt.bind hco (Evt.no (by simp) (Evt.bind (e74 hr G) (Evt.bind (e73 (qq c f m lo b) G.px.2 G.py.2) ?_)))) (fun n => r33 n c f m lo b)
  obtain ⟨F, eF⟩ : ∃ F : Nat → List Int, F = fun i => gR (fwd (qq c f m lo b) (px c f lo) (py c f lo) i) := ⟨_, rfl⟩
  have e0 : [gR (fwd (qq c f m lo b) (px c f lo) (py c f lo) 0)] = tb (0 + 1) F := by rw [eF]; rfl
  have em : wr .i64 (m + 2) = ((m.toNat + 2 : Nat) : Int) := by rw [wrap_id (by omega) (by omega)]; omega
  rw [← eF]
  refine for_evt' 0 ((m.toNat + 2 : Nat) : Int) (fun i (_ : Unit) => (b, (c, (f, (m, (lo, ())))), tb (i.toNat + 1) F, ((m.toNat + 2 : Nat) : Int), i, ())) (fun _ _ => True) (b0 := ()) (by rw [em]; exact congrArg (fun x => (b, (c, (f, (m, (lo, ())))), x, ((m.toNat + 2 : Nat) : Int), (0 : Int), ())) e0) (by omega) trivial ?_ ?_
  · intro k' _ h2 h3 _
    obtain ⟨k, rfl⟩ : ∃ k : Nat, k' = k := ⟨k'.toNat, by omega⟩
    rw [Int.toNat_natCast, show ((k : Int) + 1).toNat = k + 1 by omega]
    have lT : (tb (k + 1) F).length = k + 1 := tb_len _ _
    have hg : (tb (k + 1) F)[((k : Nat) : Int).toNat]? = some (gR (fwd (qq c f m lo b) (px c f lo) (py c f lo) k)) := by rw [Int.toNat_natCast, tb_get (by omega), eF]
    have hled := e75 hb.1 hb.2 (fwd (qq c f m lo b) (px c f lo) (py c f lo) k) (al c f m lo k)
    refine Round.yes (decide_eq_true h3) (Round.chk (decide_eq_true (by show 0 ≤ (k : Int) ∧ (k : Int) < ((tb (k + 1) F).length : Int); omega)) (Round.at hg (Round.bind (e76 hr G (by omega)) (Round.bind hled (Round.chk (decide_eq_true (by simp only [List.length_cons, List.length_nil, lT]; omega)) (Round.again _ ⟨(), ?_, trivial⟩))))))
    have : tb (k + 1 + 1) F = tb (k + 1) F ++ [gR (fun y z => (List.range 64).any fun x => fwd (qq c f m lo b) (px c f lo) (py c f lo) k x y && (sp b x y z && al c f m lo k z))] := by
      rw [← tb_snoc (n := k + 1)]
      congr 1
      rw [eF]
      rfl
    rw [this, wrap_id (x := (k : Int) + 1) (by omega) (by omega)]
  · intro _ _
    rw [Int.toNat_natCast]
    exact Round.no (by simp) (Round.done (Evt.some _))
/- spec.ReachOf -/
theorem e34 {c : List Int} (hr : Rng c) {f m lo b : Int} (h : askP c f m lo b = 0) : Evt (fun n => call T C n 34 (c, f, m, lo, b, ())) ((tb (m.toNat + 3) (fun i => gR (fwd (qq c f m lo b) (px c f lo) (py c f lo) i)), 0, ()), ()) := by
  have G := goodS h
  have hco := e44 hr f m lo b
  rw [h] at hco
  refine Evt.next ?_ (fun n => r34 n c f m lo b)
  exact Evt.bind hco (Evt.no (by simp) (Evt.bind (e77 hr G) (Evt.some _)))
/- impl.isWithin -/
theorem e78 (F : Nat → Nat → Bool) : Evt (fun n => call T C n 78 (gR F, gR F, ())) ((true, ()), ()) := by
  refine Evt.next ?_ (fun n => r78 n (gR F) (gR F))
  refine for_evt' 0 64 (fun i (_ : Unit) => (gR F, gR F, i, ())) (fun _ _ => True) (b0 := ()) rfl (by omega) trivial ?_ ?_
  · intro x' _ h2 h3 _
    obtain ⟨x, rfl⟩ : ∃ x : Nat, x' = x := ⟨x'.toNat, by omega⟩
    have hx : x < 64 := by omega
    have hrow : idx (gR F) (x : Int) = some (row (F x)) := by
      unfold idx
      rw [if_pos (by omega), Int.toNat_natCast, gR_get F hx]
    have hg : (gR F)[((x : Nat) : Int).toNat]? = some (row (F x)) := by rw [Int.toNat_natCast, gR_get F hx]
    refine Round.yes (decide_eq_true h3) (Round.at hrow (Round.chk (decide_eq_true (show 0 ≤ (x : Int) ∧ (x : Int) < ((64 : Nat) : Int) by omega)) (Round.at hg (Round.no (by rw [row_not]; simp) (Round.again _ ⟨(), ?_, trivial⟩)))))
    rw [wrap_id (x := (x : Int) + 1) (by omega) (by omega)]
  · intro _ _
    exact Round.no (by simp) (Round.done (Evt.some _))
/- impl.CheckReach -/
theorem e35 {c : List Int} (hr : Rng c) {f m lo b : Int} (h : askP c f m lo b = 0) : Evt (fun n => call T C n 35 (c, f, lo, b, tb (m.toNat + 3) (fun i => gR (fwd (qq c f m lo b) (px c f lo) (py c f lo) i)), ())) ((!cq c f m lo b, 0, ()), ()) := by
  have G := goodS h
  have hm := G.hm
  have hb := G.hb
  have hco := e46 hr f m lo b
  rw [h] at hco
  have hend := reach_end G
  obtain ⟨F, eF⟩ : ∃ F : Nat → List Int, F = fun i => gR (fwd (qq c f m lo b) (px c f lo) (py c f lo) i) := ⟨_, rfl⟩
  have eFi : ∀ i, F i = gR (fwd (qq c f m lo b) (px c f lo) (py c f lo) i) := fun i => by rw [eF]
  rw [← eFi] at hend
  rw [← eF]
  have lT : (tb (m.toNat + 3) F).length = m.toNat + 3 := tb_len _ _
  have e3 : wr .i64 (((tb (m.toNat + 3) F).length : Int) - 3) = m := by rw [wrap_id (by omega) (by omega)]; omega
  have e1 : wr .i64 (((tb (m.toNat + 3) F).length : Int) - 1) = ((m.toNat + 2 : Nat) : Int) := by rw [wrap_id (by omega) (by omega)]; omega
  have em : wr .i64 (m + 2) = ((m.toNat + 2 : Nat) : Int) := by rw [wrap_id (by omega) (by omega)]; omega
  have hat : ∀ i : Nat, i < m.toNat + 3 → idx (tb (m.toNat + 3) F) (i : Int) = some (gR (fwd (qq c f m lo b) (px c f lo) (py c f lo) i)) := fun i hi => by
    have := (tb_at (n := m.toNat + 3) (G := F) (i := (i : Int)) (by omega) (by omega)).idx
    rwa [Int.toNat_natCast, eFi] at this
  refine Evt.next ?_ (fun n => r35 n c f lo b (tb (m.toNat + 3) F))
  simp only [e3, e1, em]
  refine Evt.bind hco (Evt.no (by simp) (Evt.bind (e74 hr G) (Evt.bind (e73 (qq c f m lo b) G.px.2 G.py.2) (Evt.at (hat 0 (by omega)) (Evt.bind (e78 _) (Evt.no (by simp) (Evt.at (hat (m.toNat + 2) (by omega)) ?_)))))))
  rw [← eFi]
  cases hq : cq c f m lo b with
  | true =>
    refine Evt.yes ?_ (Evt.some _)
    have : ¬ F (m.toNat + 2) = List.replicate 64 (0 : Int) := fun e => by have := hend.1 e; rw [hq] at this; cases this
    show (bif false then true else !decide (F (m.toNat + 2) = List.replicate 64 (0 : Int))) = true
    rw [decide_eq_false this]
    rfl
  | false =>
    refine Evt.no ?_ ?_
    · show ¬ (bif false then true else !decide (F (m.toNat + 2) = List.replicate 64 (0 : Int))) = true
      rw [decide_eq_true (hend.2 hq)]
      simp
    refine for_evt' 0 ((m.toNat + 2 : Nat) : Int) (fun i (_ : Unit) => (b, tb (m.toNat + 3) F, (c, (f, (m, (lo, ())))), ((m.toNat + 2 : Nat) : Int), i, ())) (fun _ _ => True) (b0 := ()) rfl (by omega) trivial ?_ ?_
    · intro k' _ h2 h3 _
      obtain ⟨k, rfl⟩ : ∃ k : Nat, k' = k := ⟨k'.toNat, by omega⟩
      have hled := e75 hb.1 hb.2 (fwd (qq c f m lo b) (px c f lo) (py c f lo) k) (al c f m lo k)
      refine Round.yes (decide_eq_true h3) (Round.at (hat k (by omega)) (Round.bind (e76 hr G (by omega)) (Round.bind hled ?_)))
      simp only [wrap_id (x := (k : Int) + 1) (by omega) (by omega)]
      refine Round.at (by have := hat (k + 1) (by omega); exact this) (Round.bind (e78 (fwd (qq c f m lo b) (px c f lo) (py c f lo) (k + 1))) (Round.no (by simp) (Round.again _ ⟨(), rfl, trivial⟩)))
    · intro _ _
      exact Round.no (by simp) (Round.done (Evt.some _))
/- spec.SameGrids -/
theorem e36 (l : List (List Int)) (hl : (l.length : Int) ≤ 1000000) : Evt (fun n => call T C n 36 (l, l, ())) ((true, ()), ()) := by
  refine Evt.next (Evt.no (by simp) ?_) (fun n => r36 n l l)
  refine for_evt' 0 (l.length : Int) (fun i (_ : Unit) => (l, l, i, ())) (fun _ _ => True) (b0 := ()) rfl (by omega) trivial ?_ ?_
  · intro i _ h2 h3 _
    obtain ⟨v, hv⟩ := at_of h2 h3
    exact Round.yes (decide_eq_true h3) (Round.at hv.idx (Round.at hv.idx (Round.no (by simp) (Round.again _ ⟨(), by rw [wr_succ h2 h3 (by omega)], trivial⟩))))
  · intro _ _
    exact Round.no (by simp) (Round.done (Evt.some _))
/- laws.FnFilled -/
theorem e7 (x y : List Int) (hd : DomA (C 7).params (x, y, ())) : Evt (fun n => call T C n 7 (x, y, ())) ((true, ()), ()) := by
  have hx : ∀ v ∈ x, 0 ≤ v ∧ v ≤ 255 := byte_of hd.1
  have hy : ∀ v ∈ y, 0 ≤ v ∧ v ≤ 255 := byte_of hd.2.1
  refine Evt.next (Evt.bind (e24 x) (Evt.ite (fun _ => Evt.some _) (fun hx2 => Evt.bind (e24 y) (Evt.ite (fun _ => Evt.some _) (fun hy2 => ?_))))) (fun n => r7 n x y)
  have hx2 : ¬ (x.length : Int) > 4096 := by simpa using hx2
  have hy2 : ¬ (y.length : Int) > 4096 := by simpa using hy2
  obtain ⟨c, hC, S⟩ := e25 hx (by omega)
  have hl := S.len
  have h0 : 0 < c.length := by omega
  have hr := S.rng
  have ok := S.ok
  have hA : ∀ x, 0 ≤ cAt c x ∧ cAt c x ≤ 60 := fun x => S.el _ (cAt_mem h0 x)
  obtain ⟨f, hPf, f0, f1⟩ := e26 hy (by omega) (m := (c.length : Int)) (by omega) (by omega)
  have e4 : wr .i64 ((c.length : Int) - 4) = (c.length : Int) - 4 := wrap_id (by omega) (by omega)
  obtain ⟨v, hPm, v0, v1⟩ := e26 hx (by omega) (m := (if (c.length : Int) - 4 < 8 then (c.length : Int) - 4 else 8)) (by split <;> omega) (by split <;> omega)
  have v2 : v < 8 ∧ v < (c.length : Int) - 4 := by split at v1 <;> omega
  obtain ⟨m, em⟩ : ∃ m : Nat, 1 + v = m := ⟨(1 + v).toNat, by omega⟩
  have ew : wr .i64 (1 + v) = (m : Int) := by rw [em, wrap_id (by omega) (by omega)]
  have ask : ∀ b, 0 ≤ b → b ≤ 40000 → askP c f m 0 b = 0 := fun b b0 b1 => by
    unfold askP
    rw [if_neg (by rw [ok]; simp), if_neg, if_neg]
    · simp only [Bool.not_eq_false, Bool.and_eq_true, inR_iff, hgt]
      have a1 := hA (f - 2)
      have a2 := hA (f - 1)
      have a3 := hA (f + m)
      have a4 := hA (f + m + 1)
      omega
    · simp only [Bool.not_eq_false, Bool.and_eq_true, inR_iff]
      omega
  have G0 := goodS (ask 0 (by omega) (by omega))
  obtain ⟨B, eB⟩ : ∃ B, B = lbV c f m 0 := ⟨_, rfl⟩
  have hBi := lbV_in c f m 0
  have hBs := lbV_spec G0
  rw [← eB] at hBi hBs
  have hLi := e11 hr f m 0
  have hLs := e9 hr f m 0
  have hlb : lbR c f m 0 = (B, 0, ()) := by unfold lbR; rw [ask 0 (by omega) (by omega), if_neg (by simp), eB]
  rw [hlb] at hLi hLs
  have GB := goodS (ask B (by omega) (by omega))
  obtain ⟨L, eL⟩ : ∃ L, L = filP c f m 0 B := ⟨_, rfl⟩
  have lL : L.length = m := by rw [eL]; unfold filP; rw [fil_len]; omega
  have hLe : ∀ v ∈ L, 0 ≤ v ∧ v ≤ 63 := by rw [eL]; intro v hv; have := filP_el hBs.2 v hv; omega
  have hFi := e14 hr f m 0 B
  have hFs := e13 hr f m 0 B
  have hfw : fwR c f m 0 B = (L, 0, ()) := by unfold fwR; rw [ask B (by omega) (by omega), if_neg (by simp), if_pos hBs.2, eL]
  rw [hfw] at hFi hFs
  have hLe2 : ∀ v ∈ L, 0 ≤ v ∧ v ≤ 10000 := fun v hv => by have := hLe v hv; omega
  have hCk := e27 hr ok f0 f1 (l := L) (by omega) (by omega) (by omega) hLe2 (b := B) (by omega) (by omega) (fun z z0 z1 => by
    have := fill_bends GB hBs.2 (z - f + 1).toNat (by omega)
    rw [← eL, show f + (((z - f + 1).toNat : Nat) : Int) - 1 = z by omega] at this
    exact this)
  have hPu := e29 hr ok f0 f1 (l := L) (by omega) (by omega) (by omega) hLe2
  have hSs := e20 hr f m 0
  have hss : ssR c f m 0 = (putP c f L, B, 0, ()) := by
    unfold ssR fillR
    rw [ask 0 (by omega) (by omega), if_neg (by simp), ← eB, if_pos hBs.2, ← eL]
  rw [hss] at hSs
  have lP := putP_len L c f
  have hS1 := e28 L (by omega)
  have hS2 := e30 (putP c f L) (by omega)
  refine Evt.bind hC (Evt.bind hPf ?_)
  simp only [e4]
  refine Evt.bind hPm ?_
  simp only [ew]
  refine Evt.bind hLi (Evt.bind hLs (Evt.no (by simp) (Evt.no (by simp) (Evt.no (by simp) (Evt.no (by simp; omega) (Evt.bind hFi (Evt.bind hFs (Evt.bind hCk ?_))))))))
  refine Evt.no (by simp) (Evt.no (by simp) (Evt.bind hS1 (Evt.no (by simp) (Evt.no (by simp; omega) (Evt.no (by simp) (Evt.no (by simp) (Evt.bind hPu (Evt.bind hSs ?_))))))))
  refine Evt.no (by simp) (Evt.no (by simp) (Evt.no (by simp) (Evt.bind hS2 (Evt.no (by simp) ?_))))
  obtain ⟨mo, emo⟩ : ∃ mo : Nat → Int, ∀ j, mo j = mxS (tb j fun i => bendP c (f - 1 + (i : Nat))) := ⟨fun j => mxS (tb j fun i => bendP c (f - 1 + (i : Nat))), fun _ => rfl⟩
  have mo_nn : ∀ j, 0 ≤ mo j := fun j => by rw [emo]; exact mxS_nn _
  have bnd4 : ∀ z, -240 ≤ bendP c z ∧ bendP c z ≤ 240 := fun z => by
    have a1 := hA (z + 1)
    have a2 := hA z
    have a3 := hA (z - 1)
    unfold bendP; omega
  have mo_le : ∀ j, mo j ≤ 240 := fun j => by
    rw [emo]
    exact (mxS_le' _ 0 240).2 ⟨by omega, fun v hv => by
      obtain ⟨i, _, rfl⟩ := tb_mem hv
      have := bnd4 (f - 1 + (i : Nat))
      exact siz_le (by omega) (by omega)⟩
  refine for_evt' (-1) ((m : Int) + 1) (fun k (_ : Unit) => (c, f, (m : Int), B, ownL c f (min k.toNat m), mo (k + 1).toNat, k, ())) (fun _ _ => True) (b0 := ()) (by rw [emo]; rfl) (by omega) trivial ?_ ?_
  · intro k _ h2 h3 _
    have a1 := hA (f + k - 1)
    have a2 := hA (f + k)
    have a3 := hA (f + k + 1)
    have w1 : wr .i64 (f + k) = f + k := wrap_id (by omega) (by omega)
    have w2 : wr .i64 (f + k - 1) = f + k - 1 := wrap_id (by omega) (by omega)
    have w3 : wr .i64 (f + k + 1) = f + k + 1 := wrap_id (by omega) (by omega)
    have w4 : wr .i64 (wr .i64 (cAt c (f + k + 1) - wr .i64 (2 * cAt c (f + k))) + cAt c (f + k - 1)) = bendP c (f + k) := by
      unfold bendP
      rw [wrap_id (x := 2 * cAt c (f + k)) (by omega) (by omega), wrap_id (x := cAt c (f + k + 1) - 2 * cAt c (f + k)) (by omega) (by omega), wrap_id (by omega) (by omega)]
    have hbd := bnd4 (f + k)
    have l1 := e312 hr ok (x := f + k - 1) (by omega) (by omega)
    have l2 := e312 hr ok (x := f + k) (by omega) (by omega)
    have l3 := e312 hr ok (x := f + k + 1) (by omega) (by omega)
    have hsz := e32 (a := bendP c (f + k)) (by omega) (by omega)
    have emk : mo (k + 1 + 1).toNat = max (mo (k + 1).toNat) (siz (bendP c (f + k))) := by
      rw [emo, emo, show (k + 1 + 1).toNat = (k + 1).toNat + 1 by omega, ← tb_snoc, mxS_snoc, show f - 1 + (((k + 1).toNat : Nat) : Int) = f + k by omega]
    have emx : (if siz (bendP c (f + k)) > mo (k + 1).toNat then siz (bendP c (f + k)) else mo (k + 1).toNat) = mo (k + 1 + 1).toNat := by rw [emk]; split <;> omega
    refine Round.yes (decide_eq_true (show k ≤ (m : Int) by omega)) ?_
    simp only [w1, w2, w3]
    refine Round.bind l1 (Round.bind l2 (Round.bind l3 (Round.no (by simp) (Round.no (by simp) (Round.no (by simp) ?_)))))
    simp only [w4]
    refine Round.bind hsz ?_
    simp only [emx, wrap_id (x := k + 1) (by omega) (by omega)]
    by_cases hk0 : 0 ≤ k
    · refine Round.yes (decide_eq_true hk0) ?_
      by_cases hkm : k < (m : Int)
      · have lO : (ownL c f (min k.toNat m)).length = min k.toNat m := tb_len _ _
        refine Round.yes (show (bif true then decide (k < (m : Int)) else false) = true from decide_eq_true hkm) (Round.chk (decide_eq_true (by simp only [List.length_cons, List.length_nil, lO]; omega)) (Round.again _ ⟨(), ?_, trivial⟩))
        have : ownL c f (min k.toNat m) ++ [cAt c (f + k)] = ownL c f (min (k + 1).toNat m) := by
          have e := tb_snoc k.toNat fun i => cAt c (f + (i : Nat))
          rw [show min k.toNat m = k.toNat by omega, show min (k + 1).toNat m = k.toNat + 1 by omega]
          unfold ownL
          rw [← e, show ((k.toNat : Nat) : Int) = k by omega]
        rw [this]
      · refine Round.no (show ¬ (bif true then decide (k < (m : Int)) else false) = true from fun h => hkm (of_decide_eq_true (p := k < (m : Int)) h)) (Round.again _ ⟨(), ?_, trivial⟩)
        rw [show min (k + 1).toNat m = min k.toNat m by omega]
    · refine Round.no (fun h => hk0 (of_decide_eq_true h)) (Round.again _ ⟨(), ?_, trivial⟩)
      rw [show min (k + 1).toNat m = min k.toNat m by omega]
  intro _ _
  rw [show min ((m : Int) + 1).toNat m = m by omega, show ((m : Int) + 1 + 1).toNat = m + 2 by omega]
  have lO : (ownL c f m).length = m := tb_len _ _
  have hOe : ∀ v ∈ ownL c f m, 0 ≤ v ∧ v ≤ 10000 := fun v hv => by
    obtain ⟨i, _, rfl⟩ := tb_mem hv
    have := hA (f + (i : Nat))
    omega
  have n1 := mo_nn (m + 2)
  have n2 := mo_le (m + 2)
  have hmo : ∀ z, f - 1 ≤ z → z ≤ f + m → siz (bendP c z) ≤ mo (m + 2) := fun z z0 z1 => by
    rw [emo]
    have := ((mxS_le' (tb (m + 2) fun i => bendP c (f - 1 + (i : Nat))) 0 _).1 (Int.le_refl _)).2 _ (mem_tb (G := fun i => bendP c (f - 1 + (i : Nat))) (i := (z - f + 1).toNat) (by omega))
    rw [show f - 1 + (((z - f + 1).toNat : Nat) : Int) = z by omega] at this
    exact this
  have hCo := e27 hr ok f0 f1 (l := ownL c f m) (by omega) (by omega) (by omega) hOe (b := mo (m + 2)) (by omega) (by omega) (fun z z0 z1 => by
    rw [put_own hr h0 (by omega)]
    exact hmo z z0 (by omega))
  have hBm : B ≤ mo (m + 2) := by
    apply Classical.byContradiction
    intro hn
    have := hBs.1 (mo (m + 2)) (by omega) (by omega)
    rw [cq_own G0 (fun z => by have := hA z; unfold hgt; omega) (b := mo (m + 2)) fun k hk => by
      have h5 := hmo (f + (k : Nat) - 1) (by omega) (by omega)
      unfold siz at h5
      split at h5 <;> omega] at this
    cases this
  refine Round.no (by simp; omega) (Round.bind hCo (Round.no (by simp) (Round.no (by simp) (Round.no (by simp; omega) (Round.ite (fun _ => Round.done (Evt.some _)) (fun hB0 => ?_))))))
  have hB0 : B ≠ 0 := by simpa using hB0
  have eB1 : wr .i64 (B - 1) = B - 1 := wrap_id (by omega) (by omega)
  have hno := hBs.1 (B - 1) (by omega) (by omega)
  have ask1 := ask (B - 1) (by omega) (by omega)
  have hF1 := e14 hr f m 0 (B - 1)
  have hfw1 : fwR c f m 0 (B - 1) = ([], 6, ()) := by unfold fwR; rw [ask1, if_neg (by simp), if_neg (by rw [hno]; simp)]
  rw [hfw1] at hF1
  have hR1 := e33 hr ask1
  have hR2 := e34 hr ask1
  have hK1 := e35 hr ask1
  rw [hno] at hK1
  have hR3 := e34 hr (ask B (by omega) (by omega))
  have hK3 := e35 hr (ask B (by omega) (by omega))
  rw [hBs.2] at hK3
  have hSg := e36 (tb ((m : Int).toNat + 3) (fun i => gR (fwd (qq c f m 0 (B - 1)) (px c f 0) (py c f 0) i))) (by rw [tb_len]; omega)
  simp only [eB1]
  exact Round.bind hF1 (Round.bind hR1 (Round.bind hR2 (Round.bind hK1 (Round.no (by simp) (Round.no (by simp) (Round.no (by simp) (Round.bind hSg (Round.no (by simp) (Round.no (by simp) (Round.no (by simp) (Round.bind hR3 (Round.bind hK3 (Round.yes (by simp) (Round.yes (by simp) (Round.done (Evt.some _))))))))))))))))

end Go.Cams.YteeciijmkmdplaaDoorLFi
