/- What the functions that the law reaches come to. -/
import Derived.Test.YtdhgdfofgeccgaaRFt
import Derived.Test.YtdhgdfofgeccgaaPuAll
namespace Go.Cams.YtdhgdfofgeccgaaLFt
open Go Go.Fw Go.Proofs Go.Proofs.Ytdhgdfofgeccgaa.LFt
/- laws.f6big -/
theorem e40 (a : List Int) : Evt (fun n => call T C n 40 (a, ())) ((decide ((a.length : Int) > 4096), ()), ()) := Evt.next (Evt.some _) (fun n => r40 n a)
/- spec.l00From -/
theorem e110 (a : List Int) : Evt (fun n => call T C n 110 (a, ())) (((a, 0, 0, ()), ()), ()) := Evt.next (Evt.some _) (fun n => r110 n a)
/- (*spec.l00Src).next -/
theorem e180 {k : Int} {s : Src} (h : SrcAt k s) (hk : k ≤ 1000000000000) : ∃ (v : Int) (s' : Src), Evt (fun n => call T C n 180 (s, ())) ((v, ()), (s', ())) ∧ 0 ≤ v ∧ v ≤ 255 ∧ SrcAt (k + 1) s' := by
  obtain ⟨h1, h2, h3, h4⟩ := h
  have hw : wr .i64 (s.2.1 + 1) = s.2.1 + 1 := wrap_id (by omega) (by omega)
  by_cases hp : s.2.1 < (s.1.length : Int)
  · obtain ⟨v, hv⟩ := at_of h3 hp
    have hb := h1 v hv.mem
    have ev : wr .i64 v = v := wrap_id (by omega) (by omega)
    obtain ⟨z, hz⟩ : ∃ z, z = wr .u64 ((wr .u64 ((wr .u64 (s.2.2.1 * (6364136223846793005 : Int))) + (wr .u64 (wr .i64 v)))) + (1442695040888963407 : Int)) := ⟨_, rfl⟩
    refine ⟨v, (s.1, s.2.1 + 1, z, ()), Evt.next (Evt.yes (decide_eq_true hp) (Evt.at hv.idx (Evt.yes (decide_eq_true (by rw [hw]; omega)) ((Evt.some _).of_eq fun n => ?_)))) (fun n => r180 n s), hb.1, hb.2, h1, h2, by show 0 ≤ s.2.1 + 1; omega, by show s.2.1 + 1 ≤ k + 1; omega⟩
    rw [← hz, hw, ev]
    rfl
  · obtain ⟨z, hz⟩ : ∃ z, z = wr .u64 ((wr .u64 ((wr .u64 (s.2.2.1 * (6364136223846793005 : Int))) + (wr .u64 (0 : Int)))) + (1442695040888963407 : Int)) := ⟨_, rfl⟩
    have hzb : 0 ≤ z ∧ z < 18446744073709551616 := by rw [hz]; exact wrap_u64 _
    obtain ⟨y, rfl⟩ : ∃ y : Nat, z = y := ⟨z.toNat, by omega⟩
    have hval : wr .i64 (bitsI .and .u64 (shr_ .u64 (y : Int) (40 : Int)) (255 : Int)) = ((y / 2 ^ 40 % 256 : Nat) : Int) := by
      rw [show (40 : Int) = ((40 : Nat) : Int) from rfl, shr_nat (by omega), and_255 (Nat.lt_of_le_of_lt (Nat.div_le_self _ _) (by omega))]
      have := Nat.mod_lt (y / 2 ^ 40) (show 0 < 256 by omega)
      exact wrap_id (by omega) (by omega)
    have hm := Nat.mod_lt (y / 2 ^ 40) (show 0 < 256 by omega)
    refine ⟨((y / 2 ^ 40 % 256 : Nat) : Int), (s.1, s.2.1 + 1, (y : Int), ()), Evt.next (Evt.no (by simpa using hp) (Evt.no (by rw [hw]; simp; omega) (Evt.chk rfl ((Evt.some _).of_eq fun n => ?_)))) (fun n => r180 n s), by omega, by omega, h1, h2, by show 0 ≤ s.2.1 + 1; omega, by show s.2.1 + 1 ≤ k + 1; omega⟩
    rw [← hz, hw, hval]
    rfl
/- (*spec.l00Src).pick -/
theorem e111 {k : Int} {s : Src} (h : SrcAt k s) (hk : k ≤ 999999999000) {m : Int} (m1 : 1 ≤ m) (m2 : m ≤ 1000000) : ∃ (v : Int) (s' : Src), Evt (fun n => call T C n 111 (s, m, ())) ((v, ()), (s', ())) ∧ 0 ≤ v ∧ v < m ∧ SrcAt (k + 2) s' := by
  by_cases hm : m ≤ 1
  · exact ⟨0, s, Evt.next (Evt.yes (decide_eq_true hm) (Evt.some _)) (fun n => r111 n s m), by omega, by omega, h.mono (by omega)⟩
  · obtain ⟨v, s1, hE, v0, v1, hs1⟩ := e180 h (by omega)
    by_cases hb : m > 200
    · obtain ⟨u, s2, hE2, u0, u1, hs2⟩ := e180 hs1 (by omega)
      have hx : wr .i64 (wr .i64 (v * 256) + u) = v * 256 + u := by rw [wrap_id (x := v * 256) (by omega) (by omega), wrap_id (by omega) (by omega)]
      have ht0 := Int.tmod_nonneg m (show 0 ≤ v * 256 + u by omega)
      have ht1 := Int.tmod_lt_of_pos (v * 256 + u) (show 0 < m by omega)
      refine ⟨Int.tmod (v * 256 + u) m, s2, Evt.next (Evt.no (by simpa using hm) (Evt.bind hE (Evt.yes (decide_eq_true hb) (Evt.bind hE2 (Evt.chk (bne_pos (by omega)) ((Evt.some _).of_eq fun n => ?_)))))) (fun n => r111 n s m), ht0, ht1, hs2.mono (by omega)⟩
      rw [hx]
      rfl
    · have ht0 := Int.tmod_nonneg m v0
      have ht1 := Int.tmod_lt_of_pos v (show 0 < m by omega)
      exact ⟨Int.tmod v m, s1, Evt.next (Evt.no (by simpa using hm) (Evt.bind hE (Evt.no (by simpa using hb) (Evt.chk (bne_pos (by omega)) (Evt.some _))))) (fun n => r111 n s m), ht0, ht1, hs1.mono (by omega)⟩
/- (*spec.l00Src).among -/
theorem e183 {k : Int} {s : Src} (h : SrcAt k s) (hk : k ≤ 999999999000) {l : List Int} (l1 : 1 ≤ (l.length : Int)) (l2 : (l.length : Int) ≤ 1000000) : ∃ (v : Int) (s' : Src), Evt (fun n => call T C n 183 (s, l, ())) ((v, ()), (s', ())) ∧ v ∈ l ∧ SrcAt (k + 2) s' := by
  obtain ⟨i, s1, hE, i0, i1, hs1⟩ := e111 h hk l1 l2
  obtain ⟨v, hv⟩ := at_of i0 i1
  refine ⟨v, s1, Evt.next ?_ (fun n => r183 n s l), hv.mem, hs1⟩
  exact Evt.bind hE (Evt.at hv.idx (Evt.some _))
/- spec.l00Min -/
theorem e184 (a b : Int) : Evt (fun n => call T C n 184 (a, b, ())) ((min a b, ()), ()) := by
  refine Evt.next (Evt.ite (fun h => ?_) (fun h => ?_)) (fun n => r184 n a b)
  · have h : a < b := of_decide_eq_true h
    rw [show min a b = a by omega]; exact Evt.some _
  · have h : ¬ a < b := by simpa using h
    rw [show min a b = b by omega]; exact Evt.some _
/- spec.l00Max -/
theorem e98 (a b : Int) : Evt (fun n => call T C n 98 (a, b, ())) ((max a b, ()), ()) := by
  refine Evt.next (Evt.ite (fun h => ?_) (fun h => ?_)) (fun n => r98 n a b)
  · have h : a > b := of_decide_eq_true h
    rw [show max a b = a by omega]; exact Evt.some _
  · have h : ¬ a > b := by simpa using h
    rw [show max a b = b by omega]; exact Evt.some _
/- (*spec.l00Src).one -/
theorem e185 {k : Int} {s : Src} (h : SrcAt k s) (hk : k ≤ 999999999000) {m : Int} (m1 : 1 ≤ m) (m2 : m ≤ 1000000) : ∃ (b : Bool) (s' : Src), Evt (fun n => call T C n 185 (s, m, ())) ((b, ()), (s', ())) ∧ SrcAt (k + 2) s' := by
  obtain ⟨v, s1, hE, v0, v1, hs1⟩ := e111 h hk m1 m2
  exact ⟨v == 0, s1, Evt.next (Evt.bind hE (Evt.some _)) (fun n => r185 n s m), hs1⟩
/- spec.l01Drawn -/
theorem e124 {k : Int} {s : Src} (h : SrcAt k s) (hk : k ≤ 999999990000) : ∃ (c : List Int) (s' : Src), Evt (fun n => call T C n 124 (s, ())) ((c, ()), (s', ())) ∧ SmD c ∧ SrcAt (k + 200) s' := by
  obtain ⟨n0, s1, hE1, hn0, hs1⟩ := e183 h (by omega) (l := [8, 9, 12, 16, 24, 36]) (by simp) (by simp)
  have hn : 8 ≤ n0 ∧ n0 ≤ 36 := by simp at hn0; omega
  obtain ⟨nn, rfl⟩ : ∃ m : Nat, n0 = m := ⟨n0.toNat, by omega⟩
  obtain ⟨l0, s2, hE2, l00, l01, hs2⟩ := e111 hs1 (by omega) (m := 20) (by omega) (by omega)
  have key : EvtX (fun n => call T C n 124 (s, ())) (fun y => SmD y.1.1 ∧ SrcAt (k + 200) y.2.1) := by
    refine EvtX.next (EvtX.bind hE1 (EvtX.bind hE2 ?_)) (fun n => r124 n s)
    refine EvtX.loop (fun x => ∃ (src : Src) (o : List Int) (l : Int), x = (src, (nn : Int), o, l, ()) ∧ SrcAt (k + 4 + 4 * o.length) src ∧ GoodG2 nn (o, l)) (fun x => nn - x.2.2.1.length)
      ⟨s2, [], l0, rfl, hs2.mono (by simp; omega), ⟨fun v hv => (by cases hv), by show 0 ≤ l0 ∧ l0 ≤ 60; omega, by show 0 ≤ nn; omega⟩⟩ ?_
    rintro x ⟨src, out, l, rfl, hsrc, G⟩
    have hle : out.length ≤ nn := G.le
    by_cases hlt : out.length < nn
    · right
      obtain ⟨a, a1, hA, a0, al, hs3⟩ := e111 hsrc (by omega) (m := 7) (by omega) (by omega)
      obtain ⟨b, b1, hB, b0, bl, hs4⟩ := e111 hs3 (by omega) (m := 5) (by omega) (by omega)
      obtain ⟨m, hm⟩ : ∃ m : Nat, 1 + b = m := ⟨(1 + b).toNat, by omega⟩
      have G2 := grow_good (b := a - 3) m G
      have G3 := grow_more (b := a - 3) (k := m) G hlt (by omega)
      obtain ⟨R, eR⟩ : ∃ R, R = grow (a - 3) nn m (out, l) := ⟨_, rfl⟩
      rw [← eR] at G2 G3
      have G3 : out.length < R.1.length := G3
      have hRle : R.1.length ≤ nn := G2.1.le
      refine ⟨(b1, (nn : Int), R.1, R.2, ()), ⟨b1, R.1, R.2, rfl, hs4.mono (by omega), G2.1⟩, by show nn - R.1.length < nn - out.length; omega, fun y => ?_⟩
      refine Round.yes (decide_eq_true (show (out.length : Int) < (nn : Int) by omega)) (Round.bind hA (Round.bind hB ?_))
      simp only [wrap_id (x := a - 3) (by omega) (by omega), hm, wrap_id (x := (m : Int)) (by omega) (by omega)]
      refine for_round' 0 (m : Int) (fun i (s : List Int × Int) => (b1, (nn : Int), s.1, s.2, a - 3, (m : Int) - i, ())) (fun i s => GoodG2 nn s ∧ grow (a - 3) nn ((m : Int) - i).toNat s = R) (b0 := (out, l)) (by rw [Int.sub_zero]) (by omega) ⟨G, by rw [Int.sub_zero, Int.toNat_natCast, eR]⟩ ?_ ?_
      · intro i s h2 h3 ⟨hG, he⟩
        rw [show ((m : Int) - i).toNat = ((m : Int) - (i + 1)).toNat + 1 by omega, grow] at he
        refine Round.yes (decide_eq_true (show (m : Int) - i > 0 by omega)) ?_
        have hsle : s.1.length ≤ nn := hG.le
        have hlf := hG.lf
        by_cases hl : s.1.length < nn
        · rw [if_pos hl] at he
          have hone := grow_one (b := a - 3) hG hl
          refine Round.yes (show (bif true then decide ((s.1.length : Int) < (nn : Int)) else false) = true from decide_eq_true (by omega)) ?_
          simp only [wrap_id (x := s.2 + (a - 3)) (by omega) (by omega)]
          refine Round.bind (e184 60 _) (Round.bind (e98 0 _) (Round.chk (decide_eq_true (by simp only [List.length_cons, List.length_nil]; omega)) (Round.inr _ ⟨(s.1 ++ [max 0 (min 60 (s.2 + (a - 3)))], max 0 (min 60 (s.2 + (a - 3)))), ?_, hone, he⟩)))
          rw [wrap16 (x := max 0 (min 60 (s.2 + (a - 3)))) (by omega) (by omega), wrap_id (x := (m : Int) - i - 1) (by omega) (by omega), show (m : Int) - (i + 1) = (m : Int) - i - 1 by omega]
        · rw [if_neg hl] at he
          refine Round.no (show ¬ (bif true then decide ((s.1.length : Int) < (nn : Int)) else false) = true from fun h => by have := of_decide_eq_true (p := (s.1.length : Int) < (nn : Int)) h; omega) (Round.inl _ ?_)
          rw [← he]
      · intro s ⟨hG, he⟩
        rw [Int.sub_self] at he
        have he : s = R := he
        rw [he]
        exact Round.no (by simp) (Round.inl _ rfl)
    · left
      have hlen : out.length = nn := by omega
      obtain ⟨bo, s3, hO, hs3⟩ := e185 hsrc (by omega) (m := 8) (by omega) (by omega)
      have S0 : SmD out := ⟨by omega, G.el⟩
      have hs5 : SrcAt (k + 200) s3 := hs3.mono (by omega)
      cases bo with
      | false => exact ⟨((out, ()), (s3, ())), ⟨S0, hs5⟩, Round.no (by simp; omega) (Round.bind hO (Round.no (by simp) (Round.done (Evt.some _))))⟩
      | true =>
        have ht : wr .i64 (Int.tdiv (nn : Int) 2) = ((nn / 2 : Nat) : Int) := by
          rw [Int.tdiv_eq_ediv_of_nonneg (by omega), wrap_id (by omega) (by omega)]; omega
        by_cases he : nn % 2 = 0
        · obtain ⟨p, hp⟩ : ∃ p, p = (out.take (nn / 2)).drop 0 := ⟨_, rfl⟩
          have lp : p.length = nn / 2 := by rw [hp, List.drop_zero, List.length_take]; omega
          refine ⟨(((([] : List Int) ++ p) ++ p, ()), (s3, ())), ⟨⟨by show 8 ≤ (((([] : List Int) ++ p) ++ p).length : Int) ∧ (((([] : List Int) ++ p) ++ p).length : Int) ≤ 36; simp only [List.length_append, List.length_nil, lp]; omega, fun v hv => ?_⟩, hs5⟩, ?_⟩
          · have hv : v ∈ p := by simpa using hv
            rw [hp, List.drop_zero] at hv
            exact G.el v (List.mem_of_mem_take hv)
          · refine Round.no (by simp; omega) (Round.bind hO (Round.yes rfl (Round.chk rfl ?_)))
            simp only [ht, Int.toNat_natCast, show Int.toNat 0 = 0 from rfl, ← hp]
            refine Round.chk (decide_eq_true (by omega)) (Round.chk rfl (Round.yes (by rw [beq_iff_eq, Int.tmod_eq_emod_of_nonneg (by omega)]; omega) (Round.chk (decide_eq_true (by simp only [List.length_append, List.length_nil, lp]; omega)) (Round.chk (decide_eq_true (by simp only [List.length_append, List.length_nil, lp]; omega)) (Round.done (Evt.some _))))))
        · refine ⟨((out, ()), (s3, ())), ⟨S0, hs5⟩, Round.no (by simp; omega) (Round.bind hO (Round.yes rfl (Round.chk rfl ?_)))⟩
          simp only [ht]
          exact Round.chk (decide_eq_true (by omega)) (Round.chk rfl (Round.no (by rw [beq_iff_eq, Int.tmod_eq_emod_of_nonneg (by omega)]; omega) (Round.done (Evt.some _))))
  obtain ⟨⟨⟨c, _⟩, ⟨s', _⟩⟩, ⟨h1, h2⟩, hE⟩ := key
  exact ⟨c, s', hE, h1, h2⟩
/- spec.P6Cam -/
theorem e41 {b : List Int} (hb : ∀ v ∈ b, 0 ≤ v ∧ v ≤ 255) (hl : (b.length : Int) ≤ 4096) : ∃ c : List Int, Evt (fun n => call T C n 41 (b, ())) ((c, ()), ()) ∧ SmD c := by
  have h0 : SrcAt 0 ((b, 0, 0, ()) : Src) := ⟨hb, by show (b.length : Int) ≤ 1000000; omega, Int.le_refl _, Int.le_refl _⟩
  obtain ⟨c, s1, hE, S, _⟩ := e124 h0 (by omega)
  refine ⟨c, Evt.next ?_ (fun n => r41 n b), S⟩
  exact Evt.bind (e110 b) (Evt.bind hE (Evt.some _))
/- (impl.Cam).steps -/
theorem e132 (a : List Int) : Evt (fun n => call T C n 132 (a, ())) (((a.length : Int), ()), ()) := Evt.next (Evt.some _) (fun n => r132 n a)
/- impl.inRange -/
theorem e91 (a b c : Int) : Evt (fun n => call T C n 91 (a, b, c, ())) ((inR a b c, ()), ()) := by
  refine Evt.next ?_ (fun n => r91 n a b c)
  refine Evt.ite (fun h => ?_) (fun h => ?_)
  · refine (Evt.some _).of_eq fun n => ?_
    have h : b ≤ a := of_decide_eq_true h
    simp [inR, h]
    rfl
  · refine (Evt.some _).of_eq fun n => ?_
    have h : ¬ b ≤ a := by simpa using h
    simp [inR, h]
    rfl
/- impl.isSteps -/
theorem e115 (a : Int) : Evt (fun n => call T C n 115 (a, ())) ((inR a 8 360, ()), ()) := Evt.next (Evt.bind (e91 a 8 360) (Evt.some _)) (fun n => r115 n a)
/- impl.isLift -/
theorem e114 (a : Int) : Evt (fun n => call T C n 114 (a, ())) ((inR a 0 10000, ()), ()) := Evt.next (Evt.bind (e91 a 0 10000) (Evt.some _)) (fun n => r114 n a)
/- impl.ValidCam$1 -/
theorem e187 (v : Int) : Evt (fun n => call T C n 187 (v, ())) ((!okV v, ()), ()) := Evt.next (Evt.bind (e114 _) (Evt.some _)) (fun n => r187 n v)
/- slices.IndexFunc[impl.Cam,int16]{impl.ValidCam$1} -/
theorem e209 (l : List Int) (hl : (l.length : Int) ≤ 140737488351232) : Evt (fun n => call T C n 209 (l, ((), ()), ())) ((fi (fun v => !okV v) l 0, ()), ()) := by
  refine Evt.next ?_ (fun n => r209 n l ((), ()))
  refine loop_evt (fun (x : List Int × (Unit × Unit) × Int × Int × Unit) => x.1 = l ∧ x.2.2.1 = (l.length : Int) ∧ 0 ≤ x.2.2.2.1 ∧ x.2.2.2.1 ≤ (l.length : Int) ∧ fi (fun v => !okV v) l 0 = fi (fun v => !okV v) (l.drop x.2.2.2.1.toNat) x.2.2.2.1) (fun (x : List Int × (Unit × Unit) × Int × Int × Unit) => ((l.length : Int) - x.2.2.2.1).toNat) (x := (l, ((), ()), (l.length : Int), 0, ())) ⟨rfl, rfl, Int.le_refl _, by simp, by simp⟩ ?_
  rintro ⟨x1, u, m, i, _⟩ ⟨h', hm, h0, h1, h2⟩
  simp only at h' hm h0 h1 h2
  subst h'; subst hm
  refine Round.ite (fun hlt => ?_) (fun hge => ?_)
  · have hlt : i < (x1.length : Int) := of_decide_eq_true hlt
    obtain ⟨v, hv, hv'⟩ := idx_at h0 hlt
    have hd := drop_cons hv'
    refine Round.at hv (Round.bind (e187 _) (Round.ite (fun hb => ?_) (fun hb => ?_)))
    · have hb : okV v = false := by simpa using hb
      have h3 : fi (fun v => !okV v) x1 0 = i := by rw [h2, hd]; simp [fi, hb]
      rw [h3]
      exact Round.done (Evt.some _)
    · have hb : okV v = true := by simpa using hb
      have hw : wr .i64 (i + 1) = i + 1 := wrap_id (by omega) (by omega)
      refine Round.again _ ⟨⟨rfl, rfl, ?_, ?_, ?_⟩, ?_⟩ <;> simp only [hw]
      · omega
      · omega
      · rw [h2, hd, show (i + 1).toNat = i.toNat + 1 by omega]
        simp [fi, hb]
      · omega
  · have hge : ¬ i < (x1.length : Int) := by simpa using hge
    have : x1.drop i.toNat = [] := List.drop_of_length_le (by omega)
    rw [h2, this]
    exact Round.done (Evt.some _)
/- slices.ContainsFunc[impl.Cam,int16]{impl.ValidCam$1} -/
theorem e186 (l : List Int) (hl : (l.length : Int) ≤ 140737488351232) : Evt (fun n => call T C n 186 (l, ((), ()), ())) ((l.any (fun v => !okV v), ()), ()) := by
  refine Evt.next (Evt.bind (e209 l hl) ((Evt.some _).of_eq fun n => ?_)) (fun n => r186 n l ((), ()))
  simp only [fi_any _ l 0 (Int.le_refl _)]
  rfl
/- impl.ValidCam -/
theorem e125 (l : List Int) (hl : (l.length : Int) ≤ 140737488351232) : Evt (fun n => call T C n 125 (l, ())) ((okC l, ()), ()) := by
  refine Evt.next (Evt.bind (e132 l) (Evt.bind (e115 _) ?_)) (fun n => r125 n l)
  refine Evt.ite (fun h => ?_) (fun h => ?_)
  · refine Evt.bind (e186 l hl) ((Evt.some _).of_eq fun n => ?_)
    have h : inR (l.length : Int) 8 360 = true := h
    have : okC l = !l.any (fun v => !okV v) := by simp [okC, h, List.any_eq_not_all_not]
    rw [this]
    rfl
  · refine (Evt.some _).of_eq fun n => ?_
    have h : inR (l.length : Int) 8 360 = false := by simpa using h
    simp [okC, h]
    rfl
/- impl.floorDiv -/
theorem e210 {a b : Int} (hb : 0 < b) (h1 : -4500000000000000000 ≤ a) (h2 : a ≤ 4500000000000000000) : Evt (fun n => call T C n 210 (a, b, ())) ((a / b, ()), ()) := by
  have hbd := ediv_bd hb h1 h2 (by omega)
  have he := floorDiv_eq (a := a) hb
  refine Evt.next (Evt.chk (bne_pos hb) (Evt.chk (bne_pos hb) (Evt.ite (fun h => ?_) (fun h => ?_)))) (fun n => r210 n a b)
  · have h : Int.tmod a b < 0 := of_decide_eq_true h
    rw [if_pos h] at he
    refine (Evt.some _).of_eq fun n => ?_
    rw [wrap_id (x := Int.tdiv a b) (by omega) (by omega), wrap_id (by omega) (by omega), he]
    rfl
  · have h : ¬ Int.tmod a b < 0 := by simpa using h
    rw [if_neg h] at he
    refine (Evt.some _).of_eq fun n => ?_
    rw [wrap_id (x := Int.tdiv a b) (by omega) (by omega), he]
    rfl
/- impl.mod -/
theorem e188 {a b : Int} (hb : 0 < b) (hb' : b ≤ 1000000000000) (h1 : -1000000000000 ≤ a) (h2 : a ≤ 1000000000000) : Evt (fun n => call T C n 188 (a, b, ())) ((a % b, ()), ()) := by
  have hd := Int.emod_def a b
  have h3 := Int.emod_nonneg a (show b ≠ 0 by omega)
  have h4 := Int.emod_lt_of_pos a hb
  refine Evt.next (Evt.bind (e210 hb (by omega) (by omega)) ((Evt.some _).of_eq fun n => ?_)) (fun n => r188 n a b)
  simp only
  rw [wrap_id (x := b * (a / b)) (by omega) (by omega), ← hd, wrap_id (by omega) (by omega)]
  rfl
/- (impl.Cam).at -/
theorem e134 {l : List Int} (hr : Rng l) (h0 : 0 < (l.length : Int)) (h1 : (l.length : Int) ≤ 1000000) {x : Int} (hx : -4000000 ≤ x) (hx' : x ≤ 4000000) : Evt (fun n => call T C n 134 (l, x, ())) ((cAt l x, ()), ()) := by
  have hp := Int.emod_nonneg x (show (l.length : Int) ≠ 0 by omega)
  have hq := Int.emod_lt_of_pos x h0
  have hv := g_idx (l := l) hp hq
  refine Evt.next (Evt.bind (e132 l) (Evt.bind (e188 (a := x) h0 (by omega) (by omega) (by omega)) (Evt.at hv.idx ((Evt.some _).of_eq fun n => ?_)))) (fun n => r134 n l x)
  rw [hr.id hv.mem]
  rfl
/- (impl.Cam).change -/
theorem e128 {c : List Int} (hr : Rng c) (h0 : 0 < c.length) (h1 : c.length ≤ 1000) {x : Int} (x0 : -1000000 ≤ x) (x1 : x ≤ 1000000) : Evt (fun n => call T C n 128 (c, x, ())) ((cAt c (x + 1) - cAt c x, ()), ()) := by
  have b1 := hr.el _ (cAt_mem h0 (x + 1))
  have b2 := hr.el _ (cAt_mem h0 x)
  refine Evt.next ?_ (fun n => r128 n c x)
  rw [wrap_id (x := x + 1) (by omega) (by omega)]
  refine Evt.bind (e134 hr (by omega) (by omega) (by omega) (by omega)) (Evt.bind (e134 hr (by omega) (by omega) (by omega) (by omega)) ((Evt.some _).of_eq fun n => ?_))
  show some ((wr .i64 (cAt c (x + 1) - cAt c x), ()), ()) = _
  rw [wrap_id (x := cAt c (x + 1) - cAt c x) (by omega) (by omega)]
  rfl
/- (impl.Cam).numbers{(impl.Cam).change} -/
theorem e127 {c : List Int} (hr : Rng c) (h0 : 0 < c.length) (h1 : c.length ≤ 1000) : Evt (fun n => call T C n 127 (c, ((c, ()), ()), ())) ((tb c.length (fun i : Nat => cAt c ((i : Nat) + 1) - cAt c (i : Nat)), ()), (((c, ()), ()), ())) := by
  refine Evt.next (Evt.bind (e132 c) ?_) (fun n => r127 n c ((c, ()), ()))
  have hE : ∀ i : Nat, i < c.length → Evt (fun n => call T C n 128 (c, (i : Int), ())) ((cAt c ((i : Nat) + 1) - cAt c (i : Nat), ()), ()) := fun i hi => e128 hr h0 h1 (by omega) (by omega)
  obtain ⟨F, eF⟩ : ∃ F : Nat → Int, F = (fun i : Nat => cAt c ((i : Nat) + 1) - cAt c (i : Nat)) := ⟨_, rfl⟩
  rw [← eF]
  refine for_evt' 0 (c.length : Int) (fun i (_ : Unit) => (((c, ()), ()), tb i.toNat F, (c.length : Int), i, ())) (fun _ _ => True) (b0 := ()) rfl (by omega) trivial ?_ ?_
  · intro i' _ h2 h3 _
    obtain ⟨i, rfl⟩ : ∃ i : Nat, i' = i := ⟨i'.toNat, by omega⟩
    have hi : i < c.length := by omega
    have hc := hE i hi
    have lT : (tb i F).length = i := tb_len _ _
    have eFi : F i = cAt c ((i : Nat) + 1) - cAt c (i : Nat) := by rw [eF]
    rw [Int.toNat_natCast, show ((i : Int) + 1).toNat = i + 1 by omega]
    refine Round.yes (decide_eq_true h3) (Round.bind hc (Round.chk (decide_eq_true (by simp only [List.length_cons, List.length_nil, lT]; omega)) (Round.again _ ⟨(), ?_, trivial⟩)))
    rw [wrap_id (x := (i : Int) + 1) (by omega) (by omega), ← tb_snoc, eFi]
  · intro _ _
    rw [Int.toNat_natCast]
    exact Round.no (by simp) (Round.done (Evt.some _))
/- slices.Min[[]int64,int64] -/
theorem e126 (l : List Int) (hlen : (l.length : Int) ≤ 1000000) (h0 : 0 < (l.length : Int)) : Evt (fun n => call T C n 126 (l, ())) ((mnL l, ()), ()) := by
  obtain ⟨v0, hv0⟩ := at_of (l := l) (Int.le_refl 0) h0
  refine Evt.next (Evt.no (by simp; omega) (Evt.at hv0.idx ?_)) (fun n => r126 n l)
  have hh := (head_at hv0).1
  refine for_evt' 1 (l.length : Int) (fun i (_ : Unit) => (l, mnF (l.take i.toNat) v0, i, ())) (fun _ _ => True) (b0 := ()) (by
    have := (head_at hv0).2
    show _ = (l, mnF (l.take 1) v0, 1, ())
    rw [this]; simp [mnF]) (by omega) trivial ?_ ?_
  · intro i _ h2 h3 _
    obtain ⟨v, hv⟩ := at_of (l := l) (show 0 ≤ i by omega) h3
    simp only [wrap_id (x := i + 1) (by omega) (by omega)]
    refine Round.yes (decide_eq_true h3) (Round.at hv.idx (Round.again _ ⟨(), ?_, trivial⟩))
    rw [hv.take, mnF_snoc]
    congr 2
    split <;> omega
  · intro _ _
    have e2 : mnF (l.take (l.length : Int).toNat) v0 = mnL l := by rw [take_all, mnL, hh]
    simp only [e2]
    exact Round.no (by simp) (Round.done (Evt.some _))
/- impl.LeastRate -/
theorem e42 {c : List Int} (hr : Rng c) (ok : okC c = true) : Evt (fun n => call T C n 42 (c, ())) ((lrV c, 0, ()), ()) := by
  have hl := okC_len ok
  have hC := okC_el ok hr
  have hv := e125 c (by omega)
  rw [ok] at hv
  have hN := e127 hr (by omega) (by omega)
  have hM := e126 (chgL c) (by rw [chgL_len]; omega) (by rw [chgL_len]; omega)
  have hb := lr_bd (c := c) (by omega) (show (1 : Int) ≤ 10000 by omega) hC
  have hmn : -10000 ≤ mnL (chgL c) ∧ mnL (chgL c) ≤ 10000 := by
    obtain ⟨x, e⟩ := chgL_mem (mnL_mem (chgL_ne (show 0 < c.length by omega)))
    have := hC _ (cAt_mem (show 0 < c.length by omega) x)
    have := hC _ (cAt_mem (show 0 < c.length by omega) (x + 1))
    omega
  refine Evt.next (Evt.bind hv (Evt.no (by decide) (Evt.bind hN (Evt.bind hM ((Evt.some _).of_eq fun n => ?_))))) (fun n => r42 n c)
  simp only [wrap_id (x := 0 - mnL (chgL c)) (by omega) (by omega)]
  have : (if 0 - mnL (chgL c) > 1 then 0 - mnL (chgL c) else 1) = lrV c := by unfold lrV; split <;> omega
  rw [this]
  rfl
/- spec.l00In -/
theorem e85 (a b c : Int) : Evt (fun n => call T C n 85 (a, b, c, ())) ((inR a b c, ()), ()) := by
  refine Evt.next ?_ (fun n => r85 n a b c)
  refine Evt.ite (fun h => ?_) (fun h => ?_)
  · refine (Evt.some _).of_eq fun n => ?_
    have h : b ≤ a := of_decide_eq_true h
    simp [inR, h]
    rfl
  · refine (Evt.some _).of_eq fun n => ?_
    have h : ¬ b ≤ a := by simpa using h
    simp [inR, h]
    rfl
/- spec.l01Steps -/
theorem e117 (a : Int) : Evt (fun n => call T C n 117 (a, ())) ((inR a 8 360, ()), ()) := Evt.next (Evt.bind (e85 a 8 360) (Evt.some _)) (fun n => r117 n a)
/- spec.l01Lift -/
theorem e108 (a : Int) : Evt (fun n => call T C n 108 (a, ())) ((inR a 0 10000, ()), ()) := Evt.next (Evt.bind (e85 a 0 10000) (Evt.some _)) (fun n => r108 n a)
/- spec.l01Ok -/
theorem e129 (l : List Int) (hl : (l.length : Int) ≤ 140737488351232) : Evt (fun n => call T C n 129 (l, ())) ((okC l, ()), ()) := by
  refine Evt.next ?_ (fun n => r129 n l)
  refine Evt.bind (e117 _) ?_
  refine Evt.ite (fun h => ?_) (fun h => ?_)
  · refine (Evt.some _).of_eq fun n => ?_
    have h : inR (l.length : Int) 8 360 = false := by simpa using h
    simp [okC, h]
    rfl
  · have h : inR (l.length : Int) 8 360 = true := by simpa using h
    have he : okC l = l.all okV := by simp [okC, h]
    rw [he]
    refine loop_evt (fun (x : List Int × Int × Unit) => x.1 = l ∧ 0 ≤ x.2.1 ∧ x.2.1 ≤ (l.length : Int) ∧ l.all okV = (l.drop x.2.1.toNat).all okV) (fun (x : List Int × Int × Unit) => ((l.length : Int) - x.2.1).toNat) (x := (l, 0, ())) ⟨rfl, Int.le_refl _, by simp, by simp⟩ ?_
    rintro ⟨x1, i, _⟩ ⟨h', h0, h1, h2⟩
    simp only at h' h0 h1 h2
    subst h'
    refine Round.ite (fun hlt => ?_) (fun hge => ?_)
    · have hlt : i < (x1.length : Int) := of_decide_eq_true hlt
      obtain ⟨v, hv, hv'⟩ := idx_at h0 hlt
      have hd := drop_cons hv'
      refine Round.at hv (Round.bind (e108 _) (Round.ite (fun hb => ?_) (fun hb => ?_)))
      · have hb : okV v = false := by simpa [okV] using hb
        have h3 : x1.all okV = false := by rw [h2, hd]; simp [hb]
        rw [h3]
        exact Round.done (Evt.some _)
      · have hb : okV v = true := by simpa [okV] using hb
        have hw : wr .i64 (i + 1) = i + 1 := wrap_id (by omega) (by omega)
        refine Round.again _ ⟨⟨rfl, ?_, ?_, ?_⟩, ?_⟩ <;> simp only [hw]
        · omega
        · omega
        · rw [h2, hd, show (i + 1).toNat = i.toNat + 1 by omega]
          simp [hb]
        · omega
    · have hge : ¬ i < (x1.length : Int) := by simpa using hge
      have : x1.drop i.toNat = [] := List.drop_of_length_le (by omega)
      rw [h2, this]
      exact Round.done (Evt.some _)
/- spec.l01At -/
theorem e136 {l : List Int} (hr : Rng l) (h0 : 0 < (l.length : Int)) (h1 : (l.length : Int) ≤ 1000000) {x : Int} (hx : -4000000 ≤ x) (hx' : x ≤ 4000000) : ∃ v, l[(x % l.length).toNat]? = some v ∧ v ∈ l ∧ Evt (fun n => call T C n 136 (l, x, ())) ((v, ()), ()) := by
  have hp := Int.emod_nonneg x (show (l.length : Int) ≠ 0 by omega)
  obtain ⟨v, hv⟩ := at_of (l := l) hp (Int.emod_lt_of_pos x h0)
  refine ⟨v, hv.get, hv.mem, ?_⟩
  refine Evt.next (Evt.chk (bne_pos h0) (Evt.chk (bne_pos h0) ?_)) (fun n => r136 n l x)
  rw [turn_at h0 h1 hx hx']
  refine Evt.at hv.idx ((Evt.some _).of_eq fun n => ?_)
  rw [hr.id hv.mem]
  rfl
theorem e136' {l : List Int} (hr : Rng l) (h0 : 0 < (l.length : Int)) (h1 : (l.length : Int) ≤ 1000000) {x : Int} (hx : -4000000 ≤ x) (hx' : x ≤ 4000000) : Evt (fun n => call T C n 136 (l, x, ())) ((cAt l x, ()), ()) := by
  obtain ⟨v, hv, hm, he⟩ := e136 hr h0 h1 hx hx'
  have : cAt l x = v := by unfold cAt g; rw [List.getD_eq_getElem?_getD, hv]; rfl
  rw [this]; exact he
/- spec.l01Changes -/
theorem e130 {c : List Int} (hr : Rng c) (h0 : 0 < c.length) (h1 : c.length ≤ 1000) : Evt (fun n => call T C n 130 (c, ())) ((chgL c, ()), ()) := by
  refine Evt.next ?_ (fun n => r130 n c)
  refine for_evt' 0 (c.length : Int) (fun i (_ : Unit) => (c, (List.range i.toNat).map (fun i => cAt c ((i : Nat) + 1) - cAt c (i : Nat)), i, ())) (fun _ _ => True) (b0 := ()) rfl (by omega) trivial ?_ ?_
  · intro i _ h2 h3 _
    have b1 := hr.el _ (cAt_mem h0 (i + 1))
    have b2 := hr.el _ (cAt_mem h0 i)
    simp only [wr_succ h2 h3 (by omega)]
    refine Round.yes (decide_eq_true h3) (Round.bind (e136' hr (by omega) (by omega) (by omega) (by omega)) (Round.bind (e136' hr (by omega) (by omega) (by omega) (by omega)) (Round.chk (decide_eq_true (by simp; omega)) (Round.again _ ⟨(), ?_, trivial⟩))))
    show (c, _ ++ [wr .i64 (cAt c (i + 1) - cAt c i)], i + 1, ()) = _
    rw [wrap_id (x := cAt c (i + 1) - cAt c i) (by omega) (by omega), show (i + 1).toNat = i.toNat + 1 by omega, List.range_succ, List.map_append]
    simp [show ((i.toNat : Nat) : Int) = i by omega]
  · intro _ _
    exact Round.no (by simp) (Round.done (Evt.some ((chgL c, ()), ())))
/- spec.LeastRate -/
theorem e43 {c : List Int} (hr : Rng c) (ok : okC c = true) : Evt (fun n => call T C n 43 (c, ())) ((lrV c, 0, ()), ()) := by
  have hl := okC_len ok
  have hC := okC_el ok hr
  have hv := e129 c (by omega)
  rw [ok] at hv
  have hN := e130 hr (show 0 < c.length by omega) (by omega)
  refine Evt.next (Evt.bind hv (Evt.no (by decide) (Evt.bind hN ?_))) (fun n => r43 n c)
  obtain ⟨L, eL⟩ : ∃ L, L = chgL c := ⟨_, rfl⟩
  have hLl : L.length = c.length := by rw [eL, chgL_len]
  have hLb : ∀ v ∈ L, -10000 ≤ v ∧ v ≤ 10000 := fun v hv => by
    rw [eL] at hv
    obtain ⟨x, e⟩ := chgL_mem hv
    have := hC _ (cAt_mem (show 0 < c.length by omega) x)
    have := hC _ (cAt_mem (show 0 < c.length by omega) (x + 1))
    omega
  rw [← lr_nx (show 0 < c.length by omega), ← eL]
  refine for_evt' 0 (L.length : Int) (fun i (_ : Unit) => (L, nxF (L.take i.toNat) 1, i, ())) (fun _ _ => True) (b0 := ()) rfl (by omega) trivial ?_ ?_
  · intro i _ h2 h3 _
    obtain ⟨v, hv⟩ := at_of h2 h3
    have := hLb v hv.mem
    refine Round.yes (decide_eq_true h3) (Round.at hv.idx ?_)
    simp only [wrap_id (x := 0 - v) (by omega) (by omega)]
    refine Round.bind (e98 _ _) (Round.again _ ⟨(), ?_, trivial⟩)
    rw [hv.take, nxF_snoc, wr_succ h2 h3 (by omega), Int.zero_sub]
  · intro _ _
    simp only [take_all]
    exact Round.no (by simp) (Round.done (Evt.some _))
/- impl.LagCam$1 -/
theorem e133 {c : List Int} (hr : Rng c) (h0 : 0 < c.length) (h1 : c.length ≤ 1000) (hC : ∀ v ∈ c, 0 ≤ v ∧ v ≤ 10000) {r x : Int} (r0 : 1 ≤ r) (r1 : r ≤ 10000) (x0 : 0 ≤ x) (x1 : x ≤ 1000) : Evt (fun n => call T C n 133 (x, c, r, ())) ((lgTo c r x c.length, ()), (c, r, ())) := by
  refine Evt.next (Evt.bind (e134 hr (by omega) (by omega) (by omega) (by omega)) (Evt.bind (e132 c) ?_)) (fun n => r133 n x c r)
  refine for_evt' 0 (c.length : Int) (fun j (_ : Unit) => (x, c, r, lgTo c r x j.toNat, (c.length : Int), j, ())) (fun _ _ => True) (b0 := ()) rfl (by omega) trivial ?_ ?_
  · intro j' _ h2 h3 _
    obtain ⟨j, rfl⟩ : ∃ j : Nat, j' = j := ⟨j'.toNat, by omega⟩
    rw [Int.toNat_natCast, show ((j : Int) + 1).toNat = j + 1 by omega]
    have hm := mulB (a := r) (b := (j : Int)) (A := 10000) (B := 1000) (by omega) r1 (by omega) (by omega)
    have hb := hC _ (cAt_mem h0 (x - (j : Int)))
    refine Round.yes (decide_eq_true h3) ?_
    simp only [wrap_id (x := x - (j : Int)) (by omega) (by omega)]
    refine Round.bind (e134 hr (by omega) (by omega) (by omega) (by omega)) (Round.again _ ⟨(), ?_, trivial⟩)
    have e1 : wr .i64 (cAt c (x - (j : Int)) - wr .i64 (r * (j : Int))) = cAt c (x - (j : Int)) - r * (j : Int) := by rw [wrap_id (x := r * (j : Int)) (by omega) (by omega), wrap_id (by omega) (by omega)]
    have e2 : (if cAt c (x - (j : Int)) - r * (j : Int) > lgTo c r x j then cAt c (x - (j : Int)) - r * (j : Int) else lgTo c r x j) = lgTo c r x (j + 1) := by rw [lgTo]; split <;> omega
    rw [e1, e2, wrap_id (x := (j : Int) + 1) (by omega) (by omega)]
  · intro _ _
    rw [Int.toNat_natCast]
    exact Round.no (by simp) (Round.done (Evt.some _))
/- impl.camOf{impl.LagCam$1} -/
theorem e131 {c : List Int} (hr : Rng c) (h0 : 0 < c.length) (h1 : c.length ≤ 1000) (hC : ∀ v ∈ c, 0 ≤ v ∧ v ≤ 10000) {r : Int} (r0 : 1 ≤ r) (r1 : r ≤ 10000) : Evt (fun n => call T C n 131 (((c.length : Nat) : Int), ((), (c, (r, ()))), ())) ((tb (c.length) (fun i : Nat => lgTo c r (i : Nat) c.length), 0, ()), (((), (c, (r, ()))), ())) := by
  refine Evt.next ?_ (fun n => r131 n ((c.length : Nat) : Int) ((), (c, (r, ()))))
  have hB : ∀ i : Nat, i < c.length → 0 ≤ lgTo c r (i : Nat) c.length ∧ lgTo c r (i : Nat) c.length ≤ 10000 := fun i hi => lgTo_bd h0 (by omega) hC _ _
  have hE : ∀ i : Nat, i < c.length → Evt (fun n => call T C n 133 ((i : Int), c, r, ())) ((lgTo c r (i : Nat) c.length, ()), (c, r, ())) := fun i hi => e133 hr h0 h1 hC r0 r1 (by omega) (by omega)
  obtain ⟨F, eF⟩ : ∃ F : Nat → Int, F = (fun i : Nat => lgTo c r (i : Nat) c.length) := ⟨_, rfl⟩
  rw [← eF]
  refine for_evt' 0 ((c.length : Nat) : Int) (fun i (_ : Unit) => (((), (c, (r, ()))), tb i.toNat F, ((c.length : Nat) : Int), i, ())) (fun _ _ => True) (b0 := ()) rfl (by omega) trivial ?_ ?_
  · intro i' _ h2 h3 _
    obtain ⟨i, rfl⟩ : ∃ i : Nat, i' = i := ⟨i'.toNat, by omega⟩
    have hi : i < c.length := by omega
    have hb := hB i hi
    have hc := hE i hi
    have hl := e114 (lgTo c r (i : Nat) c.length)
    rw [inR_iff.2 hb] at hl
    have eFi : F i = lgTo c r (i : Nat) c.length := by rw [eF]
    have lT : (tb i F).length = i := tb_len _ _
    rw [Int.toNat_natCast, show ((i : Int) + 1).toNat = i + 1 by omega]
    refine Round.yes (decide_eq_true h3) (Round.bind hc (Round.bind hl (Round.no (by simp) (Round.chk (decide_eq_true (by simp only [List.length_cons, List.length_nil, lT]; omega)) (Round.again _ ⟨(), ?_, trivial⟩)))))
    rw [wrap_id (x := (i : Int) + 1) (by omega) (by omega), ← tb_snoc, eFi, wrap16 (x := lgTo c r (i : Nat) c.length) (by omega) (by omega)]
  · intro _ _
    rw [Int.toNat_natCast]
    exact Round.no (by simp) (Round.done (Evt.some _))
/- impl.LagCam -/
theorem e44 {c : List Int} (hr : Rng c) (ok : okC c = true) {r : Int} (r0 : 1 ≤ r) (r1 : r ≤ 10000) : Evt (fun n => call T C n 44 (c, r, ())) ((lgL c r, 0, ()), ()) := by
  have hl := okC_len ok
  have hC := okC_el ok hr
  have hv := e125 c (by omega)
  rw [ok] at hv
  have hi := e91 r 1 10000
  rw [show inR r 1 10000 = true from inR_iff.2 ⟨r0, r1⟩] at hi
  refine Evt.next ?_ (fun n => r44 n c r)
  exact Evt.bind hv (Evt.no (by decide) (Evt.bind hi (Evt.no (by decide) (Evt.bind (e132 c) (Evt.bind (e131 hr (by omega) (by omega) hC r0 r1) (Evt.some _))))))
/- spec.l01Same -/
theorem e135 (l : List Int) (hl : (l.length : Int) ≤ 1000000) : Evt (fun n => call T C n 135 (l, l, ())) ((true, ()), ()) := by
  refine Evt.next (Evt.no (by simp) ?_) (fun n => r135 n l l)
  refine for_evt' 0 (l.length : Int) (fun i (_ : Unit) => (l, l, i, ())) (fun _ _ => True) (b0 := ()) rfl (by omega) trivial ?_ ?_
  · intro i _ h2 h3 _
    obtain ⟨v, hv⟩ := at_of h2 h3
    exact Round.yes (decide_eq_true h3) (Round.at hv.idx (Round.at hv.idx (Round.no (by simp) (Round.again _ ⟨(), by rw [wr_succ h2 h3 (by omega)], trivial⟩))))
  · intro _ _
    exact Round.no (by simp) (Round.done (Evt.some _))
theorem e1352 (a b : List Int) (hl : (a.length : Int) ≤ 1000000) : Evt (fun n => call T C n 135 (a, b, ())) ((decide (a = b), ()), ()) := by
  by_cases hlen : a.length = b.length
  · refine Evt.next (Evt.no (by simp [hlen]) ?_) (fun n => r135 n a b)
    refine for_evt' 0 (a.length : Int) (fun i (_ : Unit) => (a, b, i, ())) (fun i _ => a.take i.toNat = b.take i.toNat) (b0 := ()) rfl (by omega) (by simp) ?_ ?_
    · intro i _ h2 h3 he
      obtain ⟨u, hu⟩ := at_of h2 h3
      obtain ⟨v, hv⟩ := at_of (l := b) h2 (by omega)
      refine Round.yes (decide_eq_true h3) (Round.at hu.idx (Round.at hv.idx (Round.ite (fun h => ?_) (fun h => ?_))))
      · have h : u ≠ v := by simpa using h
        have : a ≠ b := fun e => by
          subst e
          have := hu.get.symm.trans hv.get
          exact h (Option.some.inj this)
        rw [decide_eq_false this]
        exact Round.done (Evt.some _)
      · have h : u = v := by simpa using h
        exact Round.again _ ⟨(), by rw [wr_succ h2 h3 (by omega)], by rw [hu.take, hv.take, he, h]⟩
    · intro _ he
      have he : a = b := by rwa [take_all, hlen, take_all] at he
      rw [decide_eq_true he]
      exact Round.no (by simp) (Round.done (Evt.some _))
  · have : a ≠ b := fun e => hlen (by rw [e])
    rw [decide_eq_false this]
    exact Evt.next (Evt.yes (by simp; omega) (Evt.some _)) (fun n => r135 n a b)
/- spec.SameCam -/
theorem e45 (l : List Int) (hl : (l.length : Int) ≤ 1000000) : Evt (fun n => call T C n 45 (l, l, ())) ((true, ()), ()) := Evt.next (Evt.bind (e135 l hl) (Evt.some _)) (fun n => r45 n l l)
theorem e452 (a b : List Int) (hl : (a.length : Int) ≤ 1000000) : Evt (fun n => call T C n 45 (a, b, ())) ((decide (a = b), ()), ()) := Evt.next (Evt.bind (e1352 a b hl) (Evt.some _)) (fun n => r45 n a b)
/- spec.P6Pick -/
theorem e46 {b : List Int} (hb : ∀ v ∈ b, 0 ≤ v ∧ v ≤ 255) (hl : (b.length : Int) ≤ 4096) {m : Int} (m1 : 1 ≤ m) (m2 : m ≤ 1000000) : ∃ v : Int, Evt (fun n => call T C n 46 (b, m, ())) ((v, ()), ()) ∧ 0 ≤ v ∧ v < m := by
  have h0 : SrcAt 0 ((b, 0, 0, ()) : Src) := ⟨hb, by show (b.length : Int) ≤ 1000000; omega, Int.le_refl _, Int.le_refl _⟩
  obtain ⟨v, s1, hE, v0, v1, _⟩ := e111 h0 (by omega) m1 m2
  refine ⟨v, Evt.next ?_ (fun n => r46 n b m), v0, v1⟩
  exact Evt.bind (e110 b) (Evt.bind hE (Evt.some _))
/- spec.LagCam -/
theorem e47 {c : List Int} (hr : Rng c) (ok : okC c = true) {r : Int} (r0 : 1 ≤ r) (r1 : r ≤ 10000) : Evt (fun n => call T C n 47 (c, r, ())) ((lgL c r, 0, ()), ()) := by
  have hl := okC_len ok
  have hC := okC_el ok hr
  have hv := e129 c (by omega)
  rw [ok] at hv
  have hi := e85 r 1 10000
  rw [show inR r 1 10000 = true from inR_iff.2 ⟨r0, r1⟩] at hi
  refine Evt.next (Evt.bind hv (Evt.no (by decide) (Evt.bind hi (Evt.no (by decide) ?_)))) (fun n => r47 n c r)
  have h0 : 0 < c.length := by omega
  refine for_evt' 0 (c.length : Int) (fun i (_ : Unit) => (c, r, tb i.toNat (fun i => lgTo c r (i : Nat) c.length), i, ())) (fun _ _ => True) (b0 := ()) rfl (by omega) trivial ?_ ?_
  · intro i' _ h2 h3 _
    obtain ⟨i, rfl⟩ : ∃ i : Nat, i' = i := ⟨i'.toNat, by omega⟩
    rw [Int.toNat_natCast, show ((i : Int) + 1).toNat = i + 1 by omega]
    have hb0 := lgTo_bd h0 (r := r) (by omega) hC (i : Int) c.length
    obtain ⟨O, eO⟩ : ∃ O, O = tb i (fun i => lgTo c r (i : Nat) c.length) := ⟨_, rfl⟩
    have lO : O.length = i := by rw [eO]; exact tb_len _ _
    rw [← tb_snoc, ← eO]
    refine Round.yes (decide_eq_true h3) (Round.bind (e136' hr (by omega) (by omega) (x := (i : Int)) (by omega) (by omega)) ?_)
    refine for_round' 1 (c.length : Int) (fun j (_ : Unit) => (c, r, O, (i : Int), lgTo c r (i : Int) j.toNat, j, ())) (fun _ _ => True) (b0 := ()) (by rw [show (1 : Int).toNat = 1 from rfl, lgTo_one]) (by omega) trivial ?_ ?_
    · intro j' _ h4 h5 _
      obtain ⟨j, rfl⟩ : ∃ j : Nat, j' = j := ⟨j'.toNat, by omega⟩
      rw [Int.toNat_natCast, show ((j : Int) + 1).toNat = j + 1 by omega]
      have hm := mulB (a := r) (b := (j : Int)) (A := 10000) (B := 1000) (by omega) r1 (by omega) (by omega)
      have hb := hC _ (cAt_mem h0 ((i : Int) - (j : Int)))
      refine Round.yes (decide_eq_true h5) ?_
      simp only [wrap_id (x := (i : Int) - (j : Int)) (by omega) (by omega)]
      refine Round.bind (e136' hr (by omega) (by omega) (by omega) (by omega)) ?_
      have e1 : wr .i64 (cAt c ((i : Int) - (j : Int)) - wr .i64 (r * (j : Int))) = cAt c ((i : Int) - (j : Int)) - r * (j : Int) := by rw [wrap_id (x := r * (j : Int)) (by omega) (by omega), wrap_id (by omega) (by omega)]
      rw [e1]
      refine Round.bind (e98 _ _) (Round.inr _ ⟨(), ?_, trivial⟩)
      rw [lgTo, wrap_id (x := (j : Int) + 1) (by omega) (by omega)]
    · intro _ _
      rw [Int.toNat_natCast]
      refine Round.no (by simp) (Round.chk (decide_eq_true (by simp only [List.length_cons, List.length_nil, lO]; omega)) (Round.inl _ ⟨(), ?_, trivial⟩))
      rw [wrap16 (x := lgTo c r (i : Int) c.length) (by omega) (by omega), wrap_id (x := (i : Int) + 1) (by omega) (by omega)]
  · intro _ _
    rw [Int.toNat_natCast]
    exact Round.no (by simp) (Round.done (Evt.some _))
/- impl.footCode -/
theorem e137 {c : List Int} (hr : Rng c) (ok : okC c = true) {f : Nat} (f1 : f ≤ 40) : Evt (fun n => call T C n 137 (c, (f : Int), ())) ((0, ()), ()) := by
  have hl := okC_len ok
  have hC := okC_el ok hr
  have hv := e125 c (by omega)
  rw [ok] at hv
  have hi := e91 (f : Int) 0 40
  rw [show inR (f : Int) 0 40 = true from inR_iff.2 ⟨by omega, by omega⟩] at hi
  exact Evt.next (Evt.bind hv (Evt.no (by decide) (Evt.bind hi (Evt.no (by decide) (Evt.some _))))) (fun n => r137 n c f)
/- impl.greater -/
theorem e139 (a b : Int) : Evt (fun n => call T C n 139 (a, b, ())) ((max a b, ()), ()) := by
  refine Evt.next ((Evt.some _).of_eq fun n => ?_) (fun n => r139 n a b)
  have : (if b > a then b else a) = max a b := by split <;> omega
  rw [this]
  rfl
/- (impl.Cam).beside$1 -/
theorem e189 {c : List Int} (hr : Rng c) (h0 : 0 < c.length) (h1 : c.length ≤ 1000) {f : Nat} (f1 : f ≤ 40) {x : Int} (x0 : 0 ≤ x) (x1 : x ≤ 1000) : Evt (fun n => call T C n 189 (x, c, (f : Int), ((), ()), ())) ((wTo max (cAt c) f x (2 * f + 1), ()), (c, (f : Int), ((), ()), ())) := by
  refine Evt.next (Evt.bind (e134 hr (by omega) (by omega) (by omega) (by omega)) ?_) (fun n => r189 n x c f ((), ()))
  refine for_evt' (-(f : Int)) ((f : Int) + 1) (fun k (_ : Unit) => (x, c, (f : Int), ((), ()), wTo max (cAt c) f x (k + f).toNat, k, ())) (fun _ _ => True) (b0 := ()) (by rw [wrap_id (x := 0 - (f : Int)) (by omega) (by omega), show -(f : Int) + f = 0 by omega, Int.zero_sub]; rfl) (by omega) trivial ?_ ?_
  · intro k _ h2 h3 _
    refine Round.yes (decide_eq_true (show k ≤ (f : Int) by omega)) ?_
    simp only [wrap_id (x := x + k) (by omega) (by omega)]
    refine Round.bind (e134 hr (by omega) (by omega) (by omega) (by omega)) (Round.bind (e139 _ _) (Round.again _ ⟨(), ?_, trivial⟩))
    rw [show (k + 1 + (f : Int)).toNat = (k + f).toNat + 1 by omega, wTo, show (((k + (f : Int)).toNat : Nat) : Int) - (f : Nat) = k by omega, wrap_id (x := k + 1) (by omega) (by omega)]
  · intro _ _
    rw [show ((f : Int) + 1 + f).toNat = 2 * f + 1 by omega]
    exact Round.no (by simp; omega) (Round.done (Evt.some _))
/- impl.camOf{(impl.Cam).beside$1} -/
theorem e1131 {c : List Int} (hr : Rng c) (h0 : 0 < c.length) (h1 : c.length ≤ 1000) (hC : ∀ v ∈ c, 0 ≤ v ∧ v ≤ 10000) {f : Nat} (f1 : f ≤ 40) : Evt (fun n => call T C n 1131 (((c.length : Nat) : Int), ((), (c, ((f : Int), (((), ()), ())))), ())) ((tb (c.length) (fun i : Nat => wTo max (cAt c) f (i : Nat) (2 * f + 1)), 0, ()), (((), (c, ((f : Int), (((), ()), ())))), ())) := by
  refine Evt.next ?_ (fun n => r1131 n ((c.length : Nat) : Int) ((), (c, ((f : Int), (((), ()), ())))))
  have hB : ∀ i : Nat, i < c.length → 0 ≤ wTo max (cAt c) f (i : Nat) (2 * f + 1) ∧ wTo max (cAt c) f (i : Nat) (2 * f + 1) ≤ 10000 := fun i hi => wTo_bd max_or (fun x => hC _ (cAt_mem h0 x)) f _ _
  have hE : ∀ i : Nat, i < c.length → Evt (fun n => call T C n 189 ((i : Int), c, (f : Int), ((), ()), ())) ((wTo max (cAt c) f (i : Nat) (2 * f + 1), ()), (c, (f : Int), ((), ()), ())) := fun i hi => e189 hr h0 h1 f1 (by omega) (by omega)
  obtain ⟨F, eF⟩ : ∃ F : Nat → Int, F = (fun i : Nat => wTo max (cAt c) f (i : Nat) (2 * f + 1)) := ⟨_, rfl⟩
  rw [← eF]
  refine for_evt' 0 ((c.length : Nat) : Int) (fun i (_ : Unit) => (((), (c, ((f : Int), (((), ()), ())))), tb i.toNat F, ((c.length : Nat) : Int), i, ())) (fun _ _ => True) (b0 := ()) rfl (by omega) trivial ?_ ?_
  · intro i' _ h2 h3 _
    obtain ⟨i, rfl⟩ : ∃ i : Nat, i' = i := ⟨i'.toNat, by omega⟩
    have hi : i < c.length := by omega
    have hb := hB i hi
    have hc := hE i hi
    have hl := e114 (wTo max (cAt c) f (i : Nat) (2 * f + 1))
    rw [inR_iff.2 hb] at hl
    have eFi : F i = wTo max (cAt c) f (i : Nat) (2 * f + 1) := by rw [eF]
    have lT : (tb i F).length = i := tb_len _ _
    rw [Int.toNat_natCast, show ((i : Int) + 1).toNat = i + 1 by omega]
    refine Round.yes (decide_eq_true h3) (Round.bind hc (Round.bind hl (Round.no (by simp) (Round.chk (decide_eq_true (by simp only [List.length_cons, List.length_nil, lT]; omega)) (Round.again _ ⟨(), ?_, trivial⟩)))))
    rw [wrap_id (x := (i : Int) + 1) (by omega) (by omega), ← tb_snoc, eFi, wrap16 (x := wTo max (cAt c) f (i : Nat) (2 * f + 1)) (by omega) (by omega)]
  · intro _ _
    rw [Int.toNat_natCast]
    exact Round.no (by simp) (Round.done (Evt.some _))
/- (impl.Cam).beside{impl.greater} -/
theorem e138 {c : List Int} (hr : Rng c) (h0 : 0 < c.length) (h1 : c.length ≤ 1000) (hC : ∀ v ∈ c, 0 ≤ v ∧ v ≤ 10000) {f : Nat} (f1 : f ≤ 40) : Evt (fun n => call T C n 138 (c, (f : Int), ((), ()), ())) ((wL max c f, ()), ()) := by
  refine Evt.next ?_ (fun n => r138 n c f ((), ()))
  exact Evt.bind (e132 c) (Evt.bind (e1131 hr h0 h1 hC f1) (Evt.some _))
/- impl.FootCam -/
theorem e48 {c : List Int} (hr : Rng c) (ok : okC c = true) {f : Nat} (f1 : f ≤ 40) : Evt (fun n => call T C n 48 (c, (f : Int), ())) ((wL max c f, 0, ()), ()) := by
  have hl := okC_len ok
  have hC := okC_el ok hr
  refine Evt.next ?_ (fun n => r48 n c f)
  exact Evt.bind (e137 hr ok f1) (Evt.no (by simp) (Evt.bind (e138 hr (by omega) (by omega) hC f1) (Evt.some _)))
/- spec.l03Footed -/
theorem e140 {c : List Int} (hr : Rng c) (ok : okC c = true) {f : Nat} (f1 : f ≤ 40) : Evt (fun n => call T C n 140 (c, (f : Int), ())) ((0, ()), ()) := by
  have hl := okC_len ok
  have hC := okC_el ok hr
  have hv := e129 c (by omega)
  rw [ok] at hv
  have hi := e85 (f : Int) 0 40
  rw [show inR (f : Int) 0 40 = true from inR_iff.2 ⟨by omega, by omega⟩] at hi
  exact Evt.next (Evt.bind hv (Evt.no (by decide) (Evt.bind hi (Evt.no (by decide) (Evt.some _))))) (fun n => r140 n c f)
/- spec.l03Foot -/
theorem e141 {c : List Int} (hr : Rng c) (h0 : 0 < c.length) (h1 : c.length ≤ 1000) (hC : ∀ v ∈ c, 0 ≤ v ∧ v ≤ 10000) {f : Nat} (f1 : f ≤ 40) : Evt (fun n => call T C n 141 (c, (f : Int), true, ())) ((wL max c f, ()), ()) := by
  refine Evt.next ?_ (fun n => r141 n c f true)
  refine for_evt' 0 (c.length : Int) (fun i (_ : Unit) => (c, (f : Int), true, tb i.toNat (fun i => wTo max (cAt c) f (i : Nat) (2 * f + 1)), i, ())) (fun _ _ => True) (b0 := ()) rfl (by omega) trivial ?_ ?_
  · intro i' _ h2 h3 _
    obtain ⟨i, rfl⟩ : ∃ i : Nat, i' = i := ⟨i'.toNat, by omega⟩
    rw [Int.toNat_natCast, show ((i : Int) + 1).toNat = i + 1 by omega]
    have hb0 := wTo_bd max_or (fun x => hC _ (cAt_mem h0 x)) f (i : Int) (2 * f + 1)
    obtain ⟨O, eO⟩ : ∃ O, O = tb i (fun i => wTo max (cAt c) f (i : Nat) (2 * f + 1)) := ⟨_, rfl⟩
    have lO : O.length = i := by rw [eO]; exact tb_len _ _
    rw [← tb_snoc, ← eO]
    refine Round.yes (decide_eq_true h3) (Round.bind (e136' hr (by omega) (by omega) (x := (i : Int)) (by omega) (by omega)) ?_)
    refine for_round' (-(f : Int)) ((f : Int) + 1) (fun k (_ : Unit) => (c, (f : Int), true, O, (i : Int), wTo max (cAt c) f (i : Int) (k + f).toNat, k, ())) (fun _ _ => True) (b0 := ()) (by rw [wrap_id (x := 0 - (f : Int)) (by omega) (by omega), show -(f : Int) + f = 0 by omega, Int.zero_sub]; rfl) (by omega) trivial ?_ ?_
    · intro k _ h4 h5 _
      refine Round.yes (decide_eq_true (show k ≤ (f : Int) by omega)) ?_
      simp only [wrap_id (x := (i : Int) + k) (by omega) (by omega)]
      refine Round.bind (e136' hr (by omega) (by omega) (by omega) (by omega)) (Round.yes (by simp) (Round.bind (e98 _ _) (Round.inr _ ⟨(), ?_, trivial⟩)))
      rw [show (k + 1 + (f : Int)).toNat = (k + f).toNat + 1 by omega, wTo, show (((k + (f : Int)).toNat : Nat) : Int) - (f : Nat) = k by omega, wrap_id (x := k + 1) (by omega) (by omega)]
    · intro _ _
      rw [show ((f : Int) + 1 + f).toNat = 2 * f + 1 by omega]
      refine Round.no (by simp; omega) (Round.chk (decide_eq_true (by simp only [List.length_cons, List.length_nil, lO]; omega)) (Round.inl _ ⟨(), ?_, trivial⟩))
      rw [wrap16 (x := wTo max (cAt c) f (i : Int) (2 * f + 1)) (by omega) (by omega), wrap_id (x := (i : Int) + 1) (by omega) (by omega)]
  · intro _ _
    rw [Int.toNat_natCast]
    exact Round.no (by simp) (Round.done (Evt.some _))
theorem e1412 {c : List Int} (hr : Rng c) (h0 : 0 < c.length) (h1 : c.length ≤ 1000) (hC : ∀ v ∈ c, 0 ≤ v ∧ v ≤ 10000) {f : Nat} (f1 : f ≤ 40) : Evt (fun n => call T C n 141 (c, (f : Int), false, ())) ((wL min c f, ()), ()) := by
  refine Evt.next ?_ (fun n => r141 n c f false)
  refine for_evt' 0 (c.length : Int) (fun i (_ : Unit) => (c, (f : Int), false, tb i.toNat (fun i => wTo min (cAt c) f (i : Nat) (2 * f + 1)), i, ())) (fun _ _ => True) (b0 := ()) rfl (by omega) trivial ?_ ?_
  · intro i' _ h2 h3 _
    obtain ⟨i, rfl⟩ : ∃ i : Nat, i' = i := ⟨i'.toNat, by omega⟩
    rw [Int.toNat_natCast, show ((i : Int) + 1).toNat = i + 1 by omega]
    have hb0 := wTo_bd min_or (fun x => hC _ (cAt_mem h0 x)) f (i : Int) (2 * f + 1)
    obtain ⟨O, eO⟩ : ∃ O, O = tb i (fun i => wTo min (cAt c) f (i : Nat) (2 * f + 1)) := ⟨_, rfl⟩
    have lO : O.length = i := by rw [eO]; exact tb_len _ _
    rw [← tb_snoc, ← eO]
    refine Round.yes (decide_eq_true h3) (Round.bind (e136' hr (by omega) (by omega) (x := (i : Int)) (by omega) (by omega)) ?_)
    refine for_round' (-(f : Int)) ((f : Int) + 1) (fun k (_ : Unit) => (c, (f : Int), false, O, (i : Int), wTo min (cAt c) f (i : Int) (k + f).toNat, k, ())) (fun _ _ => True) (b0 := ()) (by rw [wrap_id (x := 0 - (f : Int)) (by omega) (by omega), show -(f : Int) + f = 0 by omega, Int.zero_sub]; rfl) (by omega) trivial ?_ ?_
    · intro k _ h4 h5 _
      refine Round.yes (decide_eq_true (show k ≤ (f : Int) by omega)) ?_
      simp only [wrap_id (x := (i : Int) + k) (by omega) (by omega)]
      refine Round.bind (e136' hr (by omega) (by omega) (by omega) (by omega)) (Round.no (by simp) (Round.bind (e184 _ _) (Round.inr _ ⟨(), ?_, trivial⟩)))
      rw [show (k + 1 + (f : Int)).toNat = (k + f).toNat + 1 by omega, wTo, show (((k + (f : Int)).toNat : Nat) : Int) - (f : Nat) = k by omega, wrap_id (x := k + 1) (by omega) (by omega)]
    · intro _ _
      rw [show ((f : Int) + 1 + f).toNat = 2 * f + 1 by omega]
      refine Round.no (by simp; omega) (Round.chk (decide_eq_true (by simp only [List.length_cons, List.length_nil, lO]; omega)) (Round.inl _ ⟨(), ?_, trivial⟩))
      rw [wrap16 (x := wTo min (cAt c) f (i : Int) (2 * f + 1)) (by omega) (by omega), wrap_id (x := (i : Int) + 1) (by omega) (by omega)]
  · intro _ _
    rw [Int.toNat_natCast]
    exact Round.no (by simp) (Round.done (Evt.some _))
/- spec.FootCam -/
theorem e49 {c : List Int} (hr : Rng c) (ok : okC c = true) {f : Nat} (f1 : f ≤ 40) : Evt (fun n => call T C n 49 (c, (f : Int), ())) ((wL max c f, 0, ()), ()) := by
  have hl := okC_len ok
  have hC := okC_el ok hr
  refine Evt.next ?_ (fun n => r49 n c f)
  exact Evt.bind (e140 hr ok f1) (Evt.no (by simp) (Evt.bind (e141 hr (by omega) (by omega) hC f1) (Evt.some _)))
/- impl.lesser -/
theorem e190 (a b : Int) : Evt (fun n => call T C n 190 (a, b, ())) ((min a b, ()), ()) := by
  refine Evt.next ((Evt.some _).of_eq fun n => ?_) (fun n => r190 n a b)
  have : (if b < a then b else a) = min a b := by split <;> omega
  rw [this]
  rfl
/- (impl.Cam).beside$1' -/
theorem e1189 {c : List Int} (hr : Rng c) (h0 : 0 < c.length) (h1 : c.length ≤ 1000) {f : Nat} (f1 : f ≤ 40) {x : Int} (x0 : 0 ≤ x) (x1 : x ≤ 1000) : Evt (fun n => call T C n 1189 (x, c, (f : Int), ((), ()), ())) ((wTo min (cAt c) f x (2 * f + 1), ()), (c, (f : Int), ((), ()), ())) := by
  refine Evt.next (Evt.bind (e134 hr (by omega) (by omega) (by omega) (by omega)) ?_) (fun n => r1189 n x c f ((), ()))
  refine for_evt' (-(f : Int)) ((f : Int) + 1) (fun k (_ : Unit) => (x, c, (f : Int), ((), ()), wTo min (cAt c) f x (k + f).toNat, k, ())) (fun _ _ => True) (b0 := ()) (by rw [wrap_id (x := 0 - (f : Int)) (by omega) (by omega), show -(f : Int) + f = 0 by omega, Int.zero_sub]; rfl) (by omega) trivial ?_ ?_
  · intro k _ h2 h3 _
    refine Round.yes (decide_eq_true (show k ≤ (f : Int) by omega)) ?_
    simp only [wrap_id (x := x + k) (by omega) (by omega)]
    refine Round.bind (e134 hr (by omega) (by omega) (by omega) (by omega)) (Round.bind (e190 _ _) (Round.again _ ⟨(), ?_, trivial⟩))
    rw [show (k + 1 + (f : Int)).toNat = (k + f).toNat + 1 by omega, wTo, show (((k + (f : Int)).toNat : Nat) : Int) - (f : Nat) = k by omega, wrap_id (x := k + 1) (by omega) (by omega)]
  · intro _ _
    rw [show ((f : Int) + 1 + f).toNat = 2 * f + 1 by omega]
    exact Round.no (by simp; omega) (Round.done (Evt.some _))
/- impl.camOf{(impl.Cam).beside$1}' -/
theorem e2131 {c : List Int} (hr : Rng c) (h0 : 0 < c.length) (h1 : c.length ≤ 1000) (hC : ∀ v ∈ c, 0 ≤ v ∧ v ≤ 10000) {f : Nat} (f1 : f ≤ 40) : Evt (fun n => call T C n 2131 (((c.length : Nat) : Int), ((), (c, ((f : Int), (((), ()), ())))), ())) ((tb (c.length) (fun i : Nat => wTo min (cAt c) f (i : Nat) (2 * f + 1)), 0, ()), (((), (c, ((f : Int), (((), ()), ())))), ())) := by
  refine Evt.next ?_ (fun n => r2131 n ((c.length : Nat) : Int) ((), (c, ((f : Int), (((), ()), ())))))
  have hB : ∀ i : Nat, i < c.length → 0 ≤ wTo min (cAt c) f (i : Nat) (2 * f + 1) ∧ wTo min (cAt c) f (i : Nat) (2 * f + 1) ≤ 10000 := fun i hi => wTo_bd min_or (fun x => hC _ (cAt_mem h0 x)) f _ _
  have hE : ∀ i : Nat, i < c.length → Evt (fun n => call T C n 1189 ((i : Int), c, (f : Int), ((), ()), ())) ((wTo min (cAt c) f (i : Nat) (2 * f + 1), ()), (c, (f : Int), ((), ()), ())) := fun i hi => e1189 hr h0 h1 f1 (by omega) (by omega)
  obtain ⟨F, eF⟩ : ∃ F : Nat → Int, F = (fun i : Nat => wTo min (cAt c) f (i : Nat) (2 * f + 1)) := ⟨_, rfl⟩
  rw [← eF]
  refine for_evt' 0 ((c.length : Nat) : Int) (fun i (_ : Unit) => (((), (c, ((f : Int), (((), ()), ())))), tb i.toNat F, ((c.length : Nat) : Int), i, ())) (fun _ _ => True) (b0 := ()) rfl (by omega) trivial ?_ ?_
  · intro i' _ h2 h3 _
    obtain ⟨i, rfl⟩ : ∃ i : Nat, i' = i := ⟨i'.toNat, by omega⟩
    have hi : i < c.length := by omega
    have hb := hB i hi
    have hc := hE i hi
    have hl := e114 (wTo min (cAt c) f (i : Nat) (2 * f + 1))
    rw [inR_iff.2 hb] at hl
    have eFi : F i = wTo min (cAt c) f (i : Nat) (2 * f + 1) := by rw [eF]
    have lT : (tb i F).length = i := tb_len _ _
    rw [Int.toNat_natCast, show ((i : Int) + 1).toNat = i + 1 by omega]
    refine Round.yes (decide_eq_true h3) (Round.bind hc (Round.bind hl (Round.no (by simp) (Round.chk (decide_eq_true (by simp only [List.length_cons, List.length_nil, lT]; omega)) (Round.again _ ⟨(), ?_, trivial⟩)))))
    rw [wrap_id (x := (i : Int) + 1) (by omega) (by omega), ← tb_snoc, eFi, wrap16 (x := wTo min (cAt c) f (i : Nat) (2 * f + 1)) (by omega) (by omega)]
  · intro _ _
    rw [Int.toNat_natCast]
    exact Round.no (by simp) (Round.done (Evt.some _))
/- (impl.Cam).beside{impl.lesser} -/
theorem e1138 {c : List Int} (hr : Rng c) (h0 : 0 < c.length) (h1 : c.length ≤ 1000) (hC : ∀ v ∈ c, 0 ≤ v ∧ v ≤ 10000) {f : Nat} (f1 : f ≤ 40) : Evt (fun n => call T C n 1138 (c, (f : Int), ((), ()), ())) ((wL min c f, ()), ()) := by
  refine Evt.next ?_ (fun n => r1138 n c f ((), ()))
  exact Evt.bind (e132 c) (Evt.bind (e2131 hr h0 h1 hC f1) (Evt.some _))
/- (impl.Cam).reached -/
theorem e142 {c : List Int} (hr : Rng c) (ok : okC c = true) {f : Nat} (f1 : f ≤ 40) : Evt (fun n => call T C n 142 (c, (f : Int), ())) ((rcL c f, ()), ()) := by
  have hl := okC_len ok
  have hC := okC_el ok hr
  have h0 : 0 < c.length := by omega
  have hU := wL_el max_or h0 hC f
  have lU : (wL max c f).length = c.length := wL_len _ _ _
  exact Evt.next (Evt.bind (e138 hr (by omega) (by omega) hC f1) (Evt.bind (e1138 (rng_bd (by omega) hU) (by omega) (by omega) hU f1) (Evt.some _))) (fun n => r142 n c f)
/- impl.ReachedCam -/
theorem e50 {c : List Int} (hr : Rng c) (ok : okC c = true) {f : Nat} (f1 : f ≤ 40) : Evt (fun n => call T C n 50 (c, (f : Int), ())) ((rcL c f, 0, ()), ()) := by
  refine Evt.next ?_ (fun n => r50 n c f)
  exact Evt.bind (e137 hr ok f1) (Evt.no (by simp) (Evt.bind (e142 hr ok f1) (Evt.some _)))
/- spec.l03Reached -/
theorem e143 {c : List Int} (hr : Rng c) (ok : okC c = true) {f : Nat} (f1 : f ≤ 40) : Evt (fun n => call T C n 143 (c, (f : Int), ())) ((rcL c f, ()), ()) := by
  have hl := okC_len ok
  have hC := okC_el ok hr
  have h0 : 0 < c.length := by omega
  have hU := wL_el max_or h0 hC f
  have lU : (wL max c f).length = c.length := wL_len _ _ _
  exact Evt.next (Evt.bind (e141 hr (by omega) (by omega) hC f1) (Evt.bind (e1412 (rng_bd (by omega) hU) (by omega) (by omega) hU f1) (Evt.some _))) (fun n => r143 n c f)
/- spec.ReachedCam -/
theorem e51 {c : List Int} (hr : Rng c) (ok : okC c = true) {f : Nat} (f1 : f ≤ 40) : Evt (fun n => call T C n 51 (c, (f : Int), ())) ((rcL c f, 0, ()), ()) := by
  refine Evt.next ?_ (fun n => r51 n c f)
  exact Evt.bind (e140 hr ok f1) (Evt.no (by simp) (Evt.bind (e143 hr ok f1) (Evt.some _)))
/- impl.MissedSteps -/
theorem e52 {c : List Int} (hr : Rng c) (ok : okC c = true) {f : Nat} (f1 : f ≤ 40) : Evt (fun n => call T C n 52 (c, (f : Int), ())) ((offTo (rcL c f) c c.length, 0, ()), ()) := by
  have hl := okC_len ok
  have hC := okC_el ok hr
  refine Evt.next (Evt.bind (e137 hr ok f1) (Evt.no (by simp) (Evt.bind (e142 hr ok f1) ?_))) (fun n => r52 n c f)
  obtain ⟨R, eR⟩ : ∃ R, R = rcL c f := ⟨_, rfl⟩
  have lR : R.length = c.length := by rw [eR, rcL_len]
  rw [← eR]
  refine for_evt' 0 (c.length : Int) (fun i (_ : Unit) => (c, offTo R c i.toNat, R, (R.length : Int), i, ())) (fun _ _ => True) (b0 := ()) rfl (by omega) trivial ?_ ?_
  · intro i' _ h2 h3 _
    obtain ⟨i, rfl⟩ : ∃ i : Nat, i' = i := ⟨i'.toNat, by omega⟩
    have hu := g_idx (l := R) (i := (i : Int)) (by omega) (by omega)
    have hv := g_idx (l := c) (i := (i : Int)) (by omega) (by omega)
    rw [Int.toNat_natCast] at hu hv ⊢
    rw [show ((i : Int) + 1).toNat = i + 1 by omega, offTo]
    have lO := offTo_len R c i
    refine Round.yes (decide_eq_true (show (i : Int) < (R.length : Int) by omega)) (Round.at hu.idx (Round.at hv.idx (Round.ite (fun h => ?_) (fun h => ?_))))
    · refine Round.chk (decide_eq_true (by simp only [List.length_cons, List.length_nil]; omega)) (Round.again _ ⟨(), ?_, trivial⟩)
      rw [if_pos h, wrap_id (x := (i : Int) + 1) (by omega) (by omega)]
    · refine Round.again _ ⟨(), ?_, trivial⟩
      rw [if_neg h, wrap_id (x := (i : Int) + 1) (by omega) (by omega)]
  · intro _ _
    rw [Int.toNat_natCast]
    exact Round.no (by simp; omega) (Round.done (Evt.some _))
/- spec.MissedSteps -/
theorem e53 {c : List Int} (hr : Rng c) (ok : okC c = true) {f : Nat} (f1 : f ≤ 40) : Evt (fun n => call T C n 53 (c, (f : Int), ())) ((offTo (rcL c f) c c.length, 0, ()), ()) := by
  have hl := okC_len ok
  have hC := okC_el ok hr
  refine Evt.next (Evt.bind (e140 hr ok f1) (Evt.no (by simp) (Evt.bind (e143 hr ok f1) ?_))) (fun n => r53 n c f)
  obtain ⟨R, eR⟩ : ∃ R, R = rcL c f := ⟨_, rfl⟩
  have lR : R.length = c.length := by rw [eR, rcL_len]
  rw [← eR]
  refine for_evt' 0 (c.length : Int) (fun i (_ : Unit) => (c, R, offTo R c i.toNat, i, ())) (fun _ _ => True) (b0 := ()) rfl (by omega) trivial ?_ ?_
  · intro i' _ h2 h3 _
    obtain ⟨i, rfl⟩ : ∃ i : Nat, i' = i := ⟨i'.toNat, by omega⟩
    have hu := g_idx (l := R) (i := (i : Int)) (by omega) (by omega)
    have hv := g_idx (l := c) (i := (i : Int)) (by omega) (by omega)
    rw [Int.toNat_natCast] at hu hv ⊢
    rw [show ((i : Int) + 1).toNat = i + 1 by omega, offTo]
    have lO := offTo_len R c i
    refine Round.yes (decide_eq_true h3) (Round.at hu.idx (Round.at hv.idx (Round.ite (fun h => ?_) (fun h => ?_))))
    · refine Round.chk (decide_eq_true (by simp only [List.length_cons, List.length_nil]; omega)) (Round.again _ ⟨(), ?_, trivial⟩)
      rw [if_pos h, wrap_id (x := (i : Int) + 1) (by omega) (by omega)]
    · refine Round.again _ ⟨(), ?_, trivial⟩
      rw [if_neg h, wrap_id (x := (i : Int) + 1) (by omega) (by omega)]
  · intro _ _
    rw [Int.toNat_natCast]
    exact Round.no (by simp) (Round.done (Evt.some _))
/- spec.l00Same -/
theorem e144 (l : List Int) (hl : (l.length : Int) ≤ 1000000) : Evt (fun n => call T C n 144 (l, l, ())) ((true, ()), ()) := by
  refine Evt.next (Evt.no (by simp) ?_) (fun n => r144 n l l)
  refine for_evt' 0 (l.length : Int) (fun i (_ : Unit) => (l, l, i, ())) (fun _ _ => True) (b0 := ()) rfl (by omega) trivial ?_ ?_
  · intro i _ h2 h3 _
    obtain ⟨v, hv⟩ := at_of h2 h3
    exact Round.yes (decide_eq_true h3) (Round.at hv.idx (Round.at hv.idx (Round.no (by simp) (Round.again _ ⟨(), by rw [wr_succ h2 h3 (by omega)], trivial⟩))))
  · intro _ _
    exact Round.no (by simp) (Round.done (Evt.some _))
/- spec.SameNumbers -/
theorem e54 (l : List Int) (hl : (l.length : Int) ≤ 1000000) : Evt (fun n => call T C n 54 (l, l, ())) ((true, ()), ()) := Evt.next (Evt.bind (e144 l hl) (Evt.some _)) (fun n => r54 n l l)
/- slices.Equal[impl.Cam,int16] -/
theorem e145 (a b : List Int) (hl : (a.length : Int) ≤ 1000000) : Evt (fun n => call T C n 145 (a, b, ())) ((decide (a = b), ()), ()) := by
  by_cases hlen : a.length = b.length
  · refine Evt.next (Evt.no (by simp [hlen]) ?_) (fun n => r145 n a b)
    refine for_evt' 0 (a.length : Int) (fun i (_ : Unit) => (a, b, (a.length : Int), i, ())) (fun i _ => a.take i.toNat = b.take i.toNat) (b0 := ()) rfl (by omega) (by simp) ?_ ?_
    · intro i _ h2 h3 he
      obtain ⟨u, hu⟩ := at_of h2 h3
      obtain ⟨v, hv⟩ := at_of (l := b) h2 (by omega)
      refine Round.yes (decide_eq_true h3) (Round.at hu.idx (Round.at hv.idx (Round.ite (fun h => ?_) (fun h => ?_))))
      · have h : u ≠ v := by simpa using h
        have : a ≠ b := fun e => by
          subst e
          have := hu.get.symm.trans hv.get
          exact h (Option.some.inj this)
        rw [decide_eq_false this]
        exact Round.done (Evt.some _)
      · have h : u = v := by simpa using h
        exact Round.again _ ⟨(), by rw [wr_succ h2 h3 (by omega)], by rw [hu.take, hv.take, he, h]⟩
    · intro _ he
      have he : a = b := by rwa [take_all, hlen, take_all] at he
      rw [decide_eq_true he]
      exact Round.no (by simp) (Round.done (Evt.some _))
  · have : a ≠ b := fun e => hlen (by rw [e])
    rw [decide_eq_false this]
    exact Evt.next (Evt.yes (by simp; omega) (Evt.some _)) (fun n => r145 n a b)
/- impl.WidestFoot -/
theorem e55 {c : List Int} (hr : Rng c) (ok : okC c = true) : Evt (fun n => call T C n 55 (c, ())) ((((wfF c 40 0 : Nat) : Int), 0, ()), ()) := by
  have hl := okC_len ok
  have hC := okC_el ok hr
  have hv := e125 c (by omega)
  rw [ok] at hv
  refine Evt.next (Evt.bind hv (Evt.no (by decide) ?_)) (fun n => r55 n c)
  obtain ⟨W, eW⟩ : ∃ W, W = wfF c 40 0 := ⟨_, rfl⟩
  rw [← eW]
  refine for_evt' 0 40 (fun i (_ : Unit) => (c, i, ())) (fun i _ => W = wfF c (40 - i.toNat) i.toNat) (b0 := ()) rfl (by omega) eW ?_ ?_
  · intro i' _ h2 h3 he
    obtain ⟨i, rfl⟩ : ∃ i : Nat, i' = i := ⟨i'.toNat, by omega⟩
    rw [Int.toNat_natCast, show 40 - i = (39 - i) + 1 by omega, wfF] at he
    have hRe := e142 hr ok (f := i + 1) (by omega)
    have hS := e145 (rcL c (i + 1)) c (by rw [rcL_len]; omega)
    refine Round.yes (decide_eq_true (show (i : Int) < 40 by omega)) ?_
    simp only [wrap_id (x := (i : Int) + 1) (by omega) (by omega)]
    refine Round.bind hRe (Round.bind hS (Round.ite (fun h => ?_) (fun h => ?_)))
    · have h : rcL c (i + 1) = c := of_decide_eq_true (p := rcL c (i + 1) = c) h
      rw [if_pos h] at he
      exact Round.again _ ⟨(), rfl, by rw [he, show ((i : Int) + 1).toNat = i + 1 by omega, show 40 - (i + 1) = 39 - i by omega]⟩
    · have h : ¬ rcL c (i + 1) = c := fun e => h (show decide (rcL c (i + 1) = c) = true from decide_eq_true e)
      rw [if_neg h] at he
      rw [he]
      exact Round.done (Evt.some _)
  · intro _ he
    have he : W = 40 := he
    rw [he]
    exact Round.no (by simp) (Round.done (Evt.some _))
/- spec.WidestFoot -/
theorem e56 {c : List Int} (hr : Rng c) (ok : okC c = true) : Evt (fun n => call T C n 56 (c, ())) ((((wfF c 40 0 : Nat) : Int), 0, ()), ()) := by
  have hl := okC_len ok
  have hC := okC_el ok hr
  have hv := e129 c (by omega)
  rw [ok] at hv
  refine Evt.next (Evt.bind hv (Evt.no (by decide) ?_)) (fun n => r56 n c)
  obtain ⟨W, eW⟩ : ∃ W, W = wfF c 40 0 := ⟨_, rfl⟩
  rw [← eW]
  refine for_evt' 0 40 (fun i (_ : Unit) => (c, i, ())) (fun i _ => W = wfF c (40 - i.toNat) i.toNat) (b0 := ()) rfl (by omega) eW ?_ ?_
  · intro i' _ h2 h3 he
    obtain ⟨i, rfl⟩ : ∃ i : Nat, i' = i := ⟨i'.toNat, by omega⟩
    rw [Int.toNat_natCast, show 40 - i = (39 - i) + 1 by omega, wfF] at he
    have hRe := e143 hr ok (f := i + 1) (by omega)
    have hS := e1352 (rcL c (i + 1)) c (by rw [rcL_len]; omega)
    refine Round.yes (decide_eq_true (show (i : Int) < 40 by omega)) ?_
    simp only [wrap_id (x := (i : Int) + 1) (by omega) (by omega)]
    refine Round.bind hRe (Round.bind hS (Round.ite (fun h => ?_) (fun h => ?_)))
    · have h : rcL c (i + 1) = c := of_decide_eq_true (p := rcL c (i + 1) = c) h
      rw [if_pos h] at he
      exact Round.again _ ⟨(), rfl, by rw [he, show ((i : Int) + 1).toNat = i + 1 by omega, show 40 - (i + 1) = 39 - i by omega]⟩
    · have h : ¬ rcL c (i + 1) = c := fun e => h (show decide (rcL c (i + 1) = c) = true from decide_eq_true e)
      rw [if_neg h] at he
      rw [he]
      exact Round.done (Evt.some _)
  · intro _ he
    have he : W = 40 := he
    rw [he]
    exact Round.no (by simp) (Round.done (Evt.some _))
/- laws.FnFeet -/
theorem e7 (x y : List Int) (hd : DomA (C 7).params (x, y, ())) : Evt (fun n => call T C n 7 (x, y, ())) ((true, ()), ()) := by
  have hx : ∀ v ∈ x, 0 ≤ v ∧ v ≤ 255 := byte_of hd.1
  have hy : ∀ v ∈ y, 0 ≤ v ∧ v ≤ 255 := byte_of hd.2.1
  refine Evt.next (Evt.bind (e40 x) (Evt.ite (fun _ => Evt.some _) (fun hx2 => Evt.bind (e40 y) (Evt.ite (fun _ => Evt.some _) (fun hy2 => ?_))))) (fun n => r7 n x y)
  have hx2 : ¬ (x.length : Int) > 4096 := by simpa using hx2
  have hy2 : ¬ (y.length : Int) > 4096 := by simpa using hy2
  obtain ⟨c, hC, S⟩ := e41 hx (by omega)
  have hl := S.len
  have h0 : 0 < c.length := by omega
  have hel : ∀ v ∈ c, 0 ≤ v ∧ v ≤ 10000 := fun v hv => by have := S.el v hv; omega
  have hlr := lr_bd h0 (show (1 : Int) ≤ 60 by omega) S.el
  have hLag := e44 S.rng S.ok (r := lrV c) (by omega) (by omega)
  rw [lg_same h0] at hLag
  refine Evt.bind hC (Evt.bind (e42 S.rng S.ok) (Evt.bind (e43 S.rng S.ok) (Evt.bind hLag (Evt.no (by simp) (Evt.no (by simp) (Evt.no (by simp) (Evt.no (by simp) (Evt.bind (e45 c (by omega)) (Evt.no (by simp) ?_)))))))))
  obtain ⟨v, hP1, v0, v1⟩ := e46 hy (by omega) (m := 5) (by omega) (by omega)
  obtain ⟨f', hP2, f0, f1⟩ := e46 hy (by omega) (m := 5) (by omega) (by omega)
  obtain ⟨f, rfl⟩ : ∃ f : Nat, f' = f := ⟨f'.toNat, by omega⟩
  have e1v : wr .i64 (1 + v) = 1 + v := wrap_id (by omega) (by omega)
  have hLi := e44 S.rng S.ok (r := 1 + v) (by omega) (by omega)
  have hLs := e47 S.rng S.ok (r := 1 + v) (by omega) (by omega)
  have hLel := lgL_el h0 (r := 1 + v) (by omega) hel
  have hLlen : (lgL c (1 + v)).length = c.length := lgL_len _ _
  have hLr := e42 (c := lgL c (1 + v)) (rng_bd (by omega) hLel) (okC_of (by omega) hLel)
  have hfall : lrV (lgL c (1 + v)) ≤ 1 + v := lr_le (by omega) (by omega) fun x => lg_fall h0 (by omega) x
  have hFi := e48 S.rng S.ok (f := f) (by omega)
  have hFs := e49 S.rng S.ok (f := f) (by omega)
  have hRi := e50 S.rng S.ok (f := f) (by omega)
  have hRs := e51 S.rng S.ok (f := f) (by omega)
  have hRel := rcL_el h0 hel f
  have hRlen : (rcL c f).length = c.length := rcL_len _ _
  have hRR := e50 (c := rcL c f) (rng_bd (by omega) hRel) (okC_of (by omega) hRel) (f := f) (by omega)
  rw [rcL_idem h0] at hRR
  have hMi := e52 S.rng S.ok (f := f) (by omega)
  have hMs := e53 S.rng S.ok (f := f) (by omega)
  have lO := offTo_len (rcL c f) c c.length
  have lU : (wL max c f).length = c.length := wL_len _ _ _
  have hS1 := e45 (lgL c (1 + v)) (by omega)
  have hS2 := e45 (wL max c f) (by omega)
  have hS3 := e45 (rcL c f) (by omega)
  have hS4 := e54 (offTo (rcL c f) c c.length) (by omega)
  have hWi := e55 S.rng S.ok
  have hWs := e56 S.rng S.ok
  have hW := wfF_spec c 40 0 fun j hj => by rw [show j = 0 by omega]; exact rcL_zero h0
  have hat : ∀ l : List Int, l.length = c.length → ∀ i : Nat, i < c.length → At l (i : Int) (g l i) := fun l hl i hi => by
    have := g_idx (l := l) (i := (i : Int)) (by omega) (by omega)
    rwa [Int.toNat_natCast] at this
  have hk1 : ∀ i, i < c.length → g c i ≤ g (lgL c (1 + v)) i := fun i hi => by
    have := le_lg h0 (1 + v) (i : Nat)
    rwa [cAt_self hi, cAt_self (by omega)] at this
  have hk2 : ∀ i, i < c.length → g c i ≤ g (wL max c f) i := fun i hi => by
    have := le_upW (cAt c) f (i : Nat)
    unfold upW at this
    rw [← wL_at h0 f] at this
    rwa [cAt_self hi, cAt_self (by omega)] at this
  have hk3 : ∀ i, i < c.length → g c i ≤ g (rcL c f) i := fun i hi => by
    have := le_rcW (cAt c) f (i : Nat)
    rw [← rcL_at h0 f] at this
    rwa [cAt_self hi, cAt_self (by omega)] at this
  have hk4 : ∀ i, i < c.length → g (rcL c f) i ≤ g (wL max c f) i := fun i hi => by
    have := rcW_up (cAt c) f (i : Nat)
    rw [← rcL_at h0 f] at this
    unfold upW at this
    rw [← wL_at h0 f] at this
    rwa [cAt_self (by omega), cAt_self (by omega)] at this
  refine Evt.ite (fun hgt => ?_) (fun _ => ?_)
  · have hgt : lrV c > 1 := of_decide_eq_true hgt
    have hsl := e44 S.rng S.ok (r := lrV c - 1) (by omega) (by omega)
    have hne : lgL c (lrV c - 1) ≠ c := by
      obtain ⟨x, hx⟩ := lr_is h0 (by omega)
      exact lg_slow (by omega) ⟨x, by omega⟩
    have hsame := e452 (lgL c (lrV c - 1)) c (by rw [lgL_len]; omega)
    rw [decide_eq_false hne] at hsame
    rw [wrap_id (x := lrV c - 1) (by omega) (by omega)]
    refine Evt.bind hsl (Evt.no (by simp) (Evt.bind hsame (Evt.no (by simp) ?_)))
    refine Evt.bind hP1 ?_
    simp only [e1v]
    refine Evt.bind hLi (Evt.bind hLs (Evt.bind hLr (Evt.bind hP2 (Evt.bind hFi (Evt.bind hFs (Evt.bind hRi (Evt.bind hRs (Evt.bind hRR (Evt.bind hMi (Evt.bind hMs ?_))))))))))
    refine Evt.no (by simp) (Evt.no (by simp) (Evt.bind hS1 (Evt.no (by simp) (Evt.no (by simp) (Evt.no ?_ (Evt.no (by simp) (Evt.no (by simp) (Evt.bind hS2 (Evt.no (by simp) (Evt.no (by simp) (Evt.no (by simp) (Evt.bind hS3 (Evt.no (by simp) (Evt.no (by simp) (Evt.bind hS3 (Evt.no (by simp) (Evt.no (by simp) (Evt.no (by simp) (Evt.bind hS4 (Evt.no (by simp) ?_))))))))))))))))))))
    · simp only [e1v]; simp; exact hfall
    refine for_evt' 0 (c.length : Int) (fun i (_ : Unit) => (c, lgL c (1 + v), (f : Int), wL max c f, rcL c f, offTo (rcL c f) c c.length, (((offTo (rcL c f) c i.toNat).length : Nat) : Int), i, ())) (fun _ _ => True) (b0 := ()) rfl (by omega) trivial ?_ ?_
    · intro i' _ h2 h3 _
      obtain ⟨i, rfl⟩ : ∃ i : Nat, i' = i := ⟨i'.toNat, by omega⟩
      have hi : i < c.length := by omega
      have aC := hat c rfl i hi
      have aL := hat (lgL c (1 + v)) (lgL_len _ _) i hi
      have aU := hat (wL max c f) (wL_len _ _ _) i hi
      have aR := hat (rcL c f) (rcL_len _ _) i hi
      have k1 := hk1 i hi
      have k2 := hk2 i hi
      have k3 := hk3 i hi
      have k4 := hk4 i hi
      have lO := offTo_len (rcL c f) c i
      rw [Int.toNat_natCast, show ((i : Int) + 1).toNat = i + 1 by omega, offTo]
      refine Round.yes (decide_eq_true h3) (Round.at aL.idx (Round.at aC.idx (Round.no (by simp; omega) (Round.at aU.idx (Round.at aC.idx (Round.no (by simp; omega) (Round.at aR.idx (Round.at aC.idx (Round.no (by simp; omega) (Round.at aR.idx (Round.at aU.idx (Round.no (by simp; omega) (Round.at aR.idx (Round.at aC.idx (Round.ite (fun h => ?_) (fun h => ?_))))))))))))))))
      · refine Round.again _ ⟨(), ?_, trivial⟩
        rw [if_pos h, wrap_id (x := (i : Int) + 1) (by omega) (by omega), wrap_id (x := (((offTo (rcL c f) c i).length : Nat) : Int) + 1) (by omega) (by omega), List.length_append]
        rfl
      · refine Round.again _ ⟨(), ?_, trivial⟩
        rw [if_neg h, wrap_id (x := (i : Int) + 1) (by omega) (by omega)]
    · intro _ _
      rw [Int.toNat_natCast]
      refine Round.no (by simp) (Round.bind hWi (Round.bind hWs (Round.yes (by simp) (Round.yes (by simp) (Round.yes (by simp) (Round.yes (by simp) (Round.ite (fun h => Round.done (Evt.some _)) (fun h => ?_))))))))
      have h : ¬ (f : Int) > ((wfF c 40 0 : Nat) : Int) := fun h' => h (decide_eq_true h')
      have e0 : rcL c f = c := hW.2.2 f (by omega)
      rw [e0, offTo_same]
      exact Round.done (Evt.some _)
  · refine Evt.bind hP1 ?_
    simp only [e1v]
    refine Evt.bind hLi (Evt.bind hLs (Evt.bind hLr (Evt.bind hP2 (Evt.bind hFi (Evt.bind hFs (Evt.bind hRi (Evt.bind hRs (Evt.bind hRR (Evt.bind hMi (Evt.bind hMs ?_))))))))))
    refine Evt.no (by simp) (Evt.no (by simp) (Evt.bind hS1 (Evt.no (by simp) (Evt.no (by simp) (Evt.no ?_ (Evt.no (by simp) (Evt.no (by simp) (Evt.bind hS2 (Evt.no (by simp) (Evt.no (by simp) (Evt.no (by simp) (Evt.bind hS3 (Evt.no (by simp) (Evt.no (by simp) (Evt.bind hS3 (Evt.no (by simp) (Evt.no (by simp) (Evt.no (by simp) (Evt.bind hS4 (Evt.no (by simp) ?_))))))))))))))))))))
    · simp only [e1v]; simp; exact hfall
    refine for_evt' 0 (c.length : Int) (fun i (_ : Unit) => (c, lgL c (1 + v), (f : Int), wL max c f, rcL c f, offTo (rcL c f) c c.length, (((offTo (rcL c f) c i.toNat).length : Nat) : Int), i, ())) (fun _ _ => True) (b0 := ()) rfl (by omega) trivial ?_ ?_
    · intro i' _ h2 h3 _
      obtain ⟨i, rfl⟩ : ∃ i : Nat, i' = i := ⟨i'.toNat, by omega⟩
      have hi : i < c.length := by omega
      have aC := hat c rfl i hi
      have aL := hat (lgL c (1 + v)) (lgL_len _ _) i hi
      have aU := hat (wL max c f) (wL_len _ _ _) i hi
      have aR := hat (rcL c f) (rcL_len _ _) i hi
      have k1 := hk1 i hi
      have k2 := hk2 i hi
      have k3 := hk3 i hi
      have k4 := hk4 i hi
      have lO := offTo_len (rcL c f) c i
      rw [Int.toNat_natCast, show ((i : Int) + 1).toNat = i + 1 by omega, offTo]
      refine Round.yes (decide_eq_true h3) (Round.at aL.idx (Round.at aC.idx (Round.no (by simp; omega) (Round.at aU.idx (Round.at aC.idx (Round.no (by simp; omega) (Round.at aR.idx (Round.at aC.idx (Round.no (by simp; omega) (Round.at aR.idx (Round.at aU.idx (Round.no (by simp; omega) (Round.at aR.idx (Round.at aC.idx (Round.ite (fun h => ?_) (fun h => ?_))))))))))))))))
      · refine Round.again _ ⟨(), ?_, trivial⟩
        rw [if_pos h, wrap_id (x := (i : Int) + 1) (by omega) (by omega), wrap_id (x := (((offTo (rcL c f) c i).length : Nat) : Int) + 1) (by omega) (by omega), List.length_append]
        rfl
      · refine Round.again _ ⟨(), ?_, trivial⟩
        rw [if_neg h, wrap_id (x := (i : Int) + 1) (by omega) (by omega)]
    · intro _ _
      rw [Int.toNat_natCast]
      refine Round.no (by simp) (Round.bind hWi (Round.bind hWs (Round.yes (by simp) (Round.yes (by simp) (Round.yes (by simp) (Round.yes (by simp) (Round.ite (fun h => Round.done (Evt.some _)) (fun h => ?_))))))))
      have h : ¬ (f : Int) > ((wfF c 40 0 : Nat) : Int) := fun h' => h (decide_eq_true h')
      have e0 : rcL c f = c := hW.2.2 f (by omega)
      rw [e0, offTo_same]
      exact Round.done (Evt.some _)

end Go.Cams.YtdhgdfofgeccgaaLFt
