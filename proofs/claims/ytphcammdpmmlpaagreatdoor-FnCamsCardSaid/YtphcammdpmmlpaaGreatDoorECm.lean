/- What the functions that the law reaches come to. -/
import Derived.Test.YtphcammdpmmlpaaGreatDoorRCm
import Derived.Test.YtphcammdpmmlpaaGreatDoorPuAll
namespace Go.Cams.YtphcammdpmmlpaaGreatDoorLCm
open Go Go.Fw Go.Proofs Go.Proofs.YtphcammdpmmlpaaGreatDoor.LCm
/- laws.f6big -/
theorem e24 (a : List Int) : Evt (fun n => call T C n 24 (a, ())) ((decide ((a.length : Int) > 4096), ()), ()) := Evt.next (Evt.some _) (fun n => r24 n a)
/- spec.l00From -/
theorem e97 (a : List Int) : Evt (fun n => call T C n 97 (a, ())) (((a, 0, 0, ()), ()), ()) := Evt.next (Evt.some _) (fun n => r97 n a)
/- (*spec.l00Src).next -/
theorem e226 {k : Int} {s : Src} (h : SrcAt k s) (hk : k ≤ 1000000000000) : ∃ (v : Int) (s' : Src), Evt (fun n => call T C n 226 (s, ())) ((v, ()), (s', ())) ∧ 0 ≤ v ∧ v ≤ 255 ∧ SrcAt (k + 1) s' := by
  obtain ⟨h1, h2, h3, h4⟩ := h
  have hw : wr .i64 (s.2.1 + 1) = s.2.1 + 1 := wrap_id (by omega) (by omega)
  by_cases hp : s.2.1 < (s.1.length : Int)
  · obtain ⟨v, hv⟩ := at_of h3 hp
    have hb := h1 v hv.mem
    have ev : wr .i64 v = v := wrap_id (by omega) (by omega)
    obtain ⟨z, hz⟩ : ∃ z, z = wr .u64 ((wr .u64 ((wr .u64 (s.2.2.1 * (6364136223846793005 : Int))) + (wr .u64 (wr .i64 v)))) + (1442695040888963407 : Int)) := ⟨_, rfl⟩
    refine ⟨v, (s.1, s.2.1 + 1, z, ()), Evt.next (Evt.yes (decide_eq_true hp) (Evt.at hv.idx (Evt.yes (decide_eq_true (by rw [hw]; omega)) ((Evt.some _).of_eq fun n => ?_)))) (fun n => r226 n s), hb.1, hb.2, h1, h2, by show 0 ≤ s.2.1 + 1; omega, by show s.2.1 + 1 ≤ k + 1; omega⟩
    rw [← hz, hw, ev]
    rfl
  · obtain ⟨z, hz⟩ : ∃ z, z = wr .u64 ((wr .u64 ((wr .u64 (s.2.2.1 * (6364136223846793005 : Int))) + (wr .u64 (0 : Int)))) + (1442695040888963407 : Int)) := ⟨_, rfl⟩
    have hzb : 0 ≤ z ∧ z < 18446744073709551616 := by rw [hz]; exact wrap_u64 _
    obtain ⟨y, rfl⟩ : ∃ y : Nat, z = y := ⟨z.toNat, by omega⟩
    have hval : wr .i64 (bitsI .and .u64 (shr_ .u64 (y : Int) (40 : Int)) (255 : Int)) = ((y / 2 ^ 40 % 256 : Nat) : Int) := by
      rw [show (40 : Int) = ((40 : Nat) : Int) from rfl, shr_nat (by omega), and_255 (Nat.lt_of_le_of_lt (Nat.div_le_self _ _) (by omega))]
      have := Nat.mod_lt (y / 2 ^ 40) (show 0 < 256 by omega)
      exact wrap_id (by omega) (by omega)
    have hm := Nat.mod_lt (y / 2 ^ 40) (show 0 < 256 by omega)
    refine ⟨((y / 2 ^ 40 % 256 : Nat) : Int), (s.1, s.2.1 + 1, (y : Int), ()), Evt.next (Evt.no (by simpa using hp) (Evt.no (by rw [hw]; simp; omega) (Evt.chk rfl ((Evt.some _).of_eq fun n => ?_)))) (fun n => r226 n s), by omega, by omega, h1, h2, by show 0 ≤ s.2.1 + 1; omega, by show s.2.1 + 1 ≤ k + 1; omega⟩
    rw [← hz, hw, hval]
    rfl
/- (*spec.l00Src).pick -/
theorem e143 {k : Int} {s : Src} (h : SrcAt k s) (hk : k ≤ 999999999000) {m : Int} (m1 : 1 ≤ m) (m2 : m ≤ 1000000) : ∃ (v : Int) (s' : Src), Evt (fun n => call T C n 143 (s, m, ())) ((v, ()), (s', ())) ∧ 0 ≤ v ∧ v < m ∧ SrcAt (k + 2) s' := by
  by_cases hm : m ≤ 1
  · exact ⟨0, s, Evt.next (Evt.yes (decide_eq_true hm) (Evt.some _)) (fun n => r143 n s m), by omega, by omega, h.mono (by omega)⟩
  · obtain ⟨v, s1, hE, v0, v1, hs1⟩ := e226 h (by omega)
    by_cases hb : m > 200
    · obtain ⟨u, s2, hE2, u0, u1, hs2⟩ := e226 hs1 (by omega)
      have hx : wr .i64 (wr .i64 (v * 256) + u) = v * 256 + u := by rw [wrap_id (x := v * 256) (by omega) (by omega), wrap_id (by omega) (by omega)]
      have ht0 := Int.tmod_nonneg m (show 0 ≤ v * 256 + u by omega)
      have ht1 := Int.tmod_lt_of_pos (v * 256 + u) (show 0 < m by omega)
      refine ⟨Int.tmod (v * 256 + u) m, s2, Evt.next (Evt.no (by simpa using hm) (Evt.bind hE (Evt.yes (decide_eq_true hb) (Evt.bind hE2 (Evt.chk (bne_pos (by omega)) ((Evt.some _).of_eq fun n => ?_)))))) (fun n => r143 n s m), ht0, ht1, hs2.mono (by omega)⟩
      rw [hx]
      rfl
    · have ht0 := Int.tmod_nonneg m v0
      have ht1 := Int.tmod_lt_of_pos v (show 0 < m by omega)
      exact ⟨Int.tmod v m, s1, Evt.next (Evt.no (by simpa using hm) (Evt.bind hE (Evt.no (by simpa using hb) (Evt.chk (bne_pos (by omega)) (Evt.some _))))) (fun n => r143 n s m), ht0, ht1, hs1.mono (by omega)⟩
/- (*spec.l00Src).among -/
theorem e215 {k : Int} {s : Src} (h : SrcAt k s) (hk : k ≤ 999999999000) {l : List Int} (l1 : 1 ≤ (l.length : Int)) (l2 : (l.length : Int) ≤ 1000000) : ∃ (v : Int) (s' : Src), Evt (fun n => call T C n 215 (s, l, ())) ((v, ()), (s', ())) ∧ v ∈ l ∧ SrcAt (k + 2) s' := by
  obtain ⟨i, s1, hE, i0, i1, hs1⟩ := e143 h hk l1 l2
  obtain ⟨v, hv⟩ := at_of i0 i1
  refine ⟨v, s1, Evt.next ?_ (fun n => r215 n s l), hv.mem, hs1⟩
  exact Evt.bind hE (Evt.at hv.idx (Evt.some _))
/- spec.l00Min -/
theorem e217 (a b : Int) : Evt (fun n => call T C n 217 (a, b, ())) ((min a b, ()), ()) := by
  refine Evt.next (Evt.ite (fun h => ?_) (fun h => ?_)) (fun n => r217 n a b)
  · have h : a < b := of_decide_eq_true h
    rw [show min a b = a by omega]; exact Evt.some _
  · have h : ¬ a < b := by simpa using h
    rw [show min a b = b by omega]; exact Evt.some _
/- spec.l00Max -/
theorem e216 (a b : Int) : Evt (fun n => call T C n 216 (a, b, ())) ((max a b, ()), ()) := by
  refine Evt.next (Evt.ite (fun h => ?_) (fun h => ?_)) (fun n => r216 n a b)
  · have h : a > b := of_decide_eq_true h
    rw [show max a b = a by omega]; exact Evt.some _
  · have h : ¬ a > b := by simpa using h
    rw [show max a b = b by omega]; exact Evt.some _
/- (*spec.l00Src).one -/
theorem e218 {k : Int} {s : Src} (h : SrcAt k s) (hk : k ≤ 999999999000) {m : Int} (m1 : 1 ≤ m) (m2 : m ≤ 1000000) : ∃ (b : Bool) (s' : Src), Evt (fun n => call T C n 218 (s, m, ())) ((b, ()), (s', ())) ∧ SrcAt (k + 2) s' := by
  obtain ⟨v, s1, hE, v0, v1, hs1⟩ := e143 h hk m1 m2
  exact ⟨v == 0, s1, Evt.next (Evt.bind hE (Evt.some _)) (fun n => r218 n s m), hs1⟩
/- spec.l01Drawn -/
theorem e124 {k : Int} {s : Src} (h : SrcAt k s) (hk : k ≤ 999999990000) : ∃ (c : List Int) (s' : Src), Evt (fun n => call T C n 124 (s, ())) ((c, ()), (s', ())) ∧ SmD c ∧ SrcAt (k + 200) s' := by
  obtain ⟨n0, s1, hE1, hn0, hs1⟩ := e215 h (by omega) (l := [8, 9, 12, 16, 24, 36]) (by simp) (by simp)
  have hn : 8 ≤ n0 ∧ n0 ≤ 36 := by simp at hn0; omega
  obtain ⟨nn, rfl⟩ : ∃ m : Nat, n0 = m := ⟨n0.toNat, by omega⟩
  obtain ⟨l0, s2, hE2, l00, l01, hs2⟩ := e143 hs1 (by omega) (m := 20) (by omega) (by omega)
  have key : EvtX (fun n => call T C n 124 (s, ())) (fun y => SmD y.1.1 ∧ SrcAt (k + 200) y.2.1) := by
    refine EvtX.next (EvtX.bind hE1 (EvtX.bind hE2 ?_)) (fun n => r124 n s)
    refine EvtX.loop (fun x => ∃ (src : Src) (o : List Int) (l : Int), x = (src, (nn : Int), o, l, ()) ∧ SrcAt (k + 4 + 4 * o.length) src ∧ GoodG2 nn (o, l)) (fun x => nn - x.2.2.1.length)
      ⟨s2, [], l0, rfl, hs2.mono (by simp; omega), ⟨fun v hv => (by cases hv), by show 0 ≤ l0 ∧ l0 ≤ 60; omega, by show 0 ≤ nn; omega⟩⟩ ?_
    rintro x ⟨src, out, l, rfl, hsrc, G⟩
    have hle : out.length ≤ nn := G.le
    by_cases hlt : out.length < nn
    · right
      obtain ⟨a, a1, hA, a0, al, hs3⟩ := e143 hsrc (by omega) (m := 7) (by omega) (by omega)
      obtain ⟨b, b1, hB, b0, bl, hs4⟩ := e143 hs3 (by omega) (m := 5) (by omega) (by omega)
      obtain ⟨m, hm⟩ : ∃ m : Nat, 1 + b = m := ⟨(1 + b).toNat, by omega⟩
      have G2 := grow_good (b := a - 3) m G
      have G3 := grow_more (b := a - 3) (k := m) G hlt (by omega)
      obtain ⟨R, eR⟩ : ∃ R, R = grow (a - 3) nn m (out, l) := ⟨_, rfl⟩
      rw [← eR] at G2 G3
      have G3 : out.length < R.1.length := G3
      have hRle : R.1.length ≤ nn := G2.1.le
      refine ⟨(b1, (nn : Int), R.1, R.2, ()), ⟨b1, R.1, R.2, rfl, hs4.mono (by omega), G2.1⟩, by show nn - R.1.length < nn - out.length; omega, fun y => ?_⟩
      refine Round.yes (decide_eq_true (show (out.length : Int) < (nn : Int) by omega)) (Round.bind hA (Round.bind hB ?_))
      simp only [wrap_id (x := a - 3) (by omega) (by omega), hm, wrap_id (x := (m : Int)) (by omega) (by omega)]
      refine for_round' 0 (m : Int) (fun i (s : List Int × Int) => (b1, (nn : Int), s.1, s.2, a - 3, (m : Int) - i, ())) (fun i s => GoodG2 nn s ∧ grow (a - 3) nn ((m : Int) - i).toNat s = R) (b0 := (out, l)) (by rw [Int.sub_zero]) (by omega) ⟨G, by rw [Int.sub_zero, Int.toNat_natCast, eR]⟩ ?_ ?_
      · intro i s h2 h3 ⟨hG, he⟩
        rw [show ((m : Int) - i).toNat = ((m : Int) - (i + 1)).toNat + 1 by omega, grow] at he
        refine Round.yes (decide_eq_true (show (m : Int) - i > 0 by omega)) ?_
        have hsle : s.1.length ≤ nn := hG.le
        have hlf := hG.lf
        by_cases hl : s.1.length < nn
        · rw [if_pos hl] at he
          have hone := grow_one (b := a - 3) hG hl
          refine Round.yes (show (bif true then decide ((s.1.length : Int) < (nn : Int)) else false) = true from decide_eq_true (by omega)) ?_
          simp only [wrap_id (x := s.2 + (a - 3)) (by omega) (by omega)]
          refine Round.bind (e217 60 _) (Round.bind (e216 0 _) (Round.chk (decide_eq_true (by simp only [List.length_cons, List.length_nil]; omega)) (Round.inr _ ⟨(s.1 ++ [max 0 (min 60 (s.2 + (a - 3)))], max 0 (min 60 (s.2 + (a - 3)))), ?_, hone, he⟩)))
          rw [wrap16 (x := max 0 (min 60 (s.2 + (a - 3)))) (by omega) (by omega), wrap_id (x := (m : Int) - i - 1) (by omega) (by omega), show (m : Int) - (i + 1) = (m : Int) - i - 1 by omega]
        · rw [if_neg hl] at he
          refine Round.no (show ¬ (bif true then decide ((s.1.length : Int) < (nn : Int)) else false) = true from fun h => by have := of_decide_eq_true (p := (s.1.length : Int) < (nn : Int)) h; omega) (Round.inl _ ?_)
          rw [← he]
      · intro s ⟨hG, he⟩
        rw [Int.sub_self] at he
        have he : s = R := he
        rw [he]
        exact Round.no (by simp) (Round.inl _ rfl)
    · left
      have hlen : out.length = nn := by omega
      obtain ⟨bo, s3, hO, hs3⟩ := e218 hsrc (by omega) (m := 8) (by omega) (by omega)
      have S0 : SmD out := ⟨by omega, G.el⟩
      have hs5 : SrcAt (k + 200) s3 := hs3.mono (by omega)
      cases bo with
      | false => exact ⟨((out, ()), (s3, ())), ⟨S0, hs5⟩, Round.no (by simp; omega) (Round.bind hO (Round.no (by simp) (Round.done (Evt.some _))))⟩
      | true =>
        have ht : wr .i64 (Int.tdiv (nn : Int) 2) = ((nn / 2 : Nat) : Int) := by
          rw [Int.tdiv_eq_ediv_of_nonneg (by omega), wrap_id (by omega) (by omega)]; omega
        by_cases he : nn % 2 = 0
        · obtain ⟨p, hp⟩ : ∃ p, p = (out.take (nn / 2)).drop 0 := ⟨_, rfl⟩
          have lp : p.length = nn / 2 := by rw [hp, List.drop_zero, List.length_take]; omega
          refine ⟨(((([] : List Int) ++ p) ++ p, ()), (s3, ())), ⟨⟨by show 8 ≤ (((([] : List Int) ++ p) ++ p).length : Int) ∧ (((([] : List Int) ++ p) ++ p).length : Int) ≤ 36; simp only [List.length_append, List.length_nil, lp]; omega, fun v hv => ?_⟩, hs5⟩, ?_⟩
          · have hv : v ∈ p := by simpa using hv
            rw [hp, List.drop_zero] at hv
            exact G.el v (List.mem_of_mem_take hv)
          · refine Round.no (by simp; omega) (Round.bind hO (Round.yes rfl (Round.chk rfl ?_)))
            simp only [ht, Int.toNat_natCast, show Int.toNat 0 = 0 from rfl, ← hp]
            refine Round.chk (decide_eq_true (by omega)) (Round.chk rfl (Round.yes (by rw [beq_iff_eq, Int.tmod_eq_emod_of_nonneg (by omega)]; omega) (Round.chk (decide_eq_true (by simp only [List.length_append, List.length_nil, lp]; omega)) (Round.chk (decide_eq_true (by simp only [List.length_append, List.length_nil, lp]; omega)) (Round.done (Evt.some _))))))
        · refine ⟨((out, ()), (s3, ())), ⟨S0, hs5⟩, Round.no (by simp; omega) (Round.bind hO (Round.yes rfl (Round.chk rfl ?_)))⟩
          simp only [ht]
          exact Round.chk (decide_eq_true (by omega)) (Round.chk rfl (Round.no (by rw [beq_iff_eq, Int.tmod_eq_emod_of_nonneg (by omega)]; omega) (Round.done (Evt.some _))))
  obtain ⟨⟨⟨c, _⟩, ⟨s', _⟩⟩, ⟨h1, h2⟩, hE⟩ := key
  exact ⟨c, s', hE, h1, h2⟩
/- spec.P6Cam -/
theorem e25 {b : List Int} (hb : ∀ v ∈ b, 0 ≤ v ∧ v ≤ 255) (hl : (b.length : Int) ≤ 4096) : ∃ c : List Int, Evt (fun n => call T C n 25 (b, ())) ((c, ()), ()) ∧ SmD c := by
  have h0 : SrcAt 0 ((b, 0, 0, ()) : Src) := ⟨hb, by show (b.length : Int) ≤ 1000000; omega, Int.le_refl _, Int.le_refl _⟩
  obtain ⟨c, s1, hE, S, _⟩ := e124 h0 (by omega)
  refine ⟨c, Evt.next ?_ (fun n => r25 n b), S⟩
  exact Evt.bind (e97 b) (Evt.bind hE (Evt.some _))
/- (impl.Cam).steps -/
theorem e128 (a : List Int) : Evt (fun n => call T C n 128 (a, ())) (((a.length : Int), ()), ()) := Evt.next (Evt.some _) (fun n => r128 n a)
/- impl.inRange -/
theorem e111 (a b c : Int) : Evt (fun n => call T C n 111 (a, b, c, ())) ((inR a b c, ()), ()) := by
  refine Evt.next ?_ (fun n => r111 n a b c)
  refine Evt.ite (fun h => ?_) (fun h => ?_)
  · refine (Evt.some _).of_eq fun n => ?_
    have h : b ≤ a := of_decide_eq_true h
    simp [inR, h]
    rfl
  · refine (Evt.some _).of_eq fun n => ?_
    have h : ¬ b ≤ a := by simpa using h
    simp [inR, h]
    rfl
/- impl.isSteps -/
theorem e139 (a : Int) : Evt (fun n => call T C n 139 (a, ())) ((inR a 8 360, ()), ()) := Evt.next (Evt.bind (e111 a 8 360) (Evt.some _)) (fun n => r139 n a)
/- impl.isLift -/
theorem e127 (a : Int) : Evt (fun n => call T C n 127 (a, ())) ((inR a 0 10000, ()), ()) := Evt.next (Evt.bind (e111 a 0 10000) (Evt.some _)) (fun n => r127 n a)
/- impl.ValidCam$1 -/
theorem e141 (v : Int) : Evt (fun n => call T C n 141 (v, ())) ((!okV v, ()), ()) := Evt.next (Evt.bind (e127 _) (Evt.some _)) (fun n => r141 n v)
/- slices.IndexFunc[impl.Cam,int16]{impl.ValidCam$1} -/
theorem e225 (l : List Int) (hl : (l.length : Int) ≤ 140737488351232) : Evt (fun n => call T C n 225 (l, ((), ()), ())) ((fi (fun v => !okV v) l 0, ()), ()) := by
  refine Evt.next ?_ (fun n => r225 n l ((), ()))
  refine loop_evt (fun (x : List Int × (Unit × Unit) × Int × Int × Unit) => x.1 = l ∧ x.2.2.1 = (l.length : Int) ∧ 0 ≤ x.2.2.2.1 ∧ x.2.2.2.1 ≤ (l.length : Int) ∧ fi (fun v => !okV v) l 0 = fi (fun v => !okV v) (l.drop x.2.2.2.1.toNat) x.2.2.2.1) (fun (x : List Int × (Unit × Unit) × Int × Int × Unit) => ((l.length : Int) - x.2.2.2.1).toNat) (x := (l, ((), ()), (l.length : Int), 0, ())) ⟨rfl, rfl, Int.le_refl _, by simp, by simp⟩ ?_
  rintro ⟨x1, u, m, i, _⟩ ⟨h', hm, h0, h1, h2⟩
  simp only at h' hm h0 h1 h2
  subst h'; subst hm
  refine Round.ite (fun hlt => ?_) (fun hge => ?_)
  · have hlt : i < (x1.length : Int) := of_decide_eq_true hlt
    obtain ⟨v, hv, hv'⟩ := idx_at h0 hlt
    have hd := drop_cons hv'
    refine Round.at hv (Round.bind (e141 _) (Round.ite (fun hb => ?_) (fun hb => ?_)))
    · have hb : okV v = false := by simpa using hb
      have h3 : fi (fun v => !okV v) x1 0 = i := by rw [h2, hd]; simp [fi, hb]
      rw [h3]
      exact Round.done (Evt.some _)
    · have hb : okV v = true := by simpa using hb
      have hw : wr .i64 (i + 1) = i + 1 := wrap_id (by omega) (by omega)
      refine Round.again _ ⟨⟨rfl, rfl, ?_, ?_, ?_⟩, ?_⟩ <;> simp only [hw]
      · omega
      · omega
      · rw [h2, hd, show (i + 1).toNat = i.toNat + 1 by omega]
        simp [fi, hb]
      · omega
  · have hge : ¬ i < (x1.length : Int) := by simpa using hge
    have : x1.drop i.toNat = [] := List.drop_of_length_le (by omega)
    rw [h2, this]
    exact Round.done (Evt.some _)
/- slices.ContainsFunc[impl.Cam,int16]{impl.ValidCam$1} -/
theorem e140 (l : List Int) (hl : (l.length : Int) ≤ 140737488351232) : Evt (fun n => call T C n 140 (l, ((), ()), ())) ((l.any (fun v => !okV v), ()), ()) := by
  refine Evt.next (Evt.bind (e225 l hl) ((Evt.some _).of_eq fun n => ?_)) (fun n => r140 n l ((), ()))
  simp only [fi_any _ l 0 (Int.le_refl _)]
  rfl
/- impl.ValidCam -/
theorem e34 (l : List Int) (hl : (l.length : Int) ≤ 140737488351232) : Evt (fun n => call T C n 34 (l, ())) ((okC l, ()), ()) := by
  refine Evt.next (Evt.bind (e128 l) (Evt.bind (e139 _) ?_)) (fun n => r34 n l)
  refine Evt.ite (fun h => ?_) (fun h => ?_)
  · refine Evt.bind (e140 l hl) ((Evt.some _).of_eq fun n => ?_)
    have h : inR (l.length : Int) 8 360 = true := h
    have : okC l = !l.any (fun v => !okV v) := by simp [okC, h, List.any_eq_not_all_not]
    rw [this]
    rfl
  · refine (Evt.some _).of_eq fun n => ?_
    have h : inR (l.length : Int) 8 360 = false := by simpa using h
    simp [okC, h]
    rfl
/- strconv.FormatInt -/
theorem e209 (u : Nat) (h : u ≤ 9223372036854775807) : Evt (fun n => call T C n 209 ((u : Int), 10, ())) ((tx (Lib.decDigits u), ()), ()) := by
  refine Evt.next ?_ (fun n => r209 n u 10)
  dsimp only
  rw [if_pos ⟨rfl, by omega, by omega⟩, Lib.itoa_nonneg]
  exact Evt.some _
theorem e209_2 (v : Int) (h0 : -9223372036854775808 ≤ v) (h1 : v ≤ 9223372036854775807) : Evt (fun n => call T C n 209 (v, 10, ())) ((tx (Lib.itoa v), ()), ()) := by
  refine Evt.next ?_ (fun n => r209 n v 10)
  dsimp only
  rw [if_pos ⟨rfl, h0, h1⟩]
  exact Evt.some _
/- impl.decimal -/
theorem e103 (u : Nat) (h : u ≤ 9223372036854775807) : Evt (fun n => call T C n 103 ((u : Int), ())) ((tx (Lib.decDigits u), ()), ()) :=
  Evt.next (Evt.bind (e209 u h) (Evt.some _)) (fun n => r103 n u)
theorem e103_2 (v : Int) (h0 : -9223372036854775808 ≤ v) (h1 : v ≤ 9223372036854775807) : Evt (fun n => call T C n 103 (v, ())) ((tx (Lib.itoa v), ()), ()) :=
  Evt.next (Evt.bind (e209_2 v h0 h1) (Evt.some _)) (fun n => r103 n v)
/- strings.Join -/
theorem e131 (ws : List (List UInt8)) (s : List UInt8) (h1 : ws.length ≤ 1000000) (h2 : (Lib.join ws s).length ≤ 1000000000) : Evt (fun n => call T C n 131 (ws.map tx, tx s, ())) ((tx (Lib.join ws s), ()), (ws.map tx, ())) := by
  refine Evt.next ?_ (fun n => r131 n (ws.map tx) (tx s))
  have e : (ws.map tx).map (fun s => s.data.toList) = ws := by
    rw [List.map_map]
    exact (List.map_congr_left fun a _ => rfl).trans (List.map_id ws)
  dsimp only
  rw [e]
  show Evt (fun n => if (ws.map tx).length ≤ 140737488355328 ∧ (Lib.join ws s).length ≤ 140737488355328 then some ((tx (Lib.join ws s), ()), (ws.map tx, ())) else none) _
  rw [if_pos ⟨by simp; omega, by omega⟩]
  exact Evt.some _
/- impl.CamText -/
theorem e27 (c : List Int) (hr : Rng c) : Evt (fun n => call T C n 27 (c, ())) ((camT c, ()), ()) := by
  have hcl := hr.len'
  refine Evt.next (Evt.bind (e34 c (by omega)) ?_) (fun n => r27 n c)
  unfold camT
  cases h : okC c with
  | false => exact Evt.yes rfl (Evt.some _)
  | true =>
    have hl := okC_len h
    have hC := okC_el h hr
    have c32 : (⟨#[32]⟩ : ByteArray) = tx [32] := rfl
    have c42 : (⟨#[42]⟩ : ByteArray) = tx [42] := rfl
    refine Evt.no (by simp) ?_
    refine loop_evt (fun x => ∃ (i : Nat) (ws : List (List UInt8)), x = (c, ws.map tx, (i : Int), ()) ∧ i ≤ c.length ∧ ws ++ (rle (c.drop i)).map wordL = (rle c).map wordL ∧ ws.length ≤ i ∧ (∀ w ∈ ws, w.length ≤ 43) ∧ (0 < i → ws ≠ [])) (fun x => c.length - x.2.2.1.toNat) ⟨0, [], rfl, by omega, by simp, by simp, by simp, by simp⟩ ?_
    rintro x ⟨i, ws, rfl, hi, hws, hwl0, hl43, hne0⟩
    have hJ := join_len [32] ws hl43
    simp only [List.length_cons, List.length_nil] at hJ
    have hJ : (Lib.join ws [32]).length ≤ 1000000 := by omega
    by_cases hlt : i < c.length
    · have hlt : (i : Int) < (c.length : Int) := by omega
      refine Round.yes (decide_eq_true hlt) ?_
      refine for_round' (i : Int) (c.length : Int) (fun j (_ : Unit) => (c, ws.map tx, (i : Int), j, ())) (fun j _ => ∀ u : Nat, i ≤ u → (u : Int) < j → g c u = g c i) (b0 := ()) rfl (by omega) (fun u h1 h2 => absurd h2 (by omega)) ?_ ?_
      · intro j' _ h2 h3' hP
        obtain ⟨j, rfl⟩ : ∃ j : Nat, j' = j := ⟨j'.toNat, by omega⟩
        have a1 := g_idx (l := c) (i := (j : Int)) (by omega) (by omega)
        have a2 := g_idx (l := c) (i := (i : Int)) (by omega) (by omega)
        rw [Int.toNat_natCast] at a1 a2
        refine Round.yes (decide_eq_true h3') (Round.at a1.idx (Round.at a2.idx ?_))
        by_cases heq : g c j = g c i
        · refine Round.yes (by simp [heq]) (Round.inr _ ⟨(), by rw [wr_succ (by omega) h3' (by omega)], fun u h1 h2 => ?_⟩)
          by_cases hu : u = j
          · rw [hu, heq]
          · exact hP u h1 (by omega)
        · have hj1 : i < j := by
            apply Classical.byContradiction
            intro h
            exact heq (by rw [show j = i by omega])
          have hj2 : j ≤ c.length := by omega
          have h3 : ∀ u, i ≤ u → u < j → g c u = g c i := fun u h1 h2 => hP u h1 (by omega)
          have h4 : j = c.length ∨ g c j ≠ g c i := .inr heq
          refine Round.no (by simp [heq]) ?_
          have hv := g_idx (l := c) (i := (i : Int)) (by omega) (by omega)
          rw [Int.toNat_natCast] at hv
          have hvb := hC _ hv.mem
          obtain ⟨v, hv2⟩ : ∃ v : Nat, g c i = v := ⟨(g c i).toNat, by omega⟩
          have hd := rle_drop hj1 hj2 h3 h4
          have e1 : wr .i64 (g c i) = (v : Int) := by rw [hv2]; exact wrap_id (by omega) (by omega)
          have e2 : wr .i64 ((j : Int) - (i : Int)) = ((j - i : Nat) : Int) := by rw [wrap_id (by omega) (by omega)]; omega
          have hD1 := e103 v (by omega)
          have hD2 := e103 (j - i) (by omega)
          have z1 := dec_len (u := v) (by omega)
          have z2 := dec_len (u := j - i) (by omega)
          have hw : wordL (g c i, j - i) = if j - i > 1 then Lib.decDigits v ++ 42 :: Lib.decDigits (j - i) else Lib.decDigits v := by unfold wordL; rw [hv2]; rfl
          have hwl := wordL_len (x := (g c i, j - i)) (by show g c i ≤ _; omega) (by show j - i ≤ _; omega)
          have next : ∀ w, w = wordL (g c i, j - i) → (ws ++ [w]) ++ (rle (c.drop j)).map wordL = (rle c).map wordL ∧ (ws ++ [w]).length ≤ j ∧ (∀ u ∈ ws ++ [w], u.length ≤ 43) ∧ (0 < j → ws ++ [w] ≠ []) := fun w hw => by
            refine ⟨?_, by simp; omega, fun u hu => ?_, fun _ => by simp⟩
            · rw [← hws, hd, hw]; simp
            · rcases List.mem_append.1 hu with hu | hu
              · exact hl43 u hu
              · simp at hu; rw [hu, hw]; exact hwl
          refine Round.at hv.idx ?_
          simp only [e1, e2]
          refine Round.bind hD1 ?_
          have hml : (ws.map tx).length = ws.length := by simp
          by_cases hk : j - i > 1
          · refine Round.yes (decide_eq_true (by omega)) (Round.bind hD2 ?_)
            simp only [c42, tx_app]
            refine Round.chk (szT (by simp) (by omega)) (Round.chk (szT (by omega) (by simp; omega)) (Round.chk (by simp; omega) (Round.inl _ ⟨⟨j, ws ++ [wordL (g c i, j - i)], ?_, hj2, next _ rfl⟩, ?_⟩)))
            · rw [hw, if_pos hk]; simp
            · show c.length - (j : Int).toNat < c.length - (i : Int).toNat
              omega
          · refine Round.no (by simp; omega) (Round.chk (by simp; omega) (Round.inl _ ⟨⟨j, ws ++ [wordL (g c i, j - i)], ?_, hj2, next _ rfl⟩, ?_⟩))
            · rw [hw, if_neg hk]; simp
            · show c.length - (j : Int).toNat < c.length - (i : Int).toNat
              omega
      · intro _ hP
        refine Round.no (by simp) ?_
        have hj1 : i < c.length := by omega
        have hj2 : c.length ≤ c.length := Nat.le_refl _
        have h3 : ∀ u, i ≤ u → u < c.length → g c u = g c i := fun u h1 h2 => hP u h1 (by omega)
        have h4 : c.length = c.length ∨ g c c.length ≠ g c i := .inl rfl
        have hv := g_idx (l := c) (i := (i : Int)) (by omega) (by omega)
        rw [Int.toNat_natCast] at hv
        have hvb := hC _ hv.mem
        obtain ⟨v, hv2⟩ : ∃ v : Nat, g c i = v := ⟨(g c i).toNat, by omega⟩
        have hd := rle_drop hj1 hj2 h3 h4
        have e1 : wr .i64 (g c i) = (v : Int) := by rw [hv2]; exact wrap_id (by omega) (by omega)
        have e2 : wr .i64 ((c.length : Int) - (i : Int)) = ((c.length - i : Nat) : Int) := by rw [wrap_id (by omega) (by omega)]; omega
        have hD1 := e103 v (by omega)
        have hD2 := e103 (c.length - i) (by omega)
        have z1 := dec_len (u := v) (by omega)
        have z2 := dec_len (u := c.length - i) (by omega)
        have hw : wordL (g c i, c.length - i) = if c.length - i > 1 then Lib.decDigits v ++ 42 :: Lib.decDigits (c.length - i) else Lib.decDigits v := by unfold wordL; rw [hv2]; rfl
        have hwl := wordL_len (x := (g c i, c.length - i)) (by show g c i ≤ _; omega) (by show c.length - i ≤ _; omega)
        have next : ∀ w, w = wordL (g c i, c.length - i) → (ws ++ [w]) ++ (rle (c.drop c.length)).map wordL = (rle c).map wordL ∧ (ws ++ [w]).length ≤ c.length ∧ (∀ u ∈ ws ++ [w], u.length ≤ 43) ∧ (0 < c.length → ws ++ [w] ≠ []) := fun w hw => by
          refine ⟨?_, by simp; omega, fun u hu => ?_, fun _ => by simp⟩
          · rw [← hws, hd, hw]; simp
          · rcases List.mem_append.1 hu with hu | hu
            · exact hl43 u hu
            · simp at hu; rw [hu, hw]; exact hwl
        refine Round.at hv.idx ?_
        simp only [e1, e2]
        refine Round.bind hD1 ?_
        have hml : (ws.map tx).length = ws.length := by simp
        by_cases hk : c.length - i > 1
        · refine Round.yes (decide_eq_true (by omega)) (Round.bind hD2 ?_)
          simp only [c42, tx_app]
          refine Round.chk (szT (by simp) (by omega)) (Round.chk (szT (by omega) (by simp; omega)) (Round.chk (by simp; omega) (Round.inl _ ⟨⟨c.length, ws ++ [wordL (g c i, c.length - i)], ?_, hj2, next _ rfl⟩, ?_⟩)))
          · rw [hw, if_pos hk]; simp
          · show c.length - (c.length : Int).toNat < c.length - (i : Int).toNat
            omega
        · refine Round.no (by simp; omega) (Round.chk (by simp; omega) (Round.inl _ ⟨⟨c.length, ws ++ [wordL (g c i, c.length - i)], ?_, hj2, next _ rfl⟩, ?_⟩))
          · rw [hw, if_neg hk]; simp
          · show c.length - (c.length : Int).toNat < c.length - (i : Int).toNat
            omega
    · have hi : i = c.length := by omega
      refine Round.no (by simp; omega) (Round.done ?_)
      rw [hi, List.drop_length] at hws
      have hw2 : ws = (rle c).map wordL := by simpa [rle] using hws
      rw [if_pos rfl]
      unfold camJ
      rw [← hw2, c32]
      exact Evt.bind (e131 ws [32] (by omega) (by omega)) (Evt.some _)
/- strings.Split -/
theorem e98 {c : UInt8} {w : List UInt8} {ws : List (List UInt8)} (h : c ∉ w) (hs : ∀ v ∈ ws, c ∉ v) (hl : (Lib.join (w :: ws) [c]).length ≤ 1000000) : Evt (fun n => call T C n 98 (tx (Lib.join (w :: ws) [c]), tx [c], ())) (((w :: ws).map tx, ()), ()) := by
  refine Evt.next ?_ (fun n => r98 n (tx (Lib.join (w :: ws) [c])) (tx [c]))
  dsimp only
  rw [if_pos ⟨by rw [tx_size]; omega, by rw [tx_size]; simp⟩, split_tx h hs]
  exact Evt.some _
theorem e98_2 (c : UInt8) (l : List UInt8) (hl : l.length ≤ 10000000) : Evt (fun n => call T C n 98 (tx l, tx [c], ())) (((splitC c l).map tx, ()), ()) := by
  refine Evt.next ?_ (fun n => r98 n (tx l) (tx [c]))
  dsimp only
  rw [if_pos ⟨by rw [tx_size]; omega, by rw [tx_size]; simp⟩, split_all]
  exact Evt.some _
/- strings.Cut -/
theorem e125 (l s : List UInt8) (hl : l.length ≤ 10000000) : Evt (fun n => call T C n 125 (tx l, tx s, ())) ((tx (Lib.cut l s).1, tx (Lib.cut l s).2.1, (Lib.cut l s).2.2, ()), ()) := by
  refine Evt.next ?_ (fun n => r125 n (tx l) (tx s))
  dsimp only
  rw [if_pos (by rw [tx_size]; omega)]
  exact Evt.some _
/- strconv.ParseInt -/
theorem e220 {u : Nat} (h : u ≤ 9223372036854775807) : Evt (fun n => call T C n 220 (tx (Lib.decDigits u), 10, 64, ())) (((u : Int), false, ()), ()) := by
  have l1 := dec_len h
  refine Evt.next ?_ (fun n => r220 n (tx (Lib.decDigits u)) 10 64)
  dsimp only
  rw [if_pos ⟨by rw [tx_size]; omega, rfl, rfl⟩, tx_list, parse_int h]
  exact Evt.some _
/- impl.number -/
theorem e126 {u : Nat} (h : u ≤ 9223372036854775807) : Evt (fun n => call T C n 126 (tx (Lib.decDigits u), ())) (((u : Int), true, ()), ()) := by
  refine Evt.next (Evt.bind (e220 h) (Evt.chk rfl (Evt.yes rfl (Evt.bind (e103 u h) ?_)))) (fun n => r126 n (tx (Lib.decDigits u)))
  simp only [beq_self_eq_true, cond_true]
  exact Evt.some _
theorem e126_2 (l : List UInt8) (hl : l.length ≤ 10000000) : Evt (fun n => call T C n 126 (tx l, ())) (((numI l).1, (numI l).2, ()), ()) := by
  have hP : Evt (fun n => call T C n 220 (tx l, 10, 64, ())) (((numI l).1, (match Lib.parseIntB 64 l with | .ok _ => false | _ => true), ()), ()) := by
    refine Evt.next ?_ (fun n => r220 n (tx l) 10 64)
    dsimp only
    rw [if_pos ⟨by rw [tx_size]; omega, rfl, rfl⟩, tx_list]
    unfold numI
    cases Lib.parseIntB 64 l <;> exact Evt.some _
  have hb := numI_bd l
  refine Evt.next (Evt.bind hP (Evt.chk rfl ?_)) (fun n => r126 n (tx l))
  have hd := e103_2 (numI l).1 hb.1 hb.2
  revert hd
  rcases h : Lib.parseIntB 64 l with v | _ | _
  · intro hd
    refine Evt.yes rfl (Evt.bind hd ?_)
    simp only [tx_toList, cond_true]
    have e1 : (numI l).2 = (Lib.itoa (numI l).1 == l) := by unfold numI; rw [h]
    rw [e1]
    exact Evt.some _
  · intro _
    have e1 : (numI l).2 = false := by unfold numI; rw [h]
    rw [e1]
    exact Evt.no (by simp) (Evt.some _)
  · intro _
    have e1 : (numI l).2 = false := by unfold numI; rw [h]
    rw [e1]
    exact Evt.no (by simp) (Evt.some _)
/- slices.Repeat[impl.Cam,int16] -/
theorem e129 (v k : Int) (h1 : 1 ≤ k) (h2 : k ≤ 360) : Evt (fun n => call T C n 129 ([v], k, ())) ((List.replicate k.toNat v, ()), ()) := by
  refine Evt.next ?_ (fun n => r129 n [v] k)
  dsimp only
  rw [if_pos ⟨rfl, h1, h2⟩]
  exact Evt.some _
/- slices.Clone[impl.Cam,int16] -/
theorem e130 (l : List Int) (h0 : l.length ≠ 0) (hl : (l.length : Int) ≤ 1000000) : Evt (fun n => call T C n 130 (l, ())) ((l, ()), ()) :=
  Evt.next (Evt.yes (decide_eq_true h0) (Evt.chk (by simp; omega) (Evt.some _))) (fun n => r130 n l)
/- impl.ReadCam -/
theorem e26 (l : List UInt8) (hl : l.length ≤ 1048576) : Evt (fun n => call T C n 26 (tx l, ())) (((rdC l).1, (rdC l).2, ()), ()) := by
  refine Evt.next ?_ (fun n => r26 n (tx l))
  have hS := e98_2 32 l (by omega)
  have hn := splitC_len 32 l
  have hw := splitC_wlen (c := 32) (l := l)
  have hrd := rdC_eq l
  generalize splitC 32 l = ws at hS hn hw hrd
  refine Evt.bind hS ?_
  have hlm : (((ws.map tx).length : Nat) : Int) = (ws.length : Int) := by simp
  refine for_evt' 0 (ws.length : Int) (fun i (c : List Int) => (tx l, c, ws.map tx, (((ws.map tx).length : Nat) : Int), i, ())) (fun i c => foldO irW [] (ws.take i.toNat) = some c) (b0 := []) rfl (by omega) rfl ?_ ?_
  · intro i c i0 i1 hL
    obtain ⟨i, rfl⟩ := Int.eq_ofNat_of_zero_le i0
    rw [Int.toNat_natCast] at hL
    obtain ⟨w, hi⟩ : ∃ w, ws[i]? = some w := ⟨_, List.getElem?_eq_getElem (by omega)⟩
    have hwl := hw w (List.mem_of_getElem? hi)
    have G := irW_fold _ good0 hL
    have hvi : idx (ws.map tx) (i : Int) = some (tx w) := by
      unfold idx
      rw [if_pos (by omega), Int.toNat_natCast, List.getElem?_map, hi]; rfl
    have bad : irW c w = none → ∀ {f : Nat → Option ((List Int × Int × Unit) × Unit)}, Evt f ((([] : List Int), (5 : Int), ()), ()) → Evt f (((rdC l).1, (rdC l).2, ()), ()) := fun h f hf => by
      rw [hrd, foldO_none hL hi h]; exact hf
    have good : ∀ d, irW c w = some d → foldO irW [] (ws.take ((i : Int) + 1).toNat) = some d := fun d h => by
      rw [show ((i : Int) + 1).toNat = i + 1 by omega, foldO_next hL hi, h]
    have hws := wr_succ (i := (i : Int)) i0 i1 (by omega)
    have hC := e125 w [42] (by omega)
    have hcl : (Lib.cut w [42]).1.length ≤ w.length ∧ (Lib.cut w [42]).2.1.length ≤ w.length := by
      unfold Lib.cut
      split
      · exact ⟨by rw [List.length_take]; omega, by rw [List.length_drop]; omega⟩
      · exact ⟨Nat.le_refl _, by simp⟩
    have b1 := numI_bd (Lib.cut w [42]).1
    have b2 := numI_bd (Lib.cut w [42]).2.1
    have hg := G.1
    have hs360 : wr .i64 (360 - (c.length : Int)) = 360 - (c.length : Int) := wrap_id (by omega) (by omega)
    have hir : irW c w = if inR (numI (Lib.cut w [42]).1).1 0 10000 = true ∧ inR (timesI (Lib.cut w [42]).2.1) 1 (360 - c.length) = true then some (c ++ List.replicate (timesI (Lib.cut w [42]).2.1).toNat (numI (Lib.cut w [42]).1).1) else none := rfl
    dsimp only
    refine Round.yes (decide_eq_true (by rw [hlm]; exact i1)) (Round.at hvi (Round.bind hC (Round.bind (e126_2 _ (by omega)) (Round.bind (e126_2 _ (by omega)) ?_))))
    have both : ∀ (t : Int), t = timesI (Lib.cut w [42]).2.1 → inR (numI (Lib.cut w [42]).1).1 0 10000 = true → inR t 1 (360 - (c.length : Int)) = true → 0 ≤ (numI (Lib.cut w [42]).1).1 ∧ (numI (Lib.cut w [42]).1).1 ≤ 10000 ∧ 1 ≤ t ∧ t ≤ 360 - (c.length : Int) ∧ wr .i16 (numI (Lib.cut w [42]).1).1 = (numI (Lib.cut w [42]).1).1 ∧ irW c w = some (c ++ List.replicate t.toNat (numI (Lib.cut w [42]).1).1) := fun t ht h1 h2 => by
      have e1 := inR_iff.1 h1
      have e2 := inR_iff.1 h2
      exact ⟨e1.1, e1.2, e2.1, e2.2, wrap16 (by omega) (by omega), by rw [hir, ← ht, if_pos ⟨h1, h2⟩]⟩
    have h360 := e111
    by_cases c2 : (numI (Lib.cut w [42]).2.1).2 = true
    · have ht : (numI (Lib.cut w [42]).2.1).1 = timesI (Lib.cut w [42]).2.1 := by unfold timesI; rw [if_pos c2]
      refine Round.no (by simp [c2]) (Round.bind (e127 _) ?_)
      by_cases c3 : inR (numI (Lib.cut w [42]).1).1 0 10000 = true
      case neg => exact Round.yes (by simpa using c3) (Round.done (bad (by rw [hir, if_neg (fun h => c3 h.1)]) (Evt.some _)))
      refine Round.no (by simp [c3]) (Round.bind (e128 c) ?_)
      rw [hs360]
      refine Round.bind (e111 _ _ _) ?_
      by_cases c4 : inR (numI (Lib.cut w [42]).2.1).1 1 (360 - (c.length : Int)) = true
      case neg => exact Round.yes (by simpa using c4) (Round.done (bad (by rw [hir, ← ht, if_neg (fun h => c4 h.2)]) (Evt.some _)))
      obtain ⟨d0, d1, d2, d3, d4, d5⟩ := both _ ht c3 c4
      refine Round.no (by simp [c4]) ?_
      rw [d4]
      have dk : (numI (Lib.cut w [42]).2.1).1 ≤ 360 := by omega
      refine Round.bind (e129 _ _ d2 dk) (Round.chk (decide_eq_true (by simp; omega)) (Round.again _ ⟨_, ?_, good _ d5⟩))
      rw [hws]
    · have ht : (1 : Int) = timesI (Lib.cut w [42]).2.1 := by unfold timesI; rw [if_neg c2]
      refine Round.yes (by simp [c2]) (Round.bind (e127 _) ?_)
      by_cases c3 : inR (numI (Lib.cut w [42]).1).1 0 10000 = true
      case neg => exact Round.yes (by simpa using c3) (Round.done (bad (by rw [hir, if_neg (fun h => c3 h.1)]) (Evt.some _)))
      refine Round.no (by simp [c3]) (Round.bind (e128 c) ?_)
      rw [hs360]
      refine Round.bind (e111 _ _ _) ?_
      by_cases c4 : inR 1 1 (360 - (c.length : Int)) = true
      case neg => exact Round.yes (by simpa using c4) (Round.done (bad (by rw [hir, ← ht, if_neg (fun h => c4 h.2)]) (Evt.some _)))
      obtain ⟨d0, d1, d2, d3, d4, d5⟩ := both _ ht c3 c4
      refine Round.no (by simp [c4]) ?_
      rw [d4]
      refine Round.bind (e129 _ _ d2 (by omega)) (Round.chk (decide_eq_true (by simp; omega)) (Round.again _ ⟨_, ?_, good _ d5⟩))
      rw [hws]
  · intro c hL
    rw [Int.toNat_natCast, List.take_length] at hL
    have G := irW_fold _ good0 hL
    have hr := G.rng
    have hg := G.1
    rw [hL] at hrd
    simp only at hrd
    dsimp only
    refine Round.no (by rw [hlm]; simp) (Round.bind (e34 c (by omega)) ?_)
    cases ho : okC c with
    | false =>
      rw [hrd, if_neg (fun h => by rw [ho] at h; cases h.1)]
      exact Round.yes rfl (Round.done (Evt.some _))
    | true =>
      have hct : camT c = tx (camJ c) := if_pos ho
      have hcl := okC_len ho
      refine Round.no (by simp) (Round.bind (e27 c hr) ?_)
      rw [hct]
      simp only [tx_toList]
      by_cases hq : camJ c = l
      · have e9 : rdC l = (c, 0) := by rw [hrd, if_pos ⟨ho, hq⟩]
        rw [e9, hq]
        exact Round.no (by simp) (Round.bind (e130 c (by omega) (by omega)) (Round.done (Evt.some _)))
      · have e9 : rdC l = ([], 5) := by rw [hrd, if_neg (fun h => hq h.2)]
        rw [e9]
        exact Round.yes (by simpa using hq) (Round.done (Evt.some _))
/- impl.floorDiv -/
theorem e246 {a b : Int} (hb : 0 < b) (h1 : -4500000000000000000 ≤ a) (h2 : a ≤ 4500000000000000000) : Evt (fun n => call T C n 246 (a, b, ())) ((a / b, ()), ()) := by
  have hbd := ediv_bd hb h1 h2 (by omega)
  have he := floorDiv_eq (a := a) hb
  refine Evt.next (Evt.chk (bne_pos hb) (Evt.chk (bne_pos hb) (Evt.ite (fun h => ?_) (fun h => ?_)))) (fun n => r246 n a b)
  · have h : Int.tmod a b < 0 := of_decide_eq_true h
    rw [if_pos h] at he
    refine (Evt.some _).of_eq fun n => ?_
    rw [wrap_id (x := Int.tdiv a b) (by omega) (by omega), wrap_id (by omega) (by omega), he]
    rfl
  · have h : ¬ Int.tmod a b < 0 := by simpa using h
    rw [if_neg h] at he
    refine (Evt.some _).of_eq fun n => ?_
    rw [wrap_id (x := Int.tdiv a b) (by omega) (by omega), he]
    rfl
/- impl.mod -/
theorem e194 {a b : Int} (hb : 0 < b) (hb' : b ≤ 1000000000000) (h1 : -1000000000000 ≤ a) (h2 : a ≤ 1000000000000) : Evt (fun n => call T C n 194 (a, b, ())) ((a % b, ()), ()) := by
  have hd := Int.emod_def a b
  have h3 := Int.emod_nonneg a (show b ≠ 0 by omega)
  have h4 := Int.emod_lt_of_pos a hb
  refine Evt.next (Evt.bind (e246 hb (by omega) (by omega)) ((Evt.some _).of_eq fun n => ?_)) (fun n => r194 n a b)
  simp only
  rw [wrap_id (x := b * (a / b)) (by omega) (by omega), ← hd, wrap_id (by omega) (by omega)]
  rfl
/- (impl.Cam).at -/
theorem e148 {l : List Int} (hr : Rng l) (h0 : 0 < (l.length : Int)) (h1 : (l.length : Int) ≤ 1000000) {x : Int} (hx : -4000000 ≤ x) (hx' : x ≤ 4000000) : Evt (fun n => call T C n 148 (l, x, ())) ((cAt l x, ()), ()) := by
  have hp := Int.emod_nonneg x (show (l.length : Int) ≠ 0 by omega)
  have hq := Int.emod_lt_of_pos x h0
  have hv := g_idx (l := l) hp hq
  refine Evt.next (Evt.bind (e128 l) (Evt.bind (e194 (a := x) h0 (by omega) (by omega) (by omega)) (Evt.at hv.idx ((Evt.some _).of_eq fun n => ?_)))) (fun n => r148 n l x)
  rw [hr.id hv.mem]
  rfl
/- (impl.Cam).change -/
theorem e133 {c : List Int} (hr : Rng c) (h0 : 0 < c.length) (h1 : c.length ≤ 1000) {x : Int} (x0 : -1000000 ≤ x) (x1 : x ≤ 1000000) : Evt (fun n => call T C n 133 (c, x, ())) ((cAt c (x + 1) - cAt c x, ()), ()) := by
  have b1 := hr.el _ (cAt_mem h0 (x + 1))
  have b2 := hr.el _ (cAt_mem h0 x)
  refine Evt.next ?_ (fun n => r133 n c x)
  rw [wrap_id (x := x + 1) (by omega) (by omega)]
  refine Evt.bind (e148 hr (by omega) (by omega) (by omega) (by omega)) (Evt.bind (e148 hr (by omega) (by omega) (by omega) (by omega)) ((Evt.some _).of_eq fun n => ?_))
  show some ((wr .i64 (cAt c (x + 1) - cAt c x), ()), ()) = _
  rw [wrap_id (x := cAt c (x + 1) - cAt c x) (by omega) (by omega)]
  rfl
/- (impl.Cam).numbers{(impl.Cam).change} -/
theorem e132 {c : List Int} (hr : Rng c) (h0 : 0 < c.length) (h1 : c.length ≤ 1000) : Evt (fun n => call T C n 132 (c, ((c, ()), ()), ())) ((tb c.length (fun i : Nat => cAt c ((i : Nat) + 1) - cAt c (i : Nat)), ()), (((c, ()), ()), ())) := by
  refine Evt.next (Evt.bind (e128 c) ?_) (fun n => r132 n c ((c, ()), ()))
  have hE : ∀ i : Nat, i < c.length → Evt (fun n => call T C n 133 (c, (i : Int), ())) ((cAt c ((i : Nat) + 1) - cAt c (i : Nat), ()), ()) := fun i hi => e133 hr h0 h1 (by omega) (by omega)
  obtain ⟨F, eF⟩ : ∃ F : Nat → Int, F = (fun i : Nat => cAt c ((i : Nat) + 1) - cAt c (i : Nat)) := ⟨_, rfl⟩
  rw [← eF]
  refine for_evt' 0 (c.length : Int) (fun i (_ : Unit) => (((c, ()), ()), tb i.toNat F, (c.length : Int), i, ())) (fun _ _ => True) (b0 := ()) rfl (by omega) trivial ?_ ?_
  · intro i' _ h2 h3 _
    obtain ⟨i, rfl⟩ : ∃ i : Nat, i' = i := ⟨i'.toNat, by omega⟩
    have hi : i < c.length := by omega
    have hc := hE i hi
    have lT : (tb i F).length = i := tb_len _ _
    have eFi : F i = cAt c ((i : Nat) + 1) - cAt c (i : Nat) := by rw [eF]
    rw [Int.toNat_natCast, show ((i : Int) + 1).toNat = i + 1 by omega]
    refine Round.yes (decide_eq_true h3) (Round.bind hc (Round.chk (decide_eq_true (by simp only [List.length_cons, List.length_nil, lT]; omega)) (Round.again _ ⟨(), ?_, trivial⟩)))
    rw [wrap_id (x := (i : Int) + 1) (by omega) (by omega), ← tb_snoc, eFi]
  · intro _ _
    rw [Int.toNat_natCast]
    exact Round.no (by simp) (Round.done (Evt.some _))
/- impl.ChangesOf -/
theorem e28 {c : List Int} (hr : Rng c) (ok : okC c = true) : Evt (fun n => call T C n 28 (c, ())) ((chgL c, 0, ()), ()) := by
  have hl := okC_len ok
  have hv := e34 c (by omega)
  rw [ok] at hv
  have hN := e132 hr (by omega) (by omega)
  refine Evt.next ?_ (fun n => r28 n c)
  exact Evt.bind hv (Evt.no (by simp) (Evt.bind hN (Evt.some _)))
/- (impl.Cam).bend -/
theorem e134 {c : List Int} (hr : Rng c) (h0 : 0 < c.length) (h1 : c.length ≤ 1000) {x : Int} (x0 : -100000 ≤ x) (x1 : x ≤ 100000) : Evt (fun n => call T C n 134 (c, x, ())) ((bendP c x, ()), ()) := by
  have b1 := hr.el _ (cAt_mem h0 (x + 1))
  have b2 := hr.el _ (cAt_mem h0 x)
  have b3 := hr.el _ (cAt_mem h0 (x - 1))
  refine Evt.next ?_ (fun n => r134 n c x)
  rw [wrap_id (x := x - 1) (by omega) (by omega)]
  refine Evt.bind (e133 hr h0 h1 (by omega) (by omega)) (Evt.bind (e133 hr h0 h1 (by omega) (by omega)) ((Evt.some _).of_eq fun n => ?_))
  show some ((wr .i64 (cAt c (x + 1) - cAt c x - (cAt c (x - 1 + 1) - cAt c (x - 1))), ()), ()) = _
  rw [show x - 1 + 1 = x by omega, wrap_id (by omega) (by omega), show cAt c (x + 1) - cAt c x - (cAt c x - cAt c (x - 1)) = bendP c x by unfold bendP; omega]
  rfl
/- (impl.Cam).numbers{(impl.Cam).bend} -/
theorem e1132 {c : List Int} (hr : Rng c) (h0 : 0 < c.length) (h1 : c.length ≤ 1000) : Evt (fun n => call T C n 1132 (c, ((c, ()), ()), ())) ((bends c, ()), (((c, ()), ()), ())) := by
  refine Evt.next (Evt.bind (e128 c) ?_) (fun n => r1132 n c ((c, ()), ()))
  refine for_evt' 0 (c.length : Int) (fun i (_ : Unit) => (((c, ()), ()), tb i.toNat (fun i => bendP c (i : Nat)), (c.length : Int), i, ())) (fun _ _ => True) (b0 := ()) rfl (by omega) trivial ?_ ?_
  · intro i _ h2 h3 _
    obtain ⟨k, rfl⟩ : ∃ k : Nat, i = k := ⟨i.toNat, by omega⟩
    refine Round.yes (decide_eq_true h3) (Round.bind (e134 hr h0 h1 (x := (k : Int)) (by omega) (by omega)) (Round.chk (decide_eq_true (by simp only [tb_len, List.length_cons, List.length_nil]; omega)) (Round.again _ ⟨(), ?_, trivial⟩)))
    rw [wr_succ h2 h3 (by omega), show ((k : Int) + 1).toNat = k + 1 by omega, ← tb_snoc, Int.toNat_natCast]
  · intro _ _
    rw [Int.toNat_natCast]
    exact Round.no (by simp) (Round.done (Evt.some _))
/- impl.BendsOf -/
theorem e29 {c : List Int} (hr : Rng c) (ok : okC c = true) : Evt (fun n => call T C n 29 (c, ())) ((bends c, 0, ()), ()) := by
  have hl := okC_len ok
  have hv := e34 c (by omega)
  rw [ok] at hv
  have hN := e1132 hr (by omega) (by omega)
  refine Evt.next ?_ (fun n => r29 n c)
  exact Evt.bind hv (Evt.no (by simp) (Evt.bind hN (Evt.some _)))
/- spec.l00In -/
theorem e182 (a b c : Int) : Evt (fun n => call T C n 182 (a, b, c, ())) ((inR a b c, ()), ()) := by
  refine Evt.next ?_ (fun n => r182 n a b c)
  refine Evt.ite (fun h => ?_) (fun h => ?_)
  · refine (Evt.some _).of_eq fun n => ?_
    have h : b ≤ a := of_decide_eq_true h
    simp [inR, h]
    rfl
  · refine (Evt.some _).of_eq fun n => ?_
    have h : ¬ b ≤ a := by simpa using h
    simp [inR, h]
    rfl
/- spec.l01Steps -/
theorem e223 (a : Int) : Evt (fun n => call T C n 223 (a, ())) ((inR a 8 360, ()), ()) := Evt.next (Evt.bind (e182 a 8 360) (Evt.some _)) (fun n => r223 n a)
/- spec.l01Lift -/
theorem e224 (a : Int) : Evt (fun n => call T C n 224 (a, ())) ((inR a 0 10000, ()), ()) := Evt.next (Evt.bind (e182 a 0 10000) (Evt.some _)) (fun n => r224 n a)
/- spec.l01Ok -/
theorem e135 (l : List Int) (hl : (l.length : Int) ≤ 140737488351232) : Evt (fun n => call T C n 135 (l, ())) ((okC l, ()), ()) := by
  refine Evt.next ?_ (fun n => r135 n l)
  refine Evt.bind (e223 _) ?_
  refine Evt.ite (fun h => ?_) (fun h => ?_)
  · refine (Evt.some _).of_eq fun n => ?_
    have h : inR (l.length : Int) 8 360 = false := by simpa using h
    simp [okC, h]
    rfl
  · have h : inR (l.length : Int) 8 360 = true := by simpa using h
    have he : okC l = l.all okV := by simp [okC, h]
    rw [he]
    refine loop_evt (fun (x : List Int × Int × Unit) => x.1 = l ∧ 0 ≤ x.2.1 ∧ x.2.1 ≤ (l.length : Int) ∧ l.all okV = (l.drop x.2.1.toNat).all okV) (fun (x : List Int × Int × Unit) => ((l.length : Int) - x.2.1).toNat) (x := (l, 0, ())) ⟨rfl, Int.le_refl _, by simp, by simp⟩ ?_
    rintro ⟨x1, i, _⟩ ⟨h', h0, h1, h2⟩
    simp only at h' h0 h1 h2
    subst h'
    refine Round.ite (fun hlt => ?_) (fun hge => ?_)
    · have hlt : i < (x1.length : Int) := of_decide_eq_true hlt
      obtain ⟨v, hv, hv'⟩ := idx_at h0 hlt
      have hd := drop_cons hv'
      refine Round.at hv (Round.bind (e224 _) (Round.ite (fun hb => ?_) (fun hb => ?_)))
      · have hb : okV v = false := by simpa [okV] using hb
        have h3 : x1.all okV = false := by rw [h2, hd]; simp [hb]
        rw [h3]
        exact Round.done (Evt.some _)
      · have hb : okV v = true := by simpa [okV] using hb
        have hw : wr .i64 (i + 1) = i + 1 := wrap_id (by omega) (by omega)
        refine Round.again _ ⟨⟨rfl, ?_, ?_, ?_⟩, ?_⟩ <;> simp only [hw]
        · omega
        · omega
        · rw [h2, hd, show (i + 1).toNat = i.toNat + 1 by omega]
          simp [hb]
        · omega
    · have hge : ¬ i < (x1.length : Int) := by simpa using hge
      have : x1.drop i.toNat = [] := List.drop_of_length_le (by omega)
      rw [h2, this]
      exact Round.done (Evt.some _)
/- spec.l01At -/
theorem e187 {l : List Int} (hr : Rng l) (h0 : 0 < (l.length : Int)) (h1 : (l.length : Int) ≤ 1000000) {x : Int} (hx : -4000000 ≤ x) (hx' : x ≤ 4000000) : ∃ v, l[(x % l.length).toNat]? = some v ∧ v ∈ l ∧ Evt (fun n => call T C n 187 (l, x, ())) ((v, ()), ()) := by
  have hp := Int.emod_nonneg x (show (l.length : Int) ≠ 0 by omega)
  obtain ⟨v, hv⟩ := at_of (l := l) hp (Int.emod_lt_of_pos x h0)
  refine ⟨v, hv.get, hv.mem, ?_⟩
  refine Evt.next (Evt.chk (bne_pos h0) (Evt.chk (bne_pos h0) ?_)) (fun n => r187 n l x)
  rw [turn_at h0 h1 hx hx']
  refine Evt.at hv.idx ((Evt.some _).of_eq fun n => ?_)
  rw [hr.id hv.mem]
  rfl
theorem e187' {l : List Int} (hr : Rng l) (h0 : 0 < (l.length : Int)) (h1 : (l.length : Int) ≤ 1000000) {x : Int} (hx : -4000000 ≤ x) (hx' : x ≤ 4000000) : Evt (fun n => call T C n 187 (l, x, ())) ((cAt l x, ()), ()) := by
  obtain ⟨v, hv, hm, he⟩ := e187 hr h0 h1 hx hx'
  have : cAt l x = v := by unfold cAt g; rw [List.getD_eq_getElem?_getD, hv]; rfl
  rw [this]; exact he
/- spec.l01Changes -/
theorem e136 {c : List Int} (hr : Rng c) (h0 : 0 < c.length) (h1 : c.length ≤ 1000) : Evt (fun n => call T C n 136 (c, ())) ((chgL c, ()), ()) := by
  refine Evt.next ?_ (fun n => r136 n c)
  refine for_evt' 0 (c.length : Int) (fun i (_ : Unit) => (c, (List.range i.toNat).map (fun i => cAt c ((i : Nat) + 1) - cAt c (i : Nat)), i, ())) (fun _ _ => True) (b0 := ()) rfl (by omega) trivial ?_ ?_
  · intro i _ h2 h3 _
    have b1 := hr.el _ (cAt_mem h0 (i + 1))
    have b2 := hr.el _ (cAt_mem h0 i)
    simp only [wr_succ h2 h3 (by omega)]
    refine Round.yes (decide_eq_true h3) (Round.bind (e187' hr (by omega) (by omega) (by omega) (by omega)) (Round.bind (e187' hr (by omega) (by omega) (by omega) (by omega)) (Round.chk (decide_eq_true (by simp; omega)) (Round.again _ ⟨(), ?_, trivial⟩))))
    show (c, _ ++ [wr .i64 (cAt c (i + 1) - cAt c i)], i + 1, ()) = _
    rw [wrap_id (x := cAt c (i + 1) - cAt c i) (by omega) (by omega), show (i + 1).toNat = i.toNat + 1 by omega, List.range_succ, List.map_append]
    simp [show ((i.toNat : Nat) : Int) = i by omega]
  · intro _ _
    exact Round.no (by simp) (Round.done (Evt.some ((chgL c, ()), ())))
/- spec.ChangesOf -/
theorem e30 {c : List Int} (hr : Rng c) (ok : okC c = true) : Evt (fun n => call T C n 30 (c, ())) ((chgL c, 0, ()), ()) := by
  have hl := okC_len ok
  have hC := okC_el ok hr
  have hv := e135 c (by omega)
  rw [ok] at hv
  refine Evt.next ?_ (fun n => r30 n c)
  exact Evt.bind hv (Evt.no (by simp) (Evt.bind (e136 hr (by omega) (by omega)) (Evt.some _)))
/- spec.l01Bends -/
theorem e137 {c : List Int} (hr : Rng c) (ok : okC c = true) : Evt (fun n => call T C n 137 (c, ())) ((bends c, ()), ()) := by
  have lx := okC_len ok
  have hC := okC_el ok hr
  have h0 : 0 < c.length := by omega
  refine Evt.next ?_ (fun n => r137 n c)
  refine for_evt' 0 (c.length : Int) (fun i (_ : Unit) => (c, tb i.toNat (fun i => bendP c (i : Nat)), i, ())) (fun _ _ => True) (b0 := ()) rfl (by omega) trivial ?_ ?_
  · intro i _ h2 h3 _
    obtain ⟨k, rfl⟩ : ∃ k : Nat, i = k := ⟨i.toNat, by omega⟩
    have a := hC _ (cAt_mem h0 ((k : Int) + 1))
    have b := hC _ (cAt_mem h0 (k : Int))
    have d := hC _ (cAt_mem h0 ((k : Int) - 1))
    refine Round.yes (decide_eq_true h3) ?_
    simp only [wrap_id (x := (k : Int) + 1) (by omega) (by omega), wrap_id (x := (k : Int) - 1) (by omega) (by omega)]
    refine Round.bind (e187' hr (by omega) (by omega) (x := (k : Int) + 1) (by omega) (by omega)) (Round.bind (e187' hr (by omega) (by omega) (x := (k : Int)) (by omega) (by omega)) (Round.bind (e187' hr (by omega) (by omega) (x := (k : Int) - 1) (by omega) (by omega)) ?_))
    simp only [wrap_id (x := 2 * cAt c (k : Int)) (by omega) (by omega), wrap_id (x := cAt c ((k : Int) + 1) - 2 * cAt c (k : Int)) (by omega) (by omega), wrap_id (x := cAt c ((k : Int) + 1) - 2 * cAt c (k : Int) + cAt c ((k : Int) - 1)) (by omega) (by omega)]
    refine Round.chk (decide_eq_true (by simp only [tb_len, List.length_cons, List.length_nil]; omega)) (Round.again _ ⟨(), ?_, trivial⟩)
    rw [show ((k : Int) + 1).toNat = k + 1 by omega, ← tb_snoc, Int.toNat_natCast]
    rfl
  · intro _ _
    rw [Int.toNat_natCast]
    exact Round.no (by simp) (Round.done (Evt.some _))
/- spec.BendsOf -/
theorem e31 {c : List Int} (hr : Rng c) (ok : okC c = true) : Evt (fun n => call T C n 31 (c, ())) ((bends c, 0, ()), ()) := by
  have hl := okC_len ok
  have hv := e135 c (by omega)
  rw [ok] at hv
  refine Evt.next ?_ (fun n => r31 n c)
  exact Evt.bind hv (Evt.no (by simp) (Evt.bind (e137 hr ok) (Evt.some _)))
/- spec.l01Same -/
theorem e138 (l : List Int) (hl : (l.length : Int) ≤ 1000000) : Evt (fun n => call T C n 138 (l, l, ())) ((true, ()), ()) := by
  refine Evt.next (Evt.no (by simp) ?_) (fun n => r138 n l l)
  refine for_evt' 0 (l.length : Int) (fun i (_ : Unit) => (l, l, i, ())) (fun _ _ => True) (b0 := ()) rfl (by omega) trivial ?_ ?_
  · intro i _ h2 h3 _
    obtain ⟨v, hv⟩ := at_of h2 h3
    exact Round.yes (decide_eq_true h3) (Round.at hv.idx (Round.at hv.idx (Round.no (by simp) (Round.again _ ⟨(), by rw [wr_succ h2 h3 (by omega)], trivial⟩))))
  · intro _ _
    exact Round.no (by simp) (Round.done (Evt.some _))
theorem e138_2 (a b : List Int) (hl : (a.length : Int) ≤ 1000000) : Evt (fun n => call T C n 138 (a, b, ())) ((decide (a = b), ()), ()) := by
  by_cases hlen : a.length = b.length
  · refine Evt.next (Evt.no (by simp [hlen]) ?_) (fun n => r138 n a b)
    refine for_evt' 0 (a.length : Int) (fun i (_ : Unit) => (a, b, i, ())) (fun i _ => a.take i.toNat = b.take i.toNat) (b0 := ()) rfl (by omega) (by simp) ?_ ?_
    · intro i _ h2 h3 he
      obtain ⟨u, hu⟩ := at_of h2 h3
      obtain ⟨v, hv⟩ := at_of (l := b) h2 (by omega)
      refine Round.yes (decide_eq_true h3) (Round.at hu.idx (Round.at hv.idx (Round.ite (fun h => ?_) (fun h => ?_))))
      · have h : u ≠ v := by simpa using h
        have : a ≠ b := fun e => by
          subst e
          have := hu.get.symm.trans hv.get
          exact h (Option.some.inj this)
        rw [decide_eq_false this]
        exact Round.done (Evt.some _)
      · have h : u = v := by simpa using h
        exact Round.again _ ⟨(), by rw [wr_succ h2 h3 (by omega)], by rw [hu.take, hv.take, he, h]⟩
    · intro _ he
      have he : a = b := by rwa [take_all, hlen, take_all] at he
      rw [decide_eq_true he]
      exact Round.no (by simp) (Round.done (Evt.some _))
  · have : a ≠ b := fun e => hlen (by rw [e])
    rw [decide_eq_false this]
    exact Evt.next (Evt.yes (by simp; omega) (Evt.some _)) (fun n => r138 n a b)
/- spec.SameCam -/
theorem e32 (l : List Int) (hl : (l.length : Int) ≤ 1000000) : Evt (fun n => call T C n 32 (l, l, ())) ((true, ()), ()) := Evt.next (Evt.bind (e138 l hl) (Evt.some _)) (fun n => r32 n l l)
theorem e32_2 (a b : List Int) (hl : (a.length : Int) ≤ 1000000) : Evt (fun n => call T C n 32 (a, b, ())) ((decide (a = b), ()), ()) := Evt.next (Evt.bind (e138_2 a b hl) (Evt.some _)) (fun n => r32 n a b)
/- slices.Equal[impl.Cam,int16] -/
theorem e109 (a b : List Int) (hl : (a.length : Int) ≤ 1000000) : Evt (fun n => call T C n 109 (a, b, ())) ((decide (a = b), ()), ()) := by
  by_cases hlen : a.length = b.length
  · refine Evt.next (Evt.no (by simp [hlen]) ?_) (fun n => r109 n a b)
    refine for_evt' 0 (a.length : Int) (fun i (_ : Unit) => (a, b, (a.length : Int), i, ())) (fun i _ => a.take i.toNat = b.take i.toNat) (b0 := ()) rfl (by omega) (by simp) ?_ ?_
    · intro i _ h2 h3 he
      obtain ⟨u, hu⟩ := at_of h2 h3
      obtain ⟨v, hv⟩ := at_of (l := b) h2 (by omega)
      refine Round.yes (decide_eq_true h3) (Round.at hu.idx (Round.at hv.idx (Round.ite (fun h => ?_) (fun h => ?_))))
      · have h : u ≠ v := by simpa using h
        have : a ≠ b := fun e => by
          subst e
          have := hu.get.symm.trans hv.get
          exact h (Option.some.inj this)
        rw [decide_eq_false this]
        exact Round.done (Evt.some _)
      · have h : u = v := by simpa using h
        exact Round.again _ ⟨(), by rw [wr_succ h2 h3 (by omega)], by rw [hu.take, hv.take, he, h]⟩
    · intro _ he
      have he : a = b := by rwa [take_all, hlen, take_all] at he
      rw [decide_eq_true he]
      exact Round.no (by simp) (Round.done (Evt.some _))
  · have : a ≠ b := fun e => hlen (by rw [e])
    rw [decide_eq_false this]
    exact Evt.next (Evt.yes (by simp; omega) (Evt.some _)) (fun n => r109 n a b)
/- impl.SameCam -/
theorem e33 (a b : List Int) (hl : (a.length : Int) ≤ 1000000) : Evt (fun n => call T C n 33 (a, b, ())) ((decide (a = b), ()), ()) := Evt.next (Evt.bind (e109 a b hl) (Evt.some _)) (fun n => r33 n a b)
/- spec.l00Same -/
theorem e118 (l : List Int) (hl : (l.length : Int) ≤ 1000000) : Evt (fun n => call T C n 118 (l, l, ())) ((true, ()), ()) := by
  refine Evt.next (Evt.no (by simp) ?_) (fun n => r118 n l l)
  refine for_evt' 0 (l.length : Int) (fun i (_ : Unit) => (l, l, i, ())) (fun _ _ => True) (b0 := ()) rfl (by omega) trivial ?_ ?_
  · intro i _ h2 h3 _
    obtain ⟨v, hv⟩ := at_of h2 h3
    exact Round.yes (decide_eq_true h3) (Round.at hv.idx (Round.at hv.idx (Round.no (by simp) (Round.again _ ⟨(), by rw [wr_succ h2 h3 (by omega)], trivial⟩))))
  · intro _ _
    exact Round.no (by simp) (Round.done (Evt.some _))
/- spec.SameNumbers -/
theorem e35 (l : List Int) (hl : (l.length : Int) ≤ 1000000) : Evt (fun n => call T C n 35 (l, l, ())) ((true, ()), ()) := Evt.next (Evt.bind (e118 l hl) (Evt.some _)) (fun n => r35 n l l)
/- laws.f6size -/
theorem e36 {a : Int} (h1 : -1000000000000 ≤ a) (h2 : a ≤ 1000000000000) : Evt (fun n => call T C n 36 (a, ())) ((siz a, ()), ()) := by
  refine Evt.next ((Evt.some _).of_eq fun n => ?_) (fun n => r36 n a)
  rw [wrap_id (x := 0 - a) (by omega) (by omega)]
  have : (if 0 - a > a then 0 - a else a) = siz a := by unfold siz; split <;> split <;> omega
  rw [this]
  rfl
/- impl.abs -/
theorem e193 {a : Int} (h1 : -1000000000000 ≤ a) (h2 : a ≤ 1000000000000) : Evt (fun n => call T C n 193 (a, ())) ((siz a, ()), ()) := by
  refine Evt.next ((Evt.some _).of_eq fun n => ?_) (fun n => r193 n a)
  rw [wrap_id (x := 0 - a) (by omega) (by omega)]
  unfold siz
  have : (if 0 - a > a then 0 - a else a) = if a < 0 then -a else a := by split <;> split <;> omega
  rw [this]
  rfl
/- impl.greatest -/
theorem e142 {l : List Int} (hl : (l.length : Int) ≤ 1000000) (hb : ∀ v ∈ l, -1000000000000 ≤ v ∧ v ≤ 1000000000000) : Evt (fun n => call T C n 142 (l, ())) (((gr l).1, (gr l).2.1, ()), ()) := by
  refine Evt.next ?_ (fun n => r142 n l)
  refine for_evt' 0 (l.length : Int) (fun i (_ : Unit) => ((gr (l.take i.toNat)).1, (gr (l.take i.toNat)).2.1, l, (l.length : Int), i, ())) (fun _ _ => True) (b0 := ()) rfl (by omega) trivial ?_ ?_
  · intro i _ h2 h3 _
    obtain ⟨v, hv⟩ := at_of h2 h3
    have hvb := hb v hv.mem
    have hA := e193 hvb.1 hvb.2
    have hn : (gr (l.take i.toNat)).2.2 = i := by
      have := gr_n (l.take i.toNat) (0, -1, 0)
      have h4 : (l.take i.toNat).length = i.toNat := by rw [List.length_take]; omega
      rw [h4] at this
      unfold gr
      rw [this]
      show (0 : Int) + ((i.toNat : Nat) : Int) = i
      omega
    refine Round.yes (decide_eq_true h3) (Round.at hv.idx (Round.bind hA (Round.ite (fun hc => ?_) (fun hc => ?_))))
    · have hc : siz v > (gr (l.take i.toNat)).2.1 := of_decide_eq_true hc
      refine Round.bind hA (Round.again _ ⟨(), ?_, trivial⟩)
      rw [hv.take, gr_snoc, wr_succ h2 h3 (by omega)]
      unfold grS
      rw [if_pos hc, hn]
    · have hc : ¬ siz v > (gr (l.take i.toNat)).2.1 := by simpa using hc
      refine Round.again _ ⟨(), ?_, trivial⟩
      rw [hv.take, gr_snoc, wr_succ h2 h3 (by omega)]
      unfold grS
      rw [if_neg hc]
  · intro _ _
    simp only [take_all]
    exact Round.no (by simp) (Round.done (Evt.some _))
/- impl.SteepestOf -/
theorem e37 {c : List Int} (hr : Rng c) (ok : okC c = true) : Evt (fun n => call T C n 37 (c, ())) (((gr (chgL c)).1, (gr (chgL c)).2.1, 0, ()), ()) := by
  have hl := okC_len ok
  have hC := okC_el ok hr
  have hv := e34 c (by omega)
  rw [ok] at hv
  have hN := e132 hr (by omega) (by omega)
  have hG := e142 (l := chgL c) (by rw [chgL_len]; omega) (fun v hv => by
    obtain ⟨x, rfl⟩ := chgL_mem hv
    have := hC _ (cAt_mem (show 0 < c.length by omega) x)
    have := hC _ (cAt_mem (show 0 < c.length by omega) (x + 1))
    omega)
  refine Evt.next ?_ (fun n => r37 n c)
  exact Evt.bind hv (Evt.no (by simp) (Evt.bind hN (Evt.bind hG (Evt.some _))))
/- impl.RoughestOf -/
theorem e38 {c : List Int} (hr : Rng c) (ok : okC c = true) : Evt (fun n => call T C n 38 (c, ())) (((gr (bends c)).1, (gr (bends c)).2.1, 0, ()), ()) := by
  have hl := okC_len ok
  have hC := okC_el ok hr
  have hv := e34 c (by omega)
  rw [ok] at hv
  have hN := e1132 hr (by omega) (by omega)
  have hG := e142 (l := bends c) (by rw [bends_len]; omega) (fun v hv => by
    unfold bends tb at hv
    obtain ⟨x, _, rfl⟩ := List.mem_map.1 hv
    have := bends_bd (show 0 < c.length by omega) hC (x : Nat)
    omega)
  refine Evt.next ?_ (fun n => r38 n c)
  exact Evt.bind hv (Evt.no (by simp) (Evt.bind hN (Evt.bind hG (Evt.some _))))
/- spec.P6Pick -/
theorem e39 {b : List Int} (hb : ∀ v ∈ b, 0 ≤ v ∧ v ≤ 255) (hl : (b.length : Int) ≤ 4096) {m : Int} (m1 : 1 ≤ m) (m2 : m ≤ 1000000) : ∃ v : Int, Evt (fun n => call T C n 39 (b, m, ())) ((v, ()), ()) ∧ 0 ≤ v ∧ v < m := by
  have h0 : SrcAt 0 ((b, 0, 0, ()) : Src) := ⟨hb, by show (b.length : Int) ≤ 1000000; omega, Int.le_refl _, Int.le_refl _⟩
  obtain ⟨v, s1, hE, v0, v1, _⟩ := e143 h0 (by omega) m1 m2
  refine ⟨v, Evt.next ?_ (fun n => r39 n b m), v0, v1⟩
  exact Evt.bind (e97 b) (Evt.bind hE (Evt.some _))
/- impl.isShift -/
theorem e144 (a : Int) : Evt (fun n => call T C n 144 (a, ())) ((inR a (-1000000) 1000000, ()), ()) := Evt.next (Evt.bind (e111 _ _ _) (Evt.some _)) (fun n => r144 n a)
/- slices.Grow[impl.Cam,int16] -/
theorem e233 (a : Int) (h0 : 0 ≤ a) (h1 : a ≤ 1000000) : Evt (fun n => call T C n 233 ((), a, ())) (([], ()), ()) := by
  have hw : wr .i64 (a - wr .i64 (0 - 0)) = a := by
    have : wr .i64 (0 - 0) = 0 := rfl
    rw [this, wrap_id (by omega) (by omega)]; omega
  refine Evt.next ?_ (fun n => r233 n () a)
  simp only [hw]
  refine Evt.no (by simp; omega) (Evt.ite (fun h => ?_) (fun h => ?_))
  · exact Evt.chk rfl (Evt.chk (by simp; omega) (Evt.chk (by simp; omega) ((Evt.some _).of_eq fun n => by simp; rfl)))
  · exact Evt.some _
/- slices.Concat[impl.Cam,int16] -/
theorem e163 (l : List (List Int)) (h : (l.flatten.length : Int) ≤ 1000000) (hl : (l.length : Int) ≤ 1000000) : Evt (fun n => call T C n 163 (l, ())) ((l.flatten, ()), ()) := by
  have hsplit : ∀ i : Nat, (l.take i).flatten.length + (l.drop i).flatten.length = l.flatten.length := by
    intro i
    rw [← List.length_append, ← List.flatten_append, List.take_append_drop]
  refine Evt.next ?_ (fun n => r163 n l)
  refine for_evt' 0 (l.length : Int) (fun i (_ : Unit) => (l, ((l.take i.toNat).flatten.length : Int), l, (l.length : Int), i, ())) (fun _ _ => True) (b0 := ()) (by simp) (by omega) trivial ?_ ?_
  · intro i _ h2 h3 _
    obtain ⟨v, hv⟩ := at_of (l := l) h2 h3
    have hs := hsplit (i + 1).toNat
    rw [hv.take, List.flatten_append, List.length_append] at hs
    simp only [List.flatten_cons, List.flatten_nil, List.append_nil] at hs
    simp only [wr_succ h2 h3 (by omega), wrap_id (x := ((l.take i.toNat).flatten.length : Int) + (v.length : Int)) (by omega) (by omega)]
    refine Round.yes (decide_eq_true h3) (Round.at hv.idx ?_)
    simp only [wrap_id (x := ((l.take i.toNat).flatten.length : Int) + (v.length : Int)) (by omega) (by omega)]
    refine Round.no (by simp; omega) (Round.again _ ⟨(), ?_, trivial⟩)
    rw [hv.take, List.flatten_append, List.length_append]
    simp
  · intro _ _
    simp only [take_all]
    refine Round.no (by simp) (Round.bind (e233 _ (by omega) h) (Round.done ?_))
    refine for_evt' 0 (l.length : Int) (fun i (_ : Unit) => ((l.take i.toNat).flatten, l, (l.length : Int), i, ())) (fun _ _ => True) (b0 := ()) (by simp) (by omega) trivial ?_ ?_
    · intro i _ h2 h3 _
      obtain ⟨v, hv⟩ := at_of (l := l) h2 h3
      have hs := hsplit (i + 1).toNat
      rw [hv.take, List.flatten_append, List.length_append] at hs
      simp only [List.flatten_cons, List.flatten_nil, List.append_nil] at hs
      refine Round.yes (decide_eq_true h3) (Round.at hv.idx (Round.chk (decide_eq_true (by show ((l.take i.toNat).flatten.length + v.length) * 2 ≤ 140737488355328; omega)) (Round.again _ ⟨(), ?_, trivial⟩)))
      rw [hv.take, List.flatten_append, wr_succ h2 h3 (by omega)]
      simp
    · intro _ _
      simp only [take_all]
      exact Round.no (by simp) (Round.done (Evt.some _))
/- (impl.Cam).turned -/
theorem e145 {l : List Int} (h0 : 0 < (l.length : Int)) (h1 : (l.length : Int) ≤ 1000000) {b : Int} (hb : -1000000 ≤ b) (hb' : b ≤ 1000000) : Evt (fun n => call T C n 145 (l, b, ())) ((turnL l (b % l.length).toNat, ()), ()) := by
  have hp := Int.emod_nonneg b (show (l.length : Int) ≠ 0 by omega)
  have hq := Int.emod_lt_of_pos b h0
  refine Evt.next (Evt.bind (e128 l) (Evt.bind (e194 (a := b) h0 (by omega) (by omega) (by omega)) ?_)) (fun n => r145 n l b)
  refine Evt.chk (decide_eq_true ⟨hp, Int.le_of_lt hq, Int.le_refl _⟩) (Evt.chk (decide_eq_true ⟨Int.le_refl _, hp, Int.le_of_lt hq⟩) ?_)
  have hl : [(l.take (l.length : Int).toNat).drop (b % l.length).toNat, (l.take (b % l.length).toNat).drop (0 : Int).toNat].flatten = turnL l (b % l.length).toNat := by simp [turnL]
  have he := e163 [(l.take (l.length : Int).toNat).drop (b % l.length).toNat, (l.take (b % l.length).toNat).drop (0 : Int).toNat] (by rw [hl, turnL_len]; exact h1) (by simp)
  rw [hl] at he
  exact Evt.bind he (Evt.some _)
/- impl.TurnCam -/
theorem e40 {c : List Int} (ok : okC c = true) {b : Int} (b0 : -1000000 ≤ b) (b1 : b ≤ 1000000) : Evt (fun n => call T C n 40 (c, b, ())) ((trn c b, 0, ()), ()) := by
  have hl := okC_len ok
  have hv := e34 c (by omega)
  rw [ok] at hv
  have hs := e144 b
  rw [inR_iff.2 ⟨b0, b1⟩] at hs
  refine Evt.next ?_ (fun n => r40 n c b)
  exact Evt.bind hv (Evt.no (by simp) (Evt.bind hs (Evt.no (by simp) (Evt.bind (e145 (by omega) (by omega) b0 b1) (Evt.some _)))))
/- impl.MirrorCam$1 -/
theorem e147 {c : List Int} (hr : Rng c) (h0 : 0 < (c.length : Int)) (h1 : (c.length : Int) ≤ 1000000) {x : Int} (x0 : 0 ≤ x) (x1 : x ≤ 1000000) : Evt (fun n => call T C n 147 (x, c, ())) ((cAt c (-x), ()), (c, ())) := by
  have hw : wr .i64 (0 - x) = -x := by rw [wrap_id (by omega) (by omega)]; omega
  refine Evt.next ?_ (fun n => r147 n x c)
  rw [hw]
  exact Evt.bind (e148 hr h0 h1 (by omega) (by omega)) (Evt.some _)
/- impl.camOf{impl.MirrorCam$1} -/
theorem e146 {c : List Int} (hr : Rng c) (ok : okC c = true) : Evt (fun n => call T C n 146 ((c.length : Int), ((), (c, ())), ())) ((mir c, 0, ()), (((), (c, ())), ())) := by
  have hl := okC_len ok
  have hC := okC_el ok hr
  refine Evt.next ?_ (fun n => r146 n (c.length : Int) ((), (c, ())))
  refine for_evt' 0 (c.length : Int) (fun i (_ : Unit) => (((), (c, ())), tb i.toNat (fun i => cAt c (-(i : Nat) : Int)), (c.length : Int), i, ())) (fun _ _ => True) (b0 := ()) rfl (by omega) trivial ?_ ?_
  · intro i _ i0 i1 _
    obtain ⟨i, rfl⟩ := Int.eq_ofNat_of_zero_le i0
    have hb := hC _ (cAt_mem (show 0 < c.length by omega) (-(i : Int)))
    have hL := e127 (cAt c (-(i : Int)))
    rw [inR_iff.2 hb] at hL
    dsimp only
    refine Round.yes (decide_eq_true i1) (Round.bind (e147 hr (by omega) (by omega) i0 (by omega)) (Round.bind hL (Round.no (by simp) (Round.chk (decide_eq_true (by rw [tb_len]; simp only [List.length_singleton]; omega)) (Round.again _ ⟨(), ?_, trivial⟩)))))
    rw [wr_succ i0 i1 (by omega), wrap16 (x := cAt c (-(i : Int))) (by omega) (by omega), show ((i : Int) + 1).toNat = i + 1 by omega, Int.toNat_natCast, ← tb_snoc]
  · intro _ _
    rw [Int.toNat_natCast]
    dsimp only
    exact Round.no (by simp) (Round.done (Evt.some _))
/- impl.MirrorCam -/
theorem e41 {c : List Int} (hr : Rng c) (ok : okC c = true) : Evt (fun n => call T C n 41 (c, ())) ((mir c, 0, ()), ()) := by
  have hl := okC_len ok
  have hv := e34 c (by omega)
  rw [ok] at hv
  refine Evt.next (Evt.bind hv (Evt.no (by simp) (Evt.bind (e128 c) (Evt.bind (e146 hr ok) ?_)))) (fun n => r41 n c)
  exact Evt.some _
/- impl.pairCode -/
theorem e149 {a b : List Int} (SA : SmD a) (SB : SmD b) (hab : a.length = b.length) : Evt (fun n => call T C n 149 (a, b, ())) ((0, ()), ()) := by
  have la := SA.len
  have ha := SA.el
  have hb := SB.el
  have h0 : 0 < a.length := by omega
  have h1 : a.length ≤ 1000 := by omega
  have hA : ∀ x, 0 ≤ cAt a x ∧ cAt a x ≤ 60 := fun x => ha _ (cAt_mem h0 x)
  have hB : ∀ x, 0 ≤ cAt b x ∧ cAt b x ≤ 60 := fun x => hb _ (cAt_mem (by omega) x)
  have hv := e34 a (by omega)
  rw [SA.ok] at hv
  have hw := e34 b (by omega)
  rw [SB.ok] at hw
  refine Evt.next ?_ (fun n => r149 n a b)
  exact Evt.bind hv (Evt.no (by simp) (Evt.bind hw (Evt.no (by simp) (Evt.no (by simp [hab]) (Evt.some _)))))
/- impl.turnsLike -/
theorem e150 {a b : List Int} (h0 : 0 < a.length) (h1 : a.length ≤ 1000) {f k : Int} (f0 : 0 ≤ f) (fk : f ≤ k) (kn : k ≤ (a.length : Int)) (hk : trn a k = b) : ∃ r : Int, Evt (fun n => call T C n 150 (a, b, f, ())) ((r, ()), ()) ∧ f ≤ r ∧ r ≤ k ∧ trn a r = b ∧ ∀ j, f ≤ j → j < r → ¬ trn a j = b := by
  obtain ⟨r, r0, r1, r2, r3⟩ := least_of (P := fun j => trn a j = b) _ rfl fk hk
  refine ⟨r, Evt.next ?_ (fun n => r150 n a b f), r0, r1, r2, r3⟩
  refine loop_evt (fun x => ∃ i : Int, x = (a, b, i, ()) ∧ f ≤ i ∧ i ≤ r) (fun x => (r - x.2.2.1).toNat) (x := (a, b, f, ())) ⟨f, rfl, Int.le_refl _, r0⟩ ?_
  rintro _ ⟨i, rfl, i0, i1⟩
  have hT := e145 (l := a) (b := i) (by omega) (by omega) (by omega) (by omega)
  have hE := e109 (trn a i) b (by rw [trn_len]; omega)
  dsimp only
  refine Round.bind (e128 a) (Round.yes (decide_eq_true (show i ≤ (a.length : Int) by omega)) (Round.bind hT (Round.bind hE ?_)))
  by_cases e : i = r
  · subst e
    exact Round.yes (decide_eq_true r2) (Round.done (Evt.some _))
  · refine Round.no (by simpa using r3 i i0 (by omega)) (Round.again _ ⟨⟨i + 1, ?_, by omega, by omega⟩, ?_⟩)
    · rw [wrap_id (x := i + 1) (by omega) (by omega)]
    · show (r - wr .i64 (i + 1)).toNat < (r - i).toNat
      rw [wrap_id (x := i + 1) (by omega) (by omega)]
      omega
/- impl.TurnsLike -/
theorem e42 {c : List Int} (S : SmD c) (b : Int) : ∃ r : Int, Evt (fun n => call T C n 42 (c, trn c b, ())) ((r, 0, ()), ()) ∧ 0 ≤ r ∧ r < (c.length : Int) ∧ trn c r = trn c b := by
  have hl := S.len
  have hp := e149 S (S.trn b) (trn_len c b).symm
  have b0 := Int.emod_nonneg b (show (c.length : Int) ≠ 0 by omega)
  have b1 := Int.emod_lt_of_pos b (show 0 < (c.length : Int) by omega)
  obtain ⟨r, hE, r0, r1, r2, _⟩ := e150 (a := c) (b := trn c b) (by omega) (by omega) (f := 0) (k := b % (c.length : Int)) (by omega) b0 (by omega) (trn_mod (by omega) b)
  refine ⟨r, Evt.next ?_ (fun n => r42 n c (trn c b)), r0, by omega, r2⟩
  exact Evt.bind hp (Evt.no (by simp) (Evt.bind hE (Evt.no (by simp; omega) (Evt.some _))))
/- impl.PeriodOf -/
theorem e43 {c : List Int} (ok : okC c = true) : ∃ r : Int, Evt (fun n => call T C n 43 (c, ())) ((r, 0, ()), ()) ∧ 1 ≤ r ∧ r ≤ (c.length : Int) ∧ trn c r = c ∧ ∀ j, 1 ≤ j → j < r → ¬ trn c j = c := by
  have hl := okC_len ok
  have hv := e34 c (by omega)
  rw [ok] at hv
  obtain ⟨r, hE, r0, r1, r2, r3⟩ := e150 (a := c) (b := c) (by omega) (by omega) (f := 1) (k := (c.length : Int)) (by omega) (by omega) (Int.le_refl _) ((trn_self (by omega)).2 (per_len c))
  refine ⟨r, Evt.next ?_ (fun n => r43 n c), r0, r1, r2, r3⟩
  exact Evt.bind hv (Evt.no (by simp) (Evt.bind hE (Evt.some _)))
/- cmp.isNaN[int16] -/
theorem e268 (a : Int) : Evt (fun n => call T C n 268 (a, ())) ((false, ()), ()) := Evt.next ((Evt.some _).of_eq fun n => by simp; rfl) (fun n => r268 n a)
/- cmp.Compare[int16] -/
theorem e227 (a b : Int) : Evt (fun n => call T C n 227 (a, b, ())) (((if a < b then (-1 : Int) else if a > b then 1 else 0), ()), ()) := by
  refine Evt.next (Evt.bind (e268 a) (Evt.bind (e268 b) (Evt.no (by simp) (Evt.no (by simp) ?_)))) (fun n => r227 n a b)
  by_cases h1 : a < b
  · rw [if_pos h1]; exact Evt.yes (decide_eq_true h1) (Evt.some _)
  · rw [if_neg h1]
    refine Evt.no (by simpa using h1) ?_
    by_cases h2 : a > b
    · rw [if_pos h2]; exact Evt.yes (decide_eq_true h2) (Evt.some _)
    · rw [if_neg h2]; exact Evt.no (by simpa using h2) (Evt.some _)
/- slices.Compare[impl.Cam,int16] -/
theorem e151 {a b : List Int} (hab : a.length = b.length) (hl : a.length ≤ 1000) : ∃ r : Int, Evt (fun n => call T C n 151 (a, b, ())) ((r, ()), ()) ∧ decide (r < 0) = lexB (cAt a) (cAt b) a.length := by
  have hx : ∀ i : Nat, i < a.length → idx a (i : Int) = some (cAt a (i : Nat)) ∧ idx b (i : Int) = some (cAt b (i : Nat)) := fun i hi => ⟨(cAt_idx hi).idx, (cAt_idx (by omega)).idx⟩
  have key : EvtX (fun n => call T C n 151 (a, b, ())) (fun y => decide (y.1.1 < 0) = lexB (cAt a) (cAt b) a.length) := by
    refine EvtX.next ?_ (fun n => r151 n a b)
    refine EvtX.loop (fun x => ∃ i : Nat, x = (a, b, a, (a.length : Int), (i : Int), ()) ∧ i ≤ a.length ∧ ∀ j : Nat, j < i → cAt a (j : Nat) = cAt b (j : Nat)) (fun x => a.length - x.2.2.2.2.1.toNat) ⟨0, rfl, by omega, fun j hj => by omega⟩ ?_
    rintro _ ⟨i, rfl, hi, he⟩
    dsimp only
    by_cases hlt : i < a.length
    · obtain ⟨x1, x2⟩ := hx i hlt
      have hC := e227 (cAt a (i : Nat)) (cAt b (i : Nat))
      by_cases hd : cAt a (i : Nat) = cAt b (i : Nat)
      · right
        rw [if_neg (by omega), if_neg (by omega)] at hC
        refine ⟨_, ⟨i + 1, rfl, by omega, fun j hj => ?_⟩, ?_, ?_⟩
        · by_cases e : j = i
          · rw [e]; exact hd
          · exact he j (by omega)
        · show a.length - (((i + 1 : Nat) : Int)).toNat < a.length - ((i : Int)).toNat
          omega
        · intro _
          refine Round.yes (decide_eq_true (by omega)) (Round.at x1 (Round.no (by rw [← hab]; simp; omega) (Round.at x2 (Round.bind hC (Round.no (by simp) (Round.again _ ?_))))))
          rw [wrap_id (x := (i : Int) + 1) (by omega) (by omega)]
          rfl
      · left
        refine ⟨((_, ()), ()), ?_, Round.yes (decide_eq_true (by omega)) (Round.at x1 (Round.no (by rw [← hab]; simp; omega) (Round.at x2 (Round.bind hC (Round.yes ?_ (Round.done (Evt.some _)))))))⟩
        · rw [lexB_at hlt he hd]
          show decide ((if cAt a (i : Nat) < cAt b (i : Nat) then (-1 : Int) else if cAt a (i : Nat) > cAt b (i : Nat) then 1 else 0) < 0) = _
          by_cases h1 : cAt a (i : Nat) < cAt b (i : Nat)
          · rw [if_pos h1, decide_eq_true h1]; rfl
          · rw [if_neg h1, if_pos (by omega), decide_eq_false h1]; rfl
        · by_cases h1 : cAt a (i : Nat) < cAt b (i : Nat)
          · simp [h1]
          · simp [h1, show cAt b (i : Nat) < cAt a (i : Nat) by omega]
    · left
      refine ⟨((0, ()), ()), ?_, Round.no (by simp; omega) (Round.no (by rw [← hab]; simp) (Round.done (Evt.some _)))⟩
      rw [lexB_no fun j hj => he j (by omega)]
      rfl
  obtain ⟨⟨⟨r, _⟩, _⟩, h, hE⟩ := key
  exact ⟨r, hE, h⟩
/- impl.LeastTurn -/
theorem e44 {c : List Int} (ok : okC c = true) : Evt (fun n => call T C n 44 (c, ())) ((ltTo c c.length, 0, ()), ()) := by
  have hl := okC_len ok
  have h0 : 0 < c.length := by omega
  have hv := e34 c (by omega)
  rw [ok] at hv
  have t0 : trn c 0 = c := (trn_self h0).2 fun x => by rw [Int.add_zero]
  refine Evt.next (Evt.bind hv (Evt.no (by simp) ?_)) (fun n => r44 n c)
  refine for_evt' 1 (c.length : Int) (fun i (_ : Unit) => (c, trn c (ltTo c i.toNat), ltTo c i.toNat, i, ())) (fun _ _ => True) (b0 := ()) (by
    show _ = (c, trn c (ltTo c 1), ltTo c 1, 1, ())
    rw [ltTo_one, t0]) (by omega) trivial ?_ ?_
  · intro i _ i0 i1 _
    obtain ⟨i, rfl⟩ := Int.eq_ofNat_of_zero_le (show 0 ≤ i by omega)
    have hT := e145 (l := c) (b := (i : Int)) (by omega) (by omega) (by omega) (by omega)
    obtain ⟨r, hC, hr⟩ := e151 (a := trn c (i : Int)) (b := trn c (ltTo c i)) (by rw [trn_len, trn_len]) (by rw [trn_len]; omega)
    have ea : cAt (trn c (i : Int)) = fun x => cAt c (x + (i : Int)) := funext fun x => trn_at h0 _ x
    have eb : cAt (trn c (ltTo c i)) = fun x => cAt c (x + ltTo c i) := funext fun x => trn_at h0 _ x
    rw [ea, eb, trn_len] at hr
    have hs := ltTo_succ c i
    rw [← hr] at hs
    dsimp only
    rw [Int.toNat_natCast]
    refine Round.bind (e128 c) (Round.yes (decide_eq_true i1) (Round.bind hT (Round.bind hC ?_)))
    by_cases h : r < 0
    · refine Round.yes (decide_eq_true h) (Round.again _ ⟨(), ?_, trivial⟩)
      rw [wrap_id (x := (i : Int) + 1) (by omega) (by omega), show ((i : Int) + 1).toNat = i + 1 by omega, hs, if_pos (decide_eq_true h)]
      rfl
    · refine Round.no (by simpa using h) (Round.again _ ⟨(), ?_, trivial⟩)
      rw [wrap_id (x := (i : Int) + 1) (by omega) (by omega), show ((i : Int) + 1).toNat = i + 1 by omega, hs, if_neg (by simpa using h)]
  · intro _ _
    dsimp only
    rw [Int.toNat_natCast]
    exact Round.bind (e128 c) (Round.no (by simp) (Round.done (Evt.some _)))
/- spec.l01Before -/
theorem e152 {c : List Int} (hr : Rng c) (h0 : 0 < c.length) (h1 : c.length ≤ 1000) {a b : Int} (a0 : 0 ≤ a) (a1 : a ≤ 1000) (b0 : 0 ≤ b) (b1 : b ≤ 1000) : Evt (fun n => call T C n 152 (c, a, b, ())) ((lexB (fun i => cAt c (i + a)) (fun i => cAt c (i + b)) c.length, ()), ()) := by
  refine Evt.next ?_ (fun n => r152 n c a b)
  refine loop_evt (fun x => ∃ i : Nat, x = (c, a, b, (i : Int), ()) ∧ i ≤ c.length ∧ ∀ j : Nat, j < i → cAt c ((j : Int) + a) = cAt c ((j : Int) + b)) (fun x => c.length - x.2.2.2.1.toNat) (x := (c, a, b, 0, ())) ⟨0, rfl, by omega, fun j hj => by omega⟩ ?_
  rintro _ ⟨i, rfl, hi, he⟩
  dsimp only
  by_cases hlt : i < c.length
  · have hA := e187' hr (by omega) (by omega) (x := (i : Int) + a) (by omega) (by omega)
    have hB := e187' hr (by omega) (by omega) (x := (i : Int) + b) (by omega) (by omega)
    rw [wrap_id (x := (i : Int) + a) (by omega) (by omega), wrap_id (x := (i : Int) + b) (by omega) (by omega)]
    refine Round.yes (decide_eq_true (by omega)) (Round.bind hA (Round.bind hB ?_))
    by_cases hd : cAt c ((i : Int) + a) = cAt c ((i : Int) + b)
    · refine Round.no (by simpa using hd) (Round.again _ ⟨⟨i + 1, ?_, by omega, fun j hj => ?_⟩, ?_⟩)
      · rw [wrap_id (x := (i : Int) + 1) (by omega) (by omega)]; rfl
      · by_cases e : j = i
        · rw [e]; exact hd
        · exact he j (by omega)
      · show c.length - (wr .i64 ((i : Int) + 1)).toNat < c.length - ((i : Int)).toNat
        rw [wrap_id (x := (i : Int) + 1) (by omega) (by omega)]
        omega
    · rw [lexB_at (a := fun i => cAt c (i + a)) (b := fun i => cAt c (i + b)) hlt he hd]
      exact Round.yes (by simpa using hd) (Round.done (Evt.some _))
  · rw [lexB_no (a := fun i => cAt c (i + a)) (b := fun i => cAt c (i + b)) fun j hj => he j (by omega)]
    exact Round.no (by simp; omega) (Round.done (Evt.some _))
/- spec.LeastTurn -/
theorem e45 {c : List Int} (hr : Rng c) (ok : okC c = true) : Evt (fun n => call T C n 45 (c, ())) ((ltTo c c.length, 0, ()), ()) := by
  have hl := okC_len ok
  have h0 : 0 < c.length := by omega
  have hv := e135 c (by omega)
  rw [ok] at hv
  refine Evt.next (Evt.bind hv (Evt.no (by simp) ?_)) (fun n => r45 n c)
  refine for_evt' 1 (c.length : Int) (fun i (_ : Unit) => (c, ltTo c i.toNat, i, ())) (fun _ _ => True) (b0 := ()) (by
    show _ = (c, ltTo c 1, 1, ())
    rw [ltTo_one]) (by omega) trivial ?_ ?_
  · intro i _ i0 i1 _
    obtain ⟨i, rfl⟩ := Int.eq_ofNat_of_zero_le (show 0 ≤ i by omega)
    have hb := ltTo_bd c i
    have hB := e152 hr h0 (by omega) (a := (i : Int)) (b := ltTo c i) (by omega) (by omega) hb.1 (by omega)
    have hs := ltTo_succ c i
    dsimp only
    rw [Int.toNat_natCast]
    refine Round.yes (decide_eq_true i1) (Round.bind hB ?_)
    by_cases h : lexB (fun x => cAt c (x + (i : Int))) (fun x => cAt c (x + ltTo c i)) c.length = true
    · rw [if_pos h] at hs
      refine Round.yes h (Round.again _ ⟨(), ?_, trivial⟩)
      rw [wrap_id (x := (i : Int) + 1) (by omega) (by omega), show ((i : Int) + 1).toNat = i + 1 by omega, hs]
    · rw [if_neg h] at hs
      refine Round.no h (Round.again _ ⟨(), ?_, trivial⟩)
      rw [wrap_id (x := (i : Int) + 1) (by omega) (by omega), show ((i : Int) + 1).toNat = i + 1 by omega, hs]
  · intro _ _
    dsimp only
    rw [Int.toNat_natCast]
    exact Round.no (by simp) (Round.done (Evt.some _))
/- impl.LiftAt -/
theorem e46 {c : List Int} (hr : Rng c) (ok : okC c = true) {x : Int} (x0 : 0 ≤ x) (x1 : x ≤ 1000) : Evt (fun n => call T C n 46 (c, x, ())) ((cAt c x, 0, ()), ()) := by
  have hl := okC_len ok
  have hv := e34 c (by omega)
  rw [ok] at hv
  have hf := e144 x
  rw [show inR x (-1000000) 1000000 = true from inR_iff.2 ⟨by omega, by omega⟩] at hf
  refine Evt.next (Evt.bind hv ?_) (fun n => r46 n c x)
  refine Evt.no (by decide) (Evt.bind hf ?_)
  exact Evt.no (by decide) (Evt.bind (e148 hr (by omega) (by omega) (by omega) (by omega)) (Evt.some _))
theorem e46_2 {c : List Int} (hr : Rng c) (ok : okC c = true) {x : Int} (x0 : -1000 ≤ x) (x1 : x ≤ 1000) : Evt (fun n => call T C n 46 (c, x, ())) ((cAt c x, 0, ()), ()) := by
  have hl := okC_len ok
  have hv := e34 c (by omega)
  rw [ok] at hv
  have hf := e144 x
  rw [show inR x (-1000000) 1000000 = true from inR_iff.2 ⟨by omega, by omega⟩] at hf
  refine Evt.next (Evt.bind hv ?_) (fun n => r46 n c x)
  refine Evt.no (by decide) (Evt.bind hf ?_)
  exact Evt.no (by decide) (Evt.bind (e148 hr (by omega) (by omega) (by omega) (by omega)) (Evt.some _))
/- slices.Min[impl.Cam,int16] -/
theorem e153 (l : List Int) (hr : Rng l) (h0 : 0 < (l.length : Int)) : Evt (fun n => call T C n 153 (l, ())) ((mnL l, ()), ()) := by
  have hlen := hr.len'
  obtain ⟨v0, hv0⟩ := at_of (l := l) (Int.le_refl 0) h0
  refine Evt.next (Evt.no (by simp; omega) (Evt.at hv0.idx ?_)) (fun n => r153 n l)
  have hh := (head_at hv0).1
  refine for_evt' 1 (l.length : Int) (fun i (_ : Unit) => (l, mnF (l.take i.toNat) v0, i, ())) (fun _ _ => True) (b0 := ()) (by
    have := (head_at hv0).2
    show _ = (l, mnF (l.take 1) v0, 1, ())
    rw [this]; simp [mnF]) (by omega) trivial ?_ ?_
  · intro i _ h2 h3 _
    obtain ⟨v, hv⟩ := at_of (l := l) (show 0 ≤ i by omega) h3
    simp only [wrap_id (x := i + 1) (by omega) (by omega)]
    refine Round.yes (decide_eq_true h3) (Round.at hv.idx (Round.again _ ⟨(), ?_, trivial⟩))
    rw [hv.take, mnF_snoc]
    congr 2
    split <;> omega
  · intro _ _
    have e2 : mnF (l.take (l.length : Int).toNat) v0 = mnL l := by rw [take_all, mnL, hh]
    simp only [e2]
    exact Round.no (by simp) (Round.done (Evt.some _))
/- slices.Max[impl.Cam,int16] -/
theorem e154 (l : List Int) (hr : Rng l) (h0 : 0 < (l.length : Int)) : Evt (fun n => call T C n 154 (l, ())) ((mxL l, ()), ()) := by
  have hlen := hr.len'
  obtain ⟨v0, hv0⟩ := at_of (l := l) (Int.le_refl 0) h0
  refine Evt.next (Evt.no (by simp; omega) (Evt.at hv0.idx ?_)) (fun n => r154 n l)
  have hh := (head_at hv0).1
  refine for_evt' 1 (l.length : Int) (fun i (_ : Unit) => (l, mxF (l.take i.toNat) v0, i, ())) (fun _ _ => True) (b0 := ()) (by
    have := (head_at hv0).2
    show _ = (l, mxF (l.take 1) v0, 1, ())
    rw [this]; simp [mxF]) (by omega) trivial ?_ ?_
  · intro i _ h2 h3 _
    obtain ⟨v, hv⟩ := at_of (l := l) (show 0 ≤ i by omega) h3
    simp only [wrap_id (x := i + 1) (by omega) (by omega)]
    refine Round.yes (decide_eq_true h3) (Round.at hv.idx (Round.again _ ⟨(), ?_, trivial⟩))
    rw [hv.take, mxF_snoc]
    congr 2
    split <;> omega
  · intro _ _
    have e2 : mxF (l.take (l.length : Int).toNat) v0 = mxL l := by rw [take_all, mxL, hh]
    simp only [e2]
    exact Round.no (by simp) (Round.done (Evt.some _))
/- impl.RangeOf -/
theorem e47 {c : List Int} (hr : Rng c) (ok : okC c = true) : Evt (fun n => call T C n 47 (c, ())) ((mnL c, mxL c, 0, ()), ()) := by
  have hl := okC_len ok
  have hC := okC_el ok hr
  have hv := e34 c (by omega)
  rw [ok] at hv
  have b1 := mxL_bd hr ok
  have b2 := mnL_bd (l := c) (fun e => by rw [e] at hl; simp at hl) hC
  refine Evt.next (Evt.bind hv (Evt.no (by simp) (Evt.bind (e153 c hr (by omega)) (Evt.bind (e154 c hr (by omega)) ?_)))) (fun n => r47 n c)
  rw [wrap_id (x := mnL c) (by omega) (by omega), wrap_id (x := mxL c) (by omega) (by omega)]
  exact Evt.some _
/- laws.FnCams -/
theorem e4 (x y : List Int) (hd : DomA (C 4).params (x, y, ())) : Evt (fun n => call T C n 4 (x, y, ())) ((true, ()), ()) := by
  have hx : ∀ v ∈ x, 0 ≤ v ∧ v ≤ 255 := byte_of hd.1
  have hy : ∀ v ∈ y, 0 ≤ v ∧ v ≤ 255 := byte_of hd.2.1
  refine Evt.next (Evt.bind (e24 x) ?_) (fun n => r4 n x y)
  by_cases h1 : (x.length : Int) > 4096
  · exact Evt.yes (decide_eq_true h1) (Evt.some _)
  refine Evt.no (by simpa using h1) (Evt.bind (e24 y) ?_)
  by_cases h2 : (y.length : Int) > 4096
  · exact Evt.yes (by simpa using h2) (Evt.some _)
  refine Evt.no (by simpa using h2) ?_
  obtain ⟨c, hP, S⟩ := e25 hx (by omega)
  have hr := S.rng
  have ok := S.ok
  have hl := S.len
  have h0 : 0 < c.length := by omega
  have hC := okC_el ok hr
  have hT := e27 c hr
  rw [show camT c = tx (camJ c) from if_pos ok] at hT
  have hjl : (camJ c).length ≤ 1048576 := by have := camJ_len (c := c) (by omega) hC; omega
  have hB := e26 (camJ c) hjl
  rw [rdC_text hr ok] at hB
  have hI := e33 c c (by omega)
  rw [decide_eq_true rfl] at hI
  have hV := e34 c (by omega)
  rw [ok] at hV
  have hbl := bends_len c
  have hcl := chgL_len c
  have due_bd : ∀ v ∈ chgL c, -20000 ≤ v ∧ v ≤ 20000 := fun v hv => by
    obtain ⟨x, rfl⟩ := chgL_mem hv
    have := hC _ (cAt_mem h0 x)
    have := hC _ (cAt_mem h0 (x + 1))
    omega
  have ben_bd : ∀ v ∈ bends c, -20000 ≤ v ∧ v ≤ 20000 := fun v hv => by
    unfold bends tb at hv
    obtain ⟨x, _, rfl⟩ := List.mem_map.1 hv
    exact bends_bd h0 hC (x : Nat)
  refine Evt.bind hP (Evt.bind hT (Evt.bind hB (Evt.bind (e28 hr ok) (Evt.bind (e29 hr ok) (Evt.bind (e30 hr ok) (Evt.bind (e31 hr ok) ?_))))))
  refine Evt.no (by simp) (Evt.bind (e32 c (by omega)) (Evt.no (by simp) (Evt.bind hI (Evt.no (by simp) (Evt.bind hV (Evt.no (by simp) (Evt.no (by simp) (Evt.no (by simp) (Evt.bind (e35 (chgL c) (by omega)) (Evt.no (by simp) (Evt.no (by simp) (Evt.no (by simp) (Evt.bind (e35 (bends c) (by omega)) (Evt.no (by simp) ?_))))))))))))))
  have em1 := gr_mxS (chgL_ne h0)
  have em2 := gr_mxS (bends_ne h0)
  have es1 := chg_sum h0
  have es2 := bend_sum h0
  obtain ⟨⟨ga0, ga1⟩, gv, ga2, ga3⟩ := gr_at (c.length - 1) (chgL c) (by omega)
  obtain ⟨⟨gb0, gb1⟩, gw, gb2, gb3⟩ := gr_at (c.length - 1) (bends c) (by omega)
  have hSt := e37 hr ok
  have hRo := e38 hr ok
  rw [em1] at hSt ga3
  rw [em2] at hRo gb3
  generalize hD : chgL c = D at *
  generalize hE : bends c = B at *
  have ia : idx D (gr D).1 = some gv := by unfold idx; rw [if_pos ga0]; exact ga2
  have ib : idx B (gr B).1 = some gw := by unfold idx; rw [if_pos gb0]; exact gb2
  have gvb := due_bd gv (List.mem_of_getElem? ga2)
  have gwb := ben_bd gw (List.mem_of_getElem? gb2)
  refine for_evt' 0 (c.length : Int) (fun i (_ : Unit) => (y, c, (c.length : Int), D, B, (D.take i.toNat).sum, (B.take i.toNat).sum, mxS (D.take i.toNat), mxS (B.take i.toNat), i, ())) (fun _ _ => True) (b0 := ()) rfl (by omega) trivial ?_ ?_
  · intro i _ i0 i1 _
    obtain ⟨v, hv⟩ := at_of (l := D) i0 (by omega)
    obtain ⟨w, hw⟩ := at_of (l := B) i0 (by omega)
    have vb := due_bd v hv.mem
    have wb := ben_bd w hw.mem
    have s1 := sum_le (B := 20000) (by omega) (l := D.take i.toNat) fun u hu => due_bd u (List.mem_of_mem_take hu)
    have s2 := sum_le (B := 20000) (by omega) (l := B.take i.toNat) fun u hu => ben_bd u (List.mem_of_mem_take hu)
    have l1 : (D.take i.toNat).length ≤ 36 := by rw [List.length_take]; omega
    have l2 : (B.take i.toNat).length ≤ 36 := by rw [List.length_take]; omega
    dsimp only
    refine Round.yes (decide_eq_true (by omega)) (Round.at hv.idx (Round.at hw.idx (Round.at hv.idx (Round.bind (e36 (a := v) (by omega) (by omega)) (Round.at hw.idx (Round.bind (e36 (a := w) (by omega) (by omega)) (Round.again _ ⟨(), ?_, trivial⟩)))))))
    rw [hv.take, hw.take, mxS_snoc, mxS_snoc, List.sum_append, List.sum_append, wr_succ i0 i1 (by omega), List.sum_singleton, List.sum_singleton, wrap_id (x := (D.take i.toNat).sum + v) (by omega) (by omega), wrap_id (x := (B.take i.toNat).sum + w) (by omega) (by omega)]
    have mx : ∀ a b : Int, (if b > a then b else a) = max a b := fun a b => by split <;> omega
    simp only [mx]
  intro _ _
  rw [Int.toNat_natCast, ← hcl, List.take_length, hcl, ← hbl, List.take_length, hbl, es1, es2]
  dsimp only
  obtain ⟨q, hq, q0, q1⟩ := e39 hy (by omega) (m := 100) (by omega) (by omega)
  obtain ⟨b, eb⟩ : ∃ b : Int, b = q - 50 := ⟨_, rfl⟩
  have wb : wr .i64 (q - 50) = b := by rw [wrap_id (by omega) (by omega), eb]
  have wn : wr .i64 (0 - b) = -b := by rw [wrap_id (by omega) (by omega)]; omega
  have w3 : wr .i64 (3 + b) = 3 + b := wrap_id (by omega) (by omega)
  have ST := S.trn b
  have hT1 := e40 ok (b := b) (by omega) (by omega)
  have hT2 := e40 ST.ok (b := -b) (by omega) (by omega)
  rw [trn_back h0] at hT2
  have hM1 := e41 hr ok
  have hM2 := e41 S.mir.rng S.mir.ok
  rw [mir_mir h0] at hM2
  obtain ⟨k, hk, k0, k1, k2⟩ := e42 S b
  obtain ⟨p, hp, p0, p1, p2, p3⟩ := e43 ok
  have hPp := (trn_self h0).1 p2
  have hmin : ∀ r, 1 ≤ r → r < p → ¬ Per c r := fun r r1 r2 hh => p3 r r1 r2 ((trn_self h0).2 hh)
  have d1 := per_least p0 hPp hmin (per_len c)
  have d2 := per_least p0 hPp hmin (trn_two h0 k2)
  have t1 : Int.tmod (c.length : Int) p = 0 := Int.tmod_eq_zero_of_dvd (Int.dvd_of_emod_eq_zero d1)
  have t2 : Int.tmod (k - b) p = 0 := Int.tmod_eq_zero_of_dvd (Int.dvd_of_emod_eq_zero d2)
  have hL1 := e46_2 ST.rng ST.ok (x := 3) (by omega) (by omega)
  rw [trn_at h0] at hL1
  have hL2 := e46_2 hr ok (x := 3 + b) (by omega) (by omega)
  have hm := cAt_mem h0 (3 + b)
  have m1 := mnL_ge hm
  have m2 : cAt c (3 + b) ≤ mxL c := (mxF_ge c _).2 _ hm
  have hsz1 := e36 (a := gv) (by omega) (by omega)
  have hsz2 := e36 (a := gw) (by omega) (by omega)
  rw [ga3] at hsz1
  rw [gb3] at hsz2
  have pne : (p != 0) = true := by simp; omega
  have hq1 := e32 c (by omega)
  refine Round.no (by simp) (Round.done ?_)
  refine Evt.bind hSt (Evt.bind hRo (Evt.no (by simp) (Evt.no (by simp) (Evt.no (by simp) (Evt.no (show ¬ (decide ((gr D).1 < 0) = true) by rw [decide_eq_true_eq]; omega) (Evt.no (show ¬ (decide ((gr D).1 ≥ (c.length : Int)) = true) by rw [decide_eq_true_eq]; omega) (Evt.no (by simp) (Evt.at ia (Evt.bind hsz1 (Evt.no (by simp) ?_))))))))))
  refine Evt.no (by simp) (Evt.no (show ¬ (decide ((gr B).1 < 0) = true) by rw [decide_eq_true_eq]; omega) (Evt.no (show ¬ (decide ((gr B).1 ≥ (c.length : Int)) = true) by rw [decide_eq_true_eq]; omega) (Evt.no (by simp) (Evt.at ib (Evt.bind hsz2 (Evt.no (by simp) (Evt.bind hq ?_)))))))
  dsimp only
  rw [wb, wn, w3]
  refine Evt.bind hT1 (Evt.bind hT2 (Evt.bind hM1 (Evt.bind hM2 (Evt.bind hk (Evt.bind hp ?_)))))
  refine Evt.no (by simp) (Evt.no (by simp) (Evt.bind hq1 (Evt.no (by simp) (Evt.no (by simp) (Evt.no (by simp) (Evt.bind hq1 (Evt.no (by simp) (Evt.no (by simp) ?_))))))))
  refine Evt.no (show ¬ (decide (k < 0) = true) by rw [decide_eq_true_eq]; omega) (Evt.no (show ¬ (decide (k ≥ (c.length : Int)) = true) by rw [decide_eq_true_eq]; omega) (Evt.no (by simp) (Evt.no (show ¬ (decide (p < 1) = true) by rw [decide_eq_true_eq]; omega) (Evt.chk pne ?_))))
  refine Evt.no (show ¬ ((Int.tmod (c.length : Int) p != 0) = true) by rw [t1]; simp) (Evt.chk pne (Evt.chk pne ?_))
  refine Evt.no (show ¬ ((Int.tmod (wr .i64 (Int.tmod (wr .i64 (k - b)) p + p)) p != 0) = true) by
    rw [wrap_id (x := k - b) (by omega) (by omega), t2, Int.zero_add, wrap_id (x := p) (by omega) (by omega), Int.tmod_self]; simp) ?_
  refine Evt.bind (e44 ok) (Evt.bind (e45 hr ok) (Evt.bind hL1 (Evt.bind hL2 (Evt.bind (e47 hr ok) ?_))))
  refine Evt.yes (by simp) (Evt.yes rfl (Evt.yes (by simp) (Evt.yes rfl (Evt.yes rfl (Evt.yes (by simp) (Evt.yes rfl (Evt.yes (show decide (mnL c ≤ cAt c (3 + b)) = true from decide_eq_true m1) ?_)))))))
  show Evt (fun n => some ((decide (cAt c (3 + b) ≤ mxL c), ()), ())) _
  rw [decide_eq_true m2]
  exact Evt.some _

end Go.Cams.YtphcammdpmmlpaaGreatDoorLCm
