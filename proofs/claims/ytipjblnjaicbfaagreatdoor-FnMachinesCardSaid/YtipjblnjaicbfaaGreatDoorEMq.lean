/- What the functions that the law reaches come to. -/
import Derived.Test.YtipjblnjaicbfaaGreatDoorRMq
import Derived.Test.YtipjblnjaicbfaaGreatDoorPuAll
namespace Go.Cams.YtipjblnjaicbfaaGreatDoorLMq
open Go Go.Fw Go.Proofs Go.Proofs.YtipjblnjaicbfaaGreatDoor.LMq
/- laws.f6big -/
theorem e6 (a : List Int) : Evt (fun n => call T C n 6 (a, ())) ((decide ((a.length : Int) > 4096), ()), ()) := Evt.next (Evt.some _) (fun n => r6 n a)
/- spec.l00From -/
theorem e63 (a : List Int) : Evt (fun n => call T C n 63 (a, ())) (((a, 0, 0, ()), ()), ()) := Evt.next (Evt.some _) (fun n => r63 n a)
/- (*spec.l00Src).next -/
theorem e157 {k : Int} {s : Src} (h : SrcAt k s) (hk : k ≤ 1000000000000) : ∃ (v : Int) (s' : Src), Evt (fun n => call T C n 157 (s, ())) ((v, ()), (s', ())) ∧ 0 ≤ v ∧ v ≤ 255 ∧ SrcAt (k + 1) s' := by
  obtain ⟨h1, h2, h3, h4⟩ := h
  have hw : wr .i64 (s.2.1 + 1) = s.2.1 + 1 := wrap_id (by omega) (by omega)
  by_cases hp : s.2.1 < (s.1.length : Int)
  · obtain ⟨v, hv⟩ := at_of h3 hp
    have hb := h1 v hv.mem
    have ev : wr .i64 v = v := wrap_id (by omega) (by omega)
    obtain ⟨z, hz⟩ : ∃ z, z = wr .u64 ((wr .u64 ((wr .u64 (s.2.2.1 * (6364136223846793005 : Int))) + (wr .u64 (wr .i64 v)))) + (1442695040888963407 : Int)) := ⟨_, rfl⟩
    refine ⟨v, (s.1, s.2.1 + 1, z, ()), Evt.next (Evt.yes (decide_eq_true hp) (Evt.at hv.idx (Evt.yes (decide_eq_true (by rw [hw]; omega)) ((Evt.some _).of_eq fun n => ?_)))) (fun n => r157 n s), hb.1, hb.2, h1, h2, by show 0 ≤ s.2.1 + 1; omega, by show s.2.1 + 1 ≤ k + 1; omega⟩
    rw [← hz, hw, ev]
    rfl
  · obtain ⟨z, hz⟩ : ∃ z, z = wr .u64 ((wr .u64 ((wr .u64 (s.2.2.1 * (6364136223846793005 : Int))) + (wr .u64 (0 : Int)))) + (1442695040888963407 : Int)) := ⟨_, rfl⟩
    have hzb : 0 ≤ z ∧ z < 18446744073709551616 := by rw [hz]; exact wrap_u64 _
    obtain ⟨y, rfl⟩ : ∃ y : Nat, z = y := ⟨z.toNat, by omega⟩
    have hval : wr .i64 (bitsI .and .u64 (shr_ .u64 (y : Int) (40 : Int)) (255 : Int)) = ((y / 2 ^ 40 % 256 : Nat) : Int) := by
      rw [show (40 : Int) = ((40 : Nat) : Int) from rfl, shr_nat (by omega), and_255 (Nat.lt_of_le_of_lt (Nat.div_le_self _ _) (by omega))]
      have := Nat.mod_lt (y / 2 ^ 40) (show 0 < 256 by omega)
      exact wrap_id (by omega) (by omega)
    have hm := Nat.mod_lt (y / 2 ^ 40) (show 0 < 256 by omega)
    refine ⟨((y / 2 ^ 40 % 256 : Nat) : Int), (s.1, s.2.1 + 1, (y : Int), ()), Evt.next (Evt.no (by simpa using hp) (Evt.no (by rw [hw]; simp; omega) (Evt.chk rfl ((Evt.some _).of_eq fun n => ?_)))) (fun n => r157 n s), by omega, by omega, h1, h2, by show 0 ≤ s.2.1 + 1; omega, by show s.2.1 + 1 ≤ k + 1; omega⟩
    rw [← hz, hw, hval]
    rfl
/- (*spec.l00Src).pick -/
theorem e72 {k : Int} {s : Src} (h : SrcAt k s) (hk : k ≤ 999999999000) {m : Int} (m1 : 1 ≤ m) (m2 : m ≤ 1000000) : ∃ (v : Int) (s' : Src), Evt (fun n => call T C n 72 (s, m, ())) ((v, ()), (s', ())) ∧ 0 ≤ v ∧ v < m ∧ SrcAt (k + 2) s' := by
  by_cases hm : m ≤ 1
  · exact ⟨0, s, Evt.next (Evt.yes (decide_eq_true hm) (Evt.some _)) (fun n => r72 n s m), by omega, by omega, h.mono (by omega)⟩
  · obtain ⟨v, s1, hE, v0, v1, hs1⟩ := e157 h (by omega)
    by_cases hb : m > 200
    · obtain ⟨u, s2, hE2, u0, u1, hs2⟩ := e157 hs1 (by omega)
      have hx : wr .i64 (wr .i64 (v * 256) + u) = v * 256 + u := by rw [wrap_id (x := v * 256) (by omega) (by omega), wrap_id (by omega) (by omega)]
      have ht0 := Int.tmod_nonneg m (show 0 ≤ v * 256 + u by omega)
      have ht1 := Int.tmod_lt_of_pos (v * 256 + u) (show 0 < m by omega)
      refine ⟨Int.tmod (v * 256 + u) m, s2, Evt.next (Evt.no (by simpa using hm) (Evt.bind hE (Evt.yes (decide_eq_true hb) (Evt.bind hE2 (Evt.chk (bne_pos (by omega)) ((Evt.some _).of_eq fun n => ?_)))))) (fun n => r72 n s m), ht0, ht1, hs2.mono (by omega)⟩
      rw [hx]
      rfl
    · have ht0 := Int.tmod_nonneg m v0
      have ht1 := Int.tmod_lt_of_pos v (show 0 < m by omega)
      exact ⟨Int.tmod v m, s1, Evt.next (Evt.no (by simpa using hm) (Evt.bind hE (Evt.no (by simpa using hb) (Evt.chk (bne_pos (by omega)) (Evt.some _))))) (fun n => r72 n s m), ht0, ht1, hs1.mono (by omega)⟩
/- spec.l00Min -/
theorem e150 (a b : Int) : Evt (fun n => call T C n 150 (a, b, ())) ((min a b, ()), ()) := by
  refine Evt.next (Evt.ite (fun h => ?_) (fun h => ?_)) (fun n => r150 n a b)
  · have h : a < b := of_decide_eq_true h
    rw [show min a b = a by omega]; exact Evt.some _
  · have h : ¬ a < b := by simpa using h
    rw [show min a b = b by omega]; exact Evt.some _
/- spec.l00Max -/
theorem e149 (a b : Int) : Evt (fun n => call T C n 149 (a, b, ())) ((max a b, ()), ()) := by
  refine Evt.next (Evt.ite (fun h => ?_) (fun h => ?_)) (fun n => r149 n a b)
  · have h : a > b := of_decide_eq_true h
    rw [show max a b = a by omega]; exact Evt.some _
  · have h : ¬ a > b := by simpa using h
    rw [show max a b = b by omega]; exact Evt.some _
/- (*spec.l00Src).one -/
theorem e151 {k : Int} {s : Src} (h : SrcAt k s) (hk : k ≤ 999999999000) {m : Int} (m1 : 1 ≤ m) (m2 : m ≤ 1000000) : ∃ (b : Bool) (s' : Src), Evt (fun n => call T C n 151 (s, m, ())) ((b, ()), (s', ())) ∧ SrcAt (k + 2) s' := by
  obtain ⟨v, s1, hE, v0, v1, hs1⟩ := e72 h hk m1 m2
  exact ⟨v == 0, s1, Evt.next (Evt.bind hE (Evt.some _)) (fun n => r151 n s m), hs1⟩
/- spec.l07Drawn -/
theorem e62 {k : Int} {s : Src} (h : SrcAt k s) (hk : k ≤ 999999990000) : ∃ m : Mch, (∃ s' : Src, Evt (fun n => call T C n 62 (s, ())) ((m, ()), (s', ()))) ∧ DrM m := by
  obtain ⟨n0, s1, hE1, n0a, n0b, hs1⟩ := e72 h (by omega) (m := 20) (by omega) (by omega)
  obtain ⟨a0, s2, hE2, a0a, a0b, hs2⟩ := e72 hs1 (by omega) (m := 40) (by omega) (by omega)
  obtain ⟨b0, s3, hE3, b0a, b0b, hs3⟩ := e72 hs2 (by omega) (m := 40) (by omega) (by omega)
  obtain ⟨d0, s4, hE4, d0a, d0b, hs4⟩ := e72 hs3 (by omega) (m := 2) (by omega) (by omega)
  obtain ⟨nn, hnn⟩ : ∃ nn : Nat, 8 + n0 = nn := ⟨(8 + n0).toNat, by omega⟩
  have key : EvtX (fun n => call T C n 62 (s, ())) (fun y => DrM y.1.1) := by
    refine EvtX.next (EvtX.bind hE1 (EvtX.bind hE2 (EvtX.bind hE3 ?_))) (fun n => r62 n s)
    simp only [show ((List.replicate 2 (0 : Int))[0]?) = some 0 from rfl, Option.bind_some]
    simp only [wr16_id (x := a0) (by omega) (by omega), show (((List.replicate 2 (0 : Int)).set 0 a0)[1]?) = some 0 from rfl, Option.bind_some]
    refine EvtX.bind hE4 ?_
    simp only [wr16_id (x := b0) (by omega) (by omega), wr16_id (x := d0) (by omega) (by omega), hnn, wrap_id (x := (nn : Int)) (by omega) (by omega), show (((List.replicate 2 (0 : Int)).set 0 a0).set 1 b0) = [a0, b0] from rfl]
    refine EvtX.loop (fun x => ∃ (src : Src) (X Y P : List Int) (a b d : Int) (j : Nat), x = (src, ([], [], [], ()), (nn : Int), (X, Y, P, ()), [a, b], d, (j : Int), ()) ∧ SrcAt (k + 8 + 6 * j) src ∧ j ≤ nn ∧ X.length = j ∧ Y.length = j ∧ P.length = j ∧ (∀ v ∈ X, 0 ≤ v ∧ v ≤ 63) ∧ (∀ v ∈ Y, 0 ≤ v ∧ v ≤ 63) ∧ (∀ v ∈ P, 0 ≤ v ∧ v ≤ 1) ∧ (0 ≤ a ∧ a ≤ 63) ∧ (0 ≤ b ∧ b ≤ 63) ∧ (0 ≤ d ∧ d ≤ 1)) (fun x => nn - x.2.2.2.2.2.2.1.toNat)
      ⟨s4, [], [], [], a0, b0, d0, 0, rfl, hs4.mono (by omega), by omega, rfl, rfl, rfl, by simp, by simp, by simp, by omega, by omega, by omega⟩ ?_
    rintro x ⟨src, X, Y, P, a, b, d, j, rfl, hsrc, hle, lX, lY, lP, eX, eY, eP, ha, hb, hd⟩
    by_cases hlt : j < nn
    · right
      obtain ⟨v0, t1, hP1, v0a, v0b, ht1⟩ := e72 hsrc (by omega) (m := 9) (by omega) (by omega)
      obtain ⟨v1, t2, hP2, v1a, v1b, ht2⟩ := e72 ht1 (by omega) (m := 9) (by omega) (by omega)
      obtain ⟨bb, t3, hO, ht3⟩ := e151 ht2 (by omega) (m := 4) (by omega) (by omega)
      obtain ⟨a', ea⟩ : ∃ a', a' = max 0 (min 63 (a + v0 - 4)) := ⟨_, rfl⟩
      obtain ⟨b', eb⟩ : ∃ b', b' = max 0 (min 63 (b + v1 - 4)) := ⟨_, rfl⟩
      have ha' : 0 ≤ a' ∧ a' ≤ 63 := by omega
      have hb' : 0 ≤ b' ∧ b' ≤ 63 := by omega
      obtain ⟨d', ed⟩ : ∃ d', d' = if bb = true then 1 - d else d := ⟨_, rfl⟩
      have hd' : 0 ≤ d' ∧ d' ≤ 1 := by rw [ed]; split <;> omega
      have hjs : wr .i64 ((j : Int) + 1) = ((j + 1 : Nat) : Int) := by rw [wrap_id (by omega) (by omega)]; omega
      refine ⟨(t3, ([], [], [], ()), (nn : Int), (X ++ [a], Y ++ [b], P ++ [d], ()), [a', b'], d', ((j + 1 : Nat) : Int), ()), ⟨t3, X ++ [a], Y ++ [b], P ++ [d], a', b', d', j + 1, rfl, ht3.mono (by omega), by omega, by simp [lX], by simp [lY], by simp [lP], fun v hv => ?_, fun v hv => ?_, fun v hv => ?_, ha', hb', hd'⟩, by show nn - (((j + 1 : Nat) : Int)).toNat < nn - ((j : Nat) : Int).toNat; omega, fun y => ?_⟩
      · rcases List.mem_append.1 hv with hv | hv
        · exact eX v hv
        · rw [List.mem_singleton.1 hv]; exact ha
      · rcases List.mem_append.1 hv with hv | hv
        · exact eY v hv
        · rw [List.mem_singleton.1 hv]; exact hb
      · rcases List.mem_append.1 hv with hv | hv
        · exact eP v hv
        · rw [List.mem_singleton.1 hv]; exact hd
      · dsimp only
        refine Round.yes (decide_eq_true (by omega)) (Round.chk rfl (Round.at (v := a) rfl (Round.chk (decide_eq_true (by simp only [List.length_singleton]; omega)) (Round.chk rfl (Round.at (v := b) rfl (Round.chk (decide_eq_true (by simp only [List.length_singleton]; omega)) (Round.chk (decide_eq_true (by simp only [List.length_singleton]; omega)) ?_)))))))
        refine for_round' 0 2 (fun i (_ : Unit) => (if i = 0 then src else if i = 1 then t1 else t2, ([], [], [], ()), (nn : Int), (X ++ [a], Y ++ [b], P ++ [d], ()), if i = 0 then [a, b] else if i = 1 then [a', b] else [a', b'], d, (j : Int), i, ())) (fun _ _ => True) (b0 := ()) rfl (by omega) trivial ?_ ?_
        · intro i _ i0 i1 _
          have hc : i = 0 ∨ i = 1 := by omega
          rcases hc with rfl | rfl
          · have w : wr .i64 (wr .i64 (wr .i64 a + v0) - 4) = a + v0 - 4 := by rw [wrap_id (x := a) (by omega) (by omega), wrap_id (x := a + v0) (by omega) (by omega), wrap_id (by omega) (by omega)]
            refine Round.yes rfl (Round.chk rfl (Round.at (v := a) rfl (Round.bind hP1 ?_)))
            dsimp only
            rw [w]
            refine Round.bind (e150 _ _) (Round.bind (e149 _ _) (Round.chk rfl (Round.at (v := a) rfl (Round.inr _ ⟨(), ?_, trivial⟩))))
            dsimp only
            rw [← ea, wr16_id (by omega) (by omega)]
            rfl
          · have w : wr .i64 (wr .i64 (wr .i64 b + v1) - 4) = b + v1 - 4 := by rw [wrap_id (x := b) (by omega) (by omega), wrap_id (x := b + v1) (by omega) (by omega), wrap_id (by omega) (by omega)]
            refine Round.yes rfl (Round.chk rfl (Round.at (v := b) rfl (Round.bind hP2 ?_)))
            dsimp only
            rw [w]
            refine Round.bind (e150 _ _) (Round.bind (e149 _ _) (Round.chk rfl (Round.at (v := b) rfl (Round.inr _ ⟨(), ?_, trivial⟩))))
            dsimp only
            rw [← eb, wr16_id (by omega) (by omega)]
            rfl
        · intro _ _
          refine Round.no (by simp) (Round.bind hO ?_)
          dsimp only
          cases hbb : bb with
          | true =>
            rw [hbb, if_pos rfl] at ed
            refine Round.yes rfl (Round.inl _ ?_)
            rw [hjs, wr16_id (by omega) (by omega), ← ed]
            rfl
          | false =>
            rw [hbb, if_neg (by simp)] at ed
            refine Round.no (by simp) (Round.inl _ ?_)
            rw [hjs, ed]
            rfl
    · left
      have hj : j = nn := by omega
      subst hj
      exact ⟨(((X, Y, P, ()), ()), (src, ())), ⟨by show 8 ≤ X.length ∧ X.length ≤ 27; omega, by show Y.length = X.length; omega, by show P.length = X.length; omega, eX, eY, eP⟩, Round.no (by simp) (Round.done (Evt.some _))⟩
  obtain ⟨⟨⟨m, _⟩, ⟨s', _⟩⟩, hD, hE⟩ := key
  exact ⟨m, ⟨s', hE⟩, hD⟩
/- spec.P6Machine -/
theorem e7 {b : List Int} (hb : ∀ v ∈ b, 0 ≤ v ∧ v ≤ 255) (hl : (b.length : Int) ≤ 4096) : ∃ m : Mch, Evt (fun n => call T C n 7 (b, ())) ((m, ()), ()) ∧ DrM m := by
  have h0 : SrcAt 0 ((b, 0, 0, ()) : Src) := ⟨hb, by show (b.length : Int) ≤ 1000000; omega, Int.le_refl _, Int.le_refl _⟩
  obtain ⟨m, ⟨s1, hE⟩, D⟩ := e62 h0 (by omega)
  exact ⟨m, Evt.next (Evt.bind (e63 b) (Evt.bind hE (Evt.some ((m, ()), ())))) (fun n => r7 n b), D⟩
/- (impl.Cam).steps -/
theorem e113 (a : List Int) : Evt (fun n => call T C n 113 (a, ())) (((a.length : Int), ()), ()) := Evt.next (Evt.some _) (fun n => r113 n a)
/- impl.inRange -/
theorem e103 (a b c : Int) : Evt (fun n => call T C n 103 (a, b, c, ())) ((inR a b c, ()), ()) := by
  refine Evt.next ?_ (fun n => r103 n a b c)
  refine Evt.ite (fun h => ?_) (fun h => ?_)
  · refine (Evt.some _).of_eq fun n => ?_
    have h : b ≤ a := of_decide_eq_true h
    simp [inR, h]
    rfl
  · refine (Evt.some _).of_eq fun n => ?_
    have h : ¬ b ≤ a := by simpa using h
    simp [inR, h]
    rfl
/- impl.isSteps -/
theorem e112 (a : Int) : Evt (fun n => call T C n 112 (a, ())) ((inR a 8 360, ()), ()) := Evt.next (Evt.bind (e103 a 8 360) (Evt.some _)) (fun n => r112 n a)
/- impl.isLift -/
theorem e102 (a : Int) : Evt (fun n => call T C n 102 (a, ())) ((inR a 0 10000, ()), ()) := Evt.next (Evt.bind (e103 a 0 10000) (Evt.some _)) (fun n => r102 n a)
/- impl.ValidCam$1 -/
theorem e115 (v : Int) : Evt (fun n => call T C n 115 (v, ())) ((!okV v, ()), ()) := Evt.next (Evt.bind (e102 _) (Evt.some _)) (fun n => r115 n v)
/- slices.IndexFunc[impl.Cam,int16]{impl.ValidCam$1} -/
theorem e181 (l : List Int) (hl : (l.length : Int) ≤ 140737488351232) : Evt (fun n => call T C n 181 (l, ((), ()), ())) ((fi (fun v => !okV v) l 0, ()), ()) := by
  refine Evt.next ?_ (fun n => r181 n l ((), ()))
  refine loop_evt (fun (x : List Int × (Unit × Unit) × Int × Int × Unit) => x.1 = l ∧ x.2.2.1 = (l.length : Int) ∧ 0 ≤ x.2.2.2.1 ∧ x.2.2.2.1 ≤ (l.length : Int) ∧ fi (fun v => !okV v) l 0 = fi (fun v => !okV v) (l.drop x.2.2.2.1.toNat) x.2.2.2.1) (fun (x : List Int × (Unit × Unit) × Int × Int × Unit) => ((l.length : Int) - x.2.2.2.1).toNat) (x := (l, ((), ()), (l.length : Int), 0, ())) ⟨rfl, rfl, Int.le_refl _, by simp, by simp⟩ ?_
  rintro ⟨x1, u, m, i, _⟩ ⟨h', hm, h0, h1, h2⟩
  simp only at h' hm h0 h1 h2
  subst h'; subst hm
  refine Round.ite (fun hlt => ?_) (fun hge => ?_)
  · have hlt : i < (x1.length : Int) := of_decide_eq_true hlt
    obtain ⟨v, hv, hv'⟩ := idx_at h0 hlt
    have hd := drop_cons hv'
    refine Round.at hv (Round.bind (e115 _) (Round.ite (fun hb => ?_) (fun hb => ?_)))
    · have hb : okV v = false := by simpa using hb
      have h3 : fi (fun v => !okV v) x1 0 = i := by rw [h2, hd]; simp [fi, hb]
      rw [h3]
      exact Round.done (Evt.some _)
    · have hb : okV v = true := by simpa using hb
      have hw : wr .i64 (i + 1) = i + 1 := wrap_id (by omega) (by omega)
      refine Round.again _ ⟨⟨rfl, rfl, ?_, ?_, ?_⟩, ?_⟩ <;> simp only [hw]
      · omega
      · omega
      · rw [h2, hd, show (i + 1).toNat = i.toNat + 1 by omega]
        simp [fi, hb]
      · omega
  · have hge : ¬ i < (x1.length : Int) := by simpa using hge
    have : x1.drop i.toNat = [] := List.drop_of_length_le (by omega)
    rw [h2, this]
    exact Round.done (Evt.some _)
/- slices.ContainsFunc[impl.Cam,int16]{impl.ValidCam$1} -/
theorem e114 (l : List Int) (hl : (l.length : Int) ≤ 140737488351232) : Evt (fun n => call T C n 114 (l, ((), ()), ())) ((l.any (fun v => !okV v), ()), ()) := by
  refine Evt.next (Evt.bind (e181 l hl) ((Evt.some _).of_eq fun n => ?_)) (fun n => r114 n l ((), ()))
  simp only [fi_any _ l 0 (Int.le_refl _)]
  rfl
/- impl.ValidCam -/
theorem e39 (l : List Int) (hl : (l.length : Int) ≤ 140737488351232) : Evt (fun n => call T C n 39 (l, ())) ((okC l, ()), ()) := by
  refine Evt.next (Evt.bind (e113 l) (Evt.bind (e112 _) ?_)) (fun n => r39 n l)
  refine Evt.ite (fun h => ?_) (fun h => ?_)
  · refine Evt.bind (e114 l hl) ((Evt.some _).of_eq fun n => ?_)
    have h : inR (l.length : Int) 8 360 = true := h
    have : okC l = !l.any (fun v => !okV v) := by simp [okC, h, List.any_eq_not_all_not]
    rw [this]
    rfl
  · refine (Evt.some _).of_eq fun n => ?_
    have h : inR (l.length : Int) 8 360 = false := by simpa using h
    simp [okC, h]
    rfl
/- slices.Max[impl.Cam,int16] -/
theorem e152 (l : List Int) (hr : Rng l) (h0 : 0 < (l.length : Int)) : Evt (fun n => call T C n 152 (l, ())) ((mxL l, ()), ()) := by
  have hlen := hr.len'
  obtain ⟨v0, hv0⟩ := at_of (l := l) (Int.le_refl 0) h0
  refine Evt.next (Evt.no (by simp; omega) (Evt.at hv0.idx ?_)) (fun n => r152 n l)
  have hh := (head_at hv0).1
  refine for_evt' 1 (l.length : Int) (fun i (_ : Unit) => (l, mxF (l.take i.toNat) v0, i, ())) (fun _ _ => True) (b0 := ()) (by
    have := (head_at hv0).2
    show _ = (l, mxF (l.take 1) v0, 1, ())
    rw [this]; simp [mxF]) (by omega) trivial ?_ ?_
  · intro i _ h2 h3 _
    obtain ⟨v, hv⟩ := at_of (l := l) (show 0 ≤ i by omega) h3
    simp only [wrap_id (x := i + 1) (by omega) (by omega)]
    refine Round.yes (decide_eq_true h3) (Round.at hv.idx (Round.again _ ⟨(), ?_, trivial⟩))
    rw [hv.take, mxF_snoc]
    congr 2
    split <;> omega
  · intro _ _
    have e2 : mxF (l.take (l.length : Int).toNat) v0 = mxL l := by rw [take_all, mxL, hh]
    simp only [e2]
    exact Round.no (by simp) (Round.done (Evt.some _))
/- impl.ValidMachine -/
theorem e64 (m : Mch) (h : RngM m) : Evt (fun n => call T C n 64 (m, ())) ((okM m, ()), ()) := by
  have hx := h.x.len'
  have hy := h.y.len'
  have hp := h.p.len'
  refine Evt.next (Evt.at (x := ([] : List Int)) rfl (Evt.at (x := ([] : List Int)) rfl ?_)) (fun n => r64 n m)
  show Evt (fun n => loopK _ n (m, [m.1, m.2.1], 0, ())) _
  have one : ∀ (c : List Int) (hr : Rng c) (i : Int) (rest : Bool), i = 0 ∨ i = 1 → idx [m.1, m.2.1] i = some c → okM m = (mv c && ((c.length : Int) == (m.2.2.1.length : Int)) && rest) → ∀ {P : (Mch × List (List Int) × Int × Unit) → Prop}, (mv c = true → c.length = m.2.2.1.length → P (m, [m.1, m.2.1], wr .i64 (i + 1), ())) →
      Round (σ := Mch × List (List Int) × Int × Unit) (fun n ag => (idx [m.1, m.2.1] i).bind fun v6 => (call T C n 39 (v6, ())).bind fun r7 => if (!r7.1.1) = true then some ((false, ()), ()) else if (bif false then true else ((v6.length : Int) != (m.2.2.1.length : Int))) = true then some ((false, ()), ()) else (call T C n 152 (v6, ())).bind fun r8 => if (bif false then true else decide (r8.1.1 ≥ 64)) = true then some ((false, ()), ()) else ag (m, [m.1, m.2.1], wr .i64 (i + 1), ())) ((okM m, ()), ()) P := by
    intro c hr i rest _ hi he P hP
    have hc := hr.len'
    refine Round.at hi (Round.bind (e39 c (by omega)) ?_)
    cases hok : okC c with
    | false =>
      have : okM m = false := by rw [he]; simp [mv, hok]
      rw [this]
      exact Round.yes rfl (Round.done (Evt.some _))
    | true =>
      have hl := okC_len hok
      refine Round.no (by simp) (Round.ite (fun hb => ?_) (fun hb => ?_))
      · have hb : ¬ (c.length : Int) = m.2.2.1.length := by simpa using hb
        have : okM m = false := by
          rw [he]
          have : ((c.length : Int) == (m.2.2.1.length : Int)) = false := by simpa using hb
          simp [this]
        rw [this]
        exact Round.done (Evt.some _)
      · have hb : c.length = m.2.2.1.length := by
          have : (c.length : Int) = m.2.2.1.length := by simpa using hb
          omega
        refine Round.bind (e152 c hr (by omega)) (Round.ite (fun hg => ?_) (fun hg => ?_))
        · have hg : mxL c ≥ 64 := of_decide_eq_true hg
          have : okM m = false := by
            rw [he]
            have : mv c = false := by simp [mv]; intro; omega
            simp [this]
          rw [this]
          exact Round.done (Evt.some _)
        · have hg : ¬ mxL c ≥ 64 := by simpa using hg
          exact Round.again _ (hP (by simp [mv, hok]; omega) hb)
  refine for_evt' 0 2 (fun i (_ : Unit) => (m, [m.1, m.2.1], i, ())) (fun i _ => (0 < i → mv m.1 = true ∧ m.1.length = m.2.2.1.length) ∧ (1 < i → mv m.2.1 = true ∧ m.2.1.length = m.2.2.1.length)) (b0 := ()) rfl (by omega) ⟨by omega, by omega⟩ ?_ ?_
  · intro i _ h2 h3 ⟨p1, p2⟩
    refine Round.yes (decide_eq_true h3) ?_
    have hi : i = 0 ∨ i = 1 := by omega
    rcases hi with rfl | rfl
    · refine one m.1 h.x 0 (mv m.2.1 && okC m.2.2.1 && ((m.1.length : Int) == (m.2.1.length : Int))) (.inl rfl) rfl ?_ (fun q1 q2 => ⟨(), rfl, fun _ => ⟨q1, q2⟩, by omega⟩)
      unfold okM
      cases mv m.1 <;> cases mv m.2.1 <;> cases okC m.2.2.1 <;> cases ((m.1.length : Int) == (m.2.1.length : Int)) <;> cases ((m.1.length : Int) == (m.2.2.1.length : Int)) <;> rfl
    · obtain ⟨p3, p4⟩ := p1 (by omega)
      refine one m.2.1 h.y 1 (okC m.2.2.1) (.inr rfl) rfl ?_ (fun q1 q2 => ⟨(), rfl, fun _ => ⟨p3, p4⟩, fun _ => ⟨q1, q2⟩⟩)
      unfold okM
      rw [p3, p4]
      have : ((m.2.2.1.length : Int) == (m.2.1.length : Int)) = ((m.2.1.length : Int) == (m.2.2.1.length : Int)) := BEq.comm
      rw [this]
      cases mv m.2.1 <;> cases okC m.2.2.1 <;> cases ((m.2.1.length : Int) == (m.2.2.1.length : Int)) <;> simp
  · intro _ ⟨p1, p2⟩
    obtain ⟨q1, q2⟩ := p1 (by omega)
    obtain ⟨q3, q4⟩ := p2 (by omega)
    have : okM m = okC m.2.2.1 := by
      unfold okM
      rw [q1, q3, q2, q4]
      simp
    rw [this]
    exact Round.no (by simp) (Round.done (Evt.bind (e39 m.2.2.1 (by omega)) (Evt.some _)))
/- (impl.Machine).steps -/
theorem e83 (m : Mch) : Evt (fun n => call T C n 83 (m, ())) (((m.1.length : Int), ()), ()) := Evt.next (Evt.bind (e113 m.1) (Evt.some _)) (fun n => r83 n m)
/- impl.floorDiv -/
theorem e187 {a b : Int} (hb : 0 < b) (h1 : -4500000000000000000 ≤ a) (h2 : a ≤ 4500000000000000000) : Evt (fun n => call T C n 187 (a, b, ())) ((a / b, ()), ()) := by
  have hbd := ediv_bd hb h1 h2 (by omega)
  have he := floorDiv_eq (a := a) hb
  refine Evt.next (Evt.chk (bne_pos hb) (Evt.chk (bne_pos hb) (Evt.ite (fun h => ?_) (fun h => ?_)))) (fun n => r187 n a b)
  · have h : Int.tmod a b < 0 := of_decide_eq_true h
    rw [if_pos h] at he
    refine (Evt.some _).of_eq fun n => ?_
    rw [wrap_id (x := Int.tdiv a b) (by omega) (by omega), wrap_id (by omega) (by omega), he]
    rfl
  · have h : ¬ Int.tmod a b < 0 := by simpa using h
    rw [if_neg h] at he
    refine (Evt.some _).of_eq fun n => ?_
    rw [wrap_id (x := Int.tdiv a b) (by omega) (by omega), he]
    rfl
/- impl.mod -/
theorem e136 {a b : Int} (hb : 0 < b) (hb' : b ≤ 1000000000000) (h1 : -1000000000000 ≤ a) (h2 : a ≤ 1000000000000) : Evt (fun n => call T C n 136 (a, b, ())) ((a % b, ()), ()) := by
  have hd := Int.emod_def a b
  have h3 := Int.emod_nonneg a (show b ≠ 0 by omega)
  have h4 := Int.emod_lt_of_pos a hb
  refine Evt.next (Evt.bind (e187 hb (by omega) (by omega)) ((Evt.some _).of_eq fun n => ?_)) (fun n => r136 n a b)
  simp only
  rw [wrap_id (x := b * (a / b)) (by omega) (by omega), ← hd, wrap_id (by omega) (by omega)]
  rfl
/- (impl.Cam).at -/
theorem e160 {l : List Int} (hr : Rng l) (h0 : 0 < (l.length : Int)) (h1 : (l.length : Int) ≤ 1000000) {x : Int} (hx : -4000000 ≤ x) (hx' : x ≤ 4000000) : Evt (fun n => call T C n 160 (l, x, ())) ((cAt l x, ()), ()) := by
  have hp := Int.emod_nonneg x (show (l.length : Int) ≠ 0 by omega)
  have hq := Int.emod_lt_of_pos x h0
  have hv := g_idx (l := l) hp hq
  refine Evt.next (Evt.bind (e113 l) (Evt.bind (e136 (a := x) h0 (by omega) (by omega) (by omega)) (Evt.at hv.idx ((Evt.some _).of_eq fun n => ?_)))) (fun n => r160 n l x)
  rw [hr.id hv.mem]
  rfl
/- (impl.Machine).stop -/
theorem e84 (m : Mch) (hr : RngM m) (G : GoodM m) {i : Nat} (h : i < m.1.length) : Evt (fun n => call T C n 84 (m, (i : Int), ())) ((stopM m i, ()), ()) := by
  have lx := okC_len G.x
  have e1 := G.xy
  have e2 := G.xp
  have at_ : ∀ l : List Int, l.length = m.1.length → cAt l (i : Int) = g l i := fun l hl => by
    unfold cAt
    rw [Int.emod_eq_of_lt (by omega) (by omega), Int.toNat_natCast]
  have x1 := hr.x.el _ (g_mem h)
  have y1 := hr.y.el _ (g_mem (i := i) (by omega))
  have p1 := okC_el G.p hr.p _ (g_mem (i := i) (by omega))
  refine Evt.next ?_ (fun n => r84 n m (i : Int))
  refine Evt.bind (e160 hr.x (by omega) (by omega) (by omega) (by omega)) (Evt.bind (e160 hr.y (by omega) (by omega) (by omega) (by omega)) (Evt.at (x := (0 : Int)) rfl (Evt.at (x := (0 : Int)) rfl (Evt.bind (e160 hr.p (by omega) (by omega) (by omega) (by omega)) ((Evt.some _).of_eq fun n => ?_)))))
  rw [at_ _ rfl, at_ _ (by omega), at_ _ (by omega), wrap16 x1.1 x1.2, wrap16 y1.1 y1.2]
  rfl
theorem e84_2 {m : Mch} (D : DrM m) : Evt (fun n => call T C n 84 (m, -1, ())) ((stopM m (m.1.length - 1), ()), ()) := by
  have hr := D.rng
  have G := D.good
  have l1 := D.len
  have l2 := D.ly
  have l3 := D.lp
  have at_ : ∀ l : List Int, l.length = m.1.length → cAt l (-1) = g l (m.1.length - 1) := fun l hl => by
    unfold cAt
    congr 1
    rw [hl, ← Int.add_emod_right (-1) (m.1.length : Int), Int.emod_eq_of_lt (by omega) (by omega)]
    omega
  have x1 := D.x _ (g_mem (l := m.1) (i := m.1.length - 1) (by omega))
  have y1 := D.y _ (g_mem (l := m.2.1) (i := m.1.length - 1) (by omega))
  refine Evt.next ?_ (fun n => r84 n m (-1))
  refine Evt.bind (e160 hr.x (by omega) (by omega) (by omega) (by omega)) (Evt.bind (e160 hr.y (by omega) (by omega) (by omega) (by omega)) (Evt.at (x := (0 : Int)) rfl (Evt.at (x := (0 : Int)) rfl (Evt.bind (e160 hr.p (by omega) (by omega) (by omega) (by omega)) ((Evt.some _).of_eq fun n => ?_)))))
  rw [at_ _ rfl, at_ _ (by omega), at_ _ (by omega)]
  dsimp only
  rw [wrap16 (x := g m.1 (m.1.length - 1)) (by omega) (by omega), wrap16 (x := g m.2.1 (m.1.length - 1)) (by omega) (by omega)]
  rfl
/- (impl.Machine).stops -/
theorem e82 (m : Mch) (hr : RngM m) (G : GoodM m) : Evt (fun n => call T C n 82 (m, ())) ((stopsM m, ()), ()) := by
  have lx := okC_len G.x
  refine Evt.next (Evt.bind (e83 m) ?_) (fun n => r82 n m)
  refine for_evt' 0 (m.1.length : Int) (fun i (_ : Unit) => (m, (List.range i.toNat).map (stopM m), (m.1.length : Int), i, ())) (fun _ _ => True) (b0 := ()) rfl (by omega) trivial ?_ ?_
  · intro i _ h2 h3 _
    obtain ⟨k, rfl⟩ : ∃ k : Nat, i = k := ⟨i.toNat, by omega⟩
    refine Round.yes (decide_eq_true h3) (Round.bind (e84 m hr G (i := k) (by omega)) (Round.chk (decide_eq_true (by simp; omega)) (Round.again _ ⟨(), ?_, trivial⟩)))
    rw [wr_succ h2 h3 (by omega), show ((k : Int) + 1).toNat = k + 1 by omega, List.range_succ, List.map_append]
    rfl
  · intro _ _
    exact Round.no (by simp) (Round.done (Evt.some _))
/- (*impl.Plate).ink -/
theorem e153 {p : List Int} {m : Mk} (hp : p.length = 64) (ho : OnP m) : Evt (fun n => call T C n 153 (p, m, ())) ((), (inkP p m, ())) := by
  have hx := ho.x; have hy := ho.y
  have hgp := g_idx (l := p) hy.1 (by omega)
  have hb1 : 0 ≤ g m 1 ∧ g m 1 < ((64 : Nat) : Int) := by omega
  exact Evt.next (Evt.chk rfl (Evt.at ho.get1 (Evt.chk (decide_eq_true hb1) (Evt.at hgp.get (Evt.chk rfl (Evt.at ho.get0 (Evt.chk (decide_eq_true hx.1) (Evt.chk (decide_eq_true hb1) (Evt.at hgp.get (Evt.some ((), (inkP p m, ())))))))))))) (fun n => r153 n p m)
/- impl.abs -/
theorem e134 {a : Int} (h1 : -1000000000000 ≤ a) (h2 : a ≤ 1000000000000) : Evt (fun n => call T C n 134 (a, ())) ((siz a, ()), ()) := by
  refine Evt.next ((Evt.some _).of_eq fun n => ?_) (fun n => r134 n a)
  rw [wrap_id (x := 0 - a) (by omega) (by omega)]
  unfold siz
  have : (if 0 - a > a then 0 - a else a) = if a < 0 then -a else a := by split <;> split <;> omega
  rw [this]
  rfl
/- impl.between -/
theorem e220 {a b : Mk} (ha : OnP a) (hb : OnP b) : Evt (fun n => call T C n 220 (a, b, ())) ((far a b, ()), ()) := by
  have hx := ha.x; have hy := ha.y; have kx := hb.x; have ky := hb.y
  refine Evt.next ?_ (fun n => r220 n a b)
  refine Evt.chk rfl (Evt.at hb.get0 (Evt.chk rfl (Evt.at ha.get0 ?_)))
  rw [wrap_id (x := g a 0) (by omega) (by omega), wrap_id (x := g b 0) (by omega) (by omega), wrap_id (by omega) (by omega)]
  refine Evt.bind (e134 (by omega) (by omega)) (Evt.chk rfl (Evt.at hb.get1 (Evt.chk rfl (Evt.at ha.get1 ?_))))
  rw [wrap_id (x := g a 1) (by omega) (by omega), wrap_id (x := g b 1) (by omega) (by omega), wrap_id (by omega) (by omega)]
  refine Evt.bind (e134 (by omega) (by omega)) ((Evt.some _).of_eq fun n => ?_)
  have e : ∀ x : Int, siz (-x) = siz x := fun x => by unfold siz; split <;> split <;> omega
  have e0 : siz (g b 0 - g a 0) = siz (g a 0 - g b 0) := by rw [← e, Int.neg_sub]
  have e1 : siz (g b 1 - g a 1) = siz (g a 1 - g b 1) := by rw [← e, Int.neg_sub]
  have : (if siz (g a 1 - g b 1) > siz (g a 0 - g b 0) then siz (g a 1 - g b 1) else siz (g a 0 - g b 0)) = far a b := by unfold far; split <;> omega
  simp only [e0, e1, this]
  rfl
/- impl.nearest -/
theorem e183 {x n : Int} (hn : 0 < n) (hn' : n ≤ 10000000000000) (h1 : -2000000000000000000 ≤ x) (h2 : x ≤ 2000000000000000000) : Evt (fun m => call T C m 183 (x, n, ())) ((nr x n, ()), ()) := by
  refine Evt.next ?_ (fun m => r183 m x n)
  rw [wrap_id (x := 2 * n) (by omega) (by omega), wrap_id (x := 2 * x) (by omega) (by omega), wrap_id (x := 2 * x + n) (by omega) (by omega)]
  exact Evt.bind (e187 (by omega) (by omega) (by omega)) (Evt.some _)
/- impl.lineOf -/
theorem e196 {a b : Mk} (ha : OnP a) (hb : OnP b) : Evt (fun n => call T C n 196 (a, b, ())) ((lineM a b, ()), ()) := by
  obtain ⟨f0, f1, f2⟩ := far_bd ha hb
  refine Evt.next (Evt.bind (e220 ha hb) ?_) (fun n => r196 n a b)
  by_cases h : far a b = 0
  · have e : lineM a b = [a] := by unfold lineM; rw [if_pos h]
    rw [e]
    simp only [h]
    refine for_evt' 1 1 (fun i (_ : Unit) => (a, b, [a], 0, i, ())) (fun _ _ => True) (b0 := ()) rfl (by omega) trivial (fun i _ h2 h3 _ => by omega) (fun _ _ => ?_)
    exact Round.no (by simp) (Round.done (Evt.some _))
  have e : lineM a b = (List.range (far a b + 1).toNat).map fun k => ptM a b (k : Nat) := by unfold lineM; rw [if_neg h]
  rw [e]
  refine for_evt' 1 (far a b + 1) (fun i (_ : Unit) => (a, b, (List.range i.toNat).map (fun k => ptM a b (k : Nat)), far a b, i, ())) (fun _ _ => True) (b0 := ()) (by
    show (a, b, [a], far a b, 1, ()) = (a, b, [ptM a b 0], far a b, 1, ())
    rw [ptM_zero ha hb h]) (by omega) trivial ?_ ?_
  · intro i _ h2 h3 _
    refine Round.yes (decide_eq_true (show i ≤ far a b by omega)) ?_
    refine for_round' 0 2 (fun j (m : List Int) => (a, b, (List.range i.toNat).map (fun k => ptM a b (k : Nat)), far a b, i, m, j, ())) (fun j m => m = ((List.range j.toNat).map (fun u => pt a b i u)) ++ List.replicate (2 - j.toNat) 0) (b0 := List.replicate 2 0) rfl (by omega) (by simp) ?_ ?_
    · intro j m j0 j1 hm
      have hj : j = 0 ∨ j = 1 := by omega
      have hga := g_idx (l := a) j0 (by have := ha.len; omega)
      have hgb := g_idx (l := b) j0 (by have := hb.len; omega)
      have hu : j.toNat = 0 ∨ j.toNat = 1 := by omega
      have ba : 0 ≤ g a j.toNat ∧ g a j.toNat ≤ 63 := by rcases hu with e | e <;> rw [e]; exact ha.x; exact ha.y
      have bb : 0 ≤ g b j.toNat ∧ g b j.toNat ≤ 63 := by rcases hu with e | e <;> rw [e]; exact hb.x; exact hb.y
      have hk := kd_bd ha hb (show 0 ≤ i by omega) (by omega) hu
      have hp := pt_bd ha hb h (show 0 ≤ i by omega) (by omega) hu
      have hm2 : m.length = 2 := by rw [hm]; simp; omega
      have hgm := g_idx (l := m) j0 (by omega)
      have hn1 : 0 ≤ g a j.toNat * far a b ∧ g a j.toNat * far a b ≤ 63 * 63 := ⟨Int.mul_nonneg ba.1 f0, Int.mul_le_mul ba.2 f1 f0 (by omega)⟩
      show Round (fun n ag => if decide (j < 2) = true then _ else _) _ _
      simp only [wrap_id (x := j + 1) (by omega) (by omega)]
      refine Round.yes (decide_eq_true j1) (Round.chk (decide_eq_true (by omega)) (Round.at hga.get (Round.chk (decide_eq_true (by omega)) (Round.at hgb.get (Round.chk (decide_eq_true (by omega)) (Round.at hga.get ?_))))))
      simp only [wrap_id (x := g a j.toNat) (by omega) (by omega), wrap_id (x := g b j.toNat) (by omega) (by omega), wrap_id (x := g b j.toNat - g a j.toNat) (by omega) (by omega), wrap_id (x := i * (g b j.toNat - g a j.toNat)) (by omega) (by omega), wrap_id (x := g a j.toNat * far a b) (by omega) (by omega), wrap_id (x := g a j.toNat * far a b + i * (g b j.toNat - g a j.toNat)) (by omega) (by omega)]
      refine Round.bind (e183 (by omega) (by omega) (by omega) (by omega)) (Round.chk (decide_eq_true (by omega)) (Round.at hgm.get (Round.inr _ ⟨_, rfl, ?_⟩)))
      have hpt : nr (g a j.toNat * far a b + i * (g b j.toNat - g a j.toNat)) (far a b) = pt a b i j.toNat := nr_from (by omega)
      show m.set j.toNat (wr .i16 (nr (g a j.toNat * far a b + i * (g b j.toNat - g a j.toNat)) (far a b))) = _
      rw [hpt, wrap16 (by omega) (by omega), hm]
      rcases hj with rfl | rfl
      · rfl
      · rfl
    · intro m hm
      have hm : m = ptM a b i := hm
      refine Round.no (by simp) (Round.chk (decide_eq_true (by simp; omega)) (Round.inl _ ⟨(), ?_, trivial⟩))
      rw [hm, wrap_id (x := i + 1) (by omega) (by omega), show (i + 1).toNat = i.toNat + 1 by omega, List.range_succ, List.map_append]
      simp [show ((i.toNat : Nat) : Int) = i by omega]
  · intro _ _
    exact Round.no (by simp; omega) (Round.done (Evt.some _))
/- (*impl.Plate).line -/
theorem e154 {p : List Int} {a b : Mk} (hp : p.length = 64) (ha : OnP a) (hb : OnP b) : Evt (fun n => call T C n 154 (p, a, b, ())) ((), (inkL p (lineM a b), ())) := by
  have hl := lineM_len ha hb
  refine Evt.next (Evt.bind (e196 ha hb) ?_) (fun n => r154 n p a b)
  refine for_evt' 0 ((lineM a b).length : Int) (fun i (_ : Unit) => (inkL p ((lineM a b).take i.toNat), lineM a b, ((lineM a b).length : Int), i, ())) (fun _ _ => True) (b0 := ()) rfl (by omega) trivial ?_ ?_
  · intro i _ h2 h3 _
    obtain ⟨m, hm⟩ := at_of h2 h3
    refine Round.yes (decide_eq_true h3) (Round.at hm.idx (Round.bind (e153 (p := inkL p ((lineM a b).take i.toNat)) (by rw [inkL_len, hp]) (lineM_on ha hb m hm.mem)) (Round.again _ ⟨(), ?_, trivial⟩)))
    rw [wr_succ h2 h3 (by omega), hm.take, inkL_snoc]
  · intro _ _
    simp only [take_all]
    exact Round.no (by simp) (Round.done (Evt.some _))
/- (impl.Machine).draw -/
theorem e65 (m : Mch) (hr : RngM m) (G : GoodM m) : Evt (fun n => call T C n 65 (m, ())) ((drawTo m m.1.length, ()), ()) := by
  have lx := okC_len G.x
  have hl : (stopsM m).length = m.1.length := by simp [stopsM]
  refine Evt.next (Evt.bind (e82 m hr G) ?_) (fun n => r65 n m)
  refine for_evt' 0 (m.1.length : Int) (fun i (_ : Unit) => (List.replicate 64 0, drawTo m i.toNat, stopsM m, stopsM m, ((stopsM m).length : Int), i, ())) (fun _ _ => True) (b0 := ()) rfl (by omega) trivial ?_ ?_
  · intro i _ h2 h3 _
    obtain ⟨k, rfl⟩ : ∃ k : Nat, i = k := ⟨i.toNat, by omega⟩
    have hk : k < m.1.length := by omega
    have hs := stopsM_at m hk
    have hm1 := Nat.mod_lt (k + 1) (show m.1.length > 0 by omega)
    have ht := stopsM_at m hm1
    have hmod : Int.tmod (wr .i64 ((k : Int) + 1)) ((stopsM m).length : Int) = (((k + 1) % m.1.length : Nat) : Int) := by rw [wr_succ h2 h3 (by omega), hl, show (k : Int) + 1 = ((k + 1 : Nat) : Int) by omega, ← Int.ofNat_tmod]
    have o1 := stop_on hr G hk
    have o2 := stop_on hr G hm1
    show Round (fun n ag => if decide ((k : Int) < ((stopsM m).length : Int)) = true then _ else _) _ _
    refine Round.yes (decide_eq_true (by omega)) (Round.at hs.idx ?_)
    have e : drawTo m ((k : Int) + 1).toNat = drawTo m (k + 1) := by rw [show ((k : Int) + 1).toNat = k + 1 by omega]
    have again : ∀ d, d = drawTo m (k + 1) → ∃ b' : Unit, ((List.replicate 64 (0 : Int), d, stopsM m, stopsM m, ((stopsM m).length : Int), wr .i64 ((k : Int) + 1), ()) : List Int × List Int × List Stp × List Stp × Int × Int × Unit) = (List.replicate 64 0, drawTo m ((k : Int) + 1).toNat, stopsM m, stopsM m, ((stopsM m).length : Int), (k : Int) + 1, ()) ∧ True := fun d hd => ⟨(), by rw [hd, e, wr_succ h2 h3 (by omega)], trivial⟩
    refine Round.ite (fun c => ?_) (fun c => ?_)
    · have c : (stopM m k).2.1 = false := by simpa using c
      refine Round.again _ (again _ ?_)
      show drawTo m k = drawTo m (k + 1)
      rw [drawTo, c]; rfl
    have c : (stopM m k).2.1 = true := by simpa using c
    have hlen : (drawTo m k).length = 64 := drawTo_len m k
    refine Round.bind (e153 (p := drawTo m k) hlen o1) (Round.chk (bne_pos (show 0 < ((stopsM m).length : Int) by omega)) ?_)
    simp only [hmod]
    refine Round.at ht.idx (Round.ite (fun c2 => ?_) (fun c2 => ?_))
    · refine Round.bind (e154 (p := inkP (drawTo m k) (stopM m k).1) (by rw [inkP_len, hlen]) o1 o2) (Round.again _ (again _ ?_))
      rw [drawTo, if_pos c, if_pos c2]
    · refine Round.again _ (again _ ?_)
      rw [drawTo, if_pos c, if_neg c2]
  · intro _ _
    exact Round.no (by simp [hl]) (Round.done (Evt.some _))
/- impl.DrawMachine -/
theorem e8 (m : Mch) (hr : RngM m) : Evt (fun n => call T C n 8 (m, ())) (dmR m, ()) := by
  refine Evt.next (Evt.bind (e64 m hr) ?_) (fun n => r8 n m)
  unfold dmR
  refine Evt.ite (fun h => ?_) (fun h => ?_)
  · have h : okM m = false := by simpa using h
    rw [h]; exact Evt.some _
  · have h : okM m = true := by simpa using h
    rw [if_pos h]
    exact Evt.bind (e65 m hr (goodM h)) (Evt.some _)
/- spec.l00In -/
theorem e116 (a b c : Int) : Evt (fun n => call T C n 116 (a, b, c, ())) ((inR a b c, ()), ()) := by
  refine Evt.next ?_ (fun n => r116 n a b c)
  refine Evt.ite (fun h => ?_) (fun h => ?_)
  · refine (Evt.some _).of_eq fun n => ?_
    have h : b ≤ a := of_decide_eq_true h
    simp [inR, h]
    rfl
  · refine (Evt.some _).of_eq fun n => ?_
    have h : ¬ b ≤ a := by simpa using h
    simp [inR, h]
    rfl
/- spec.l01Steps -/
theorem e174 (a : Int) : Evt (fun n => call T C n 174 (a, ())) ((inR a 8 360, ()), ()) := Evt.next (Evt.bind (e116 a 8 360) (Evt.some _)) (fun n => r174 n a)
/- spec.l01Lift -/
theorem e172 (a : Int) : Evt (fun n => call T C n 172 (a, ())) ((inR a 0 10000, ()), ()) := Evt.next (Evt.bind (e116 a 0 10000) (Evt.some _)) (fun n => r172 n a)
/- spec.l01Ok -/
theorem e121 (l : List Int) (hl : (l.length : Int) ≤ 140737488351232) : Evt (fun n => call T C n 121 (l, ())) ((okC l, ()), ()) := by
  refine Evt.next ?_ (fun n => r121 n l)
  refine Evt.bind (e174 _) ?_
  refine Evt.ite (fun h => ?_) (fun h => ?_)
  · refine (Evt.some _).of_eq fun n => ?_
    have h : inR (l.length : Int) 8 360 = false := by simpa using h
    simp [okC, h]
    rfl
  · have h : inR (l.length : Int) 8 360 = true := by simpa using h
    have he : okC l = l.all okV := by simp [okC, h]
    rw [he]
    refine loop_evt (fun (x : List Int × Int × Unit) => x.1 = l ∧ 0 ≤ x.2.1 ∧ x.2.1 ≤ (l.length : Int) ∧ l.all okV = (l.drop x.2.1.toNat).all okV) (fun (x : List Int × Int × Unit) => ((l.length : Int) - x.2.1).toNat) (x := (l, 0, ())) ⟨rfl, Int.le_refl _, by simp, by simp⟩ ?_
    rintro ⟨x1, i, _⟩ ⟨h', h0, h1, h2⟩
    simp only at h' h0 h1 h2
    subst h'
    refine Round.ite (fun hlt => ?_) (fun hge => ?_)
    · have hlt : i < (x1.length : Int) := of_decide_eq_true hlt
      obtain ⟨v, hv, hv'⟩ := idx_at h0 hlt
      have hd := drop_cons hv'
      refine Round.at hv (Round.bind (e172 _) (Round.ite (fun hb => ?_) (fun hb => ?_)))
      · have hb : okV v = false := by simpa [okV] using hb
        have h3 : x1.all okV = false := by rw [h2, hd]; simp [hb]
        rw [h3]
        exact Round.done (Evt.some _)
      · have hb : okV v = true := by simpa [okV] using hb
        have hw : wr .i64 (i + 1) = i + 1 := wrap_id (by omega) (by omega)
        refine Round.again _ ⟨⟨rfl, ?_, ?_, ?_⟩, ?_⟩ <;> simp only [hw]
        · omega
        · omega
        · rw [h2, hd, show (i + 1).toNat = i.toNat + 1 by omega]
          simp [hb]
        · omega
    · have hge : ¬ i < (x1.length : Int) := by simpa using hge
      have : x1.drop i.toNat = [] := List.drop_of_length_le (by omega)
      rw [h2, this]
      exact Round.done (Evt.some _)
/- spec.l01Range -/
theorem e197 (l : List Int) (hr : Rng l) (h0 : 0 < (l.length : Int)) : Evt (fun n => call T C n 197 (l, ())) ((mnL l, mxL l, ()), ()) := by
  have hlen := hr.len'
  obtain ⟨v0, hv0⟩ := at_of (l := l) (Int.le_refl 0) h0
  refine Evt.next (Evt.at hv0.idx ?_) (fun n => r197 n l)
  rw [hr.id hv0.mem]
  have hh := (head_at hv0).1
  refine for_evt' 1 (l.length : Int) (fun i (_ : Unit) => (l, mnF (l.take i.toNat) v0, mxF (l.take i.toNat) v0, i, ())) (fun _ _ => True) (b0 := ()) (by
    have := (head_at hv0).2
    show _ = (l, mnF (l.take 1) v0, mxF (l.take 1) v0, 1, ())
    rw [this]; simp [mnF, mxF]) (by omega) trivial ?_ ?_
  · intro i _ h2 h3 _
    obtain ⟨v, hv⟩ := at_of (l := l) (show 0 ≤ i by omega) h3
    simp only [wrap_id (x := i + 1) (by omega) (by omega)]
    refine Round.yes (decide_eq_true h3) (Round.at hv.idx (Round.bind (e150 _ _) (Round.at hv.idx (Round.bind (e149 _ _) (Round.again _ ⟨(), ?_, trivial⟩)))))
    rw [hv.take, mnF_snoc, mxF_snoc, hr.id hv.mem]
  · intro _ _
    have e1 : mnF (l.take (l.length : Int).toNat) v0 = mnL l := by rw [take_all, mnL, hh]
    have e2 : mxF (l.take (l.length : Int).toNat) v0 = mxL l := by rw [take_all, mxL, hh]
    simp only [e1, e2]
    exact Round.no (by simp) (Round.done (Evt.some _))
/- spec.l07Moves -/
theorem e155 (l : List Int) (hr : Rng l) : Evt (fun n => call T C n 155 (l, ())) ((mv l, ()), ()) := by
  have hlen := hr.len'
  refine Evt.next (Evt.bind (e121 l (by omega)) ?_) (fun n => r155 n l)
  unfold mv
  cases hok : okC l with
  | false => exact Evt.yes rfl (Evt.some _)
  | true =>
    have := okC_len hok
    exact Evt.no (by simp) (Evt.bind (e197 l hr (by omega)) (Evt.some _))
/- spec.l07Ok -/
theorem e66 (m : Mch) (h : RngM m) : Evt (fun n => call T C n 66 (m, ())) ((okM m, ()), ()) := by
  have hp := h.p.len'
  refine Evt.next (Evt.bind (e155 m.1 h.x) ?_) (fun n => r66 n m)
  unfold okM
  cases mv m.1 with
  | false => exact Evt.no (by simp) (Evt.some _)
  | true =>
    refine Evt.yes rfl (Evt.bind (e155 m.2.1 h.y) ?_)
    cases mv m.2.1 with
    | false => exact Evt.no (by simp) (Evt.some _)
    | true =>
      refine Evt.yes rfl (Evt.bind (e121 m.2.2.1 (by omega)) ?_)
      cases okC m.2.2.1 with
      | false => exact Evt.no (by simp) (Evt.some _)
      | true =>
        refine Evt.yes rfl ?_
        cases ((m.1.length : Int) == (m.2.1.length : Int)) with
        | false => exact Evt.no (by simp) (Evt.some _)
        | true => exact Evt.yes rfl (Evt.some _)
/- spec.l07Stops -/
theorem e81 (m : Mch) (G : GoodM m) : Evt (fun n => call T C n 81 (m, ())) ((stopsM m, ()), ()) := by
  have lx := okC_len G.x
  have e1 := G.xy
  have e2 := G.xp
  refine Evt.next ?_ (fun n => r81 n m)
  refine for_evt' 0 (m.1.length : Int) (fun i (_ : Unit) => (m, (List.range i.toNat).map (stopM m), i, ())) (fun _ _ => True) (b0 := ()) rfl (by omega) trivial ?_ ?_
  · intro i _ h2 h3 _
    have hx := g_idx (l := m.1) h2 h3
    have hy := g_idx (l := m.2.1) h2 (by omega)
    have hp := g_idx (l := m.2.2.1) h2 (by omega)
    refine Round.yes (decide_eq_true h3) (Round.at hx.idx (Round.at hy.idx (Round.at (v := (0 : Int)) rfl (Round.at (v := (0 : Int)) rfl (Round.at hp.idx (Round.chk (decide_eq_true (by simp; omega)) (Round.again _ ⟨(), ?_, trivial⟩)))))))
    rw [wr_succ h2 h3 (by omega), show (i + 1).toNat = i.toNat + 1 by omega, List.range_succ, List.map_append]
    rfl
  · intro _ _
    exact Round.no (by simp) (Round.done (Evt.some _))
/- spec.l01Size -/
theorem e142 {a : Int} (h1 : -1000000000000 ≤ a) (h2 : a ≤ 1000000000000) : Evt (fun n => call T C n 142 (a, ())) ((siz a, ()), ()) := by
  refine Evt.next ?_ (fun n => r142 n a)
  unfold siz
  rw [wrap_id (x := 0 - a) (by omega) (by omega)]
  refine Evt.ite (fun h => ?_) (fun h => ?_)
  · rw [if_pos (of_decide_eq_true h), Int.zero_sub]; exact Evt.some _
  · rw [if_neg (by simpa using h)]; exact Evt.some _
/- spec.l07Far -/
theorem e221 {a b : Mk} (ha : OnP a) (hb : OnP b) : Evt (fun n => call T C n 221 (a, b, ())) ((far a b, ()), ()) := by
  have hx := ha.x; have hy := ha.y; have kx := hb.x; have ky := hb.y
  refine Evt.next ?_ (fun n => r221 n a b)
  refine Evt.chk rfl (Evt.at ha.get0 (Evt.chk rfl (Evt.at hb.get0 ?_)))
  rw [wrap_id (x := g a 0) (by omega) (by omega), wrap_id (x := g b 0) (by omega) (by omega), wrap_id (by omega) (by omega)]
  refine Evt.bind (e142 (by omega) (by omega)) (Evt.chk rfl (Evt.at ha.get1 (Evt.chk rfl (Evt.at hb.get1 ?_))))
  rw [wrap_id (x := g a 1) (by omega) (by omega), wrap_id (x := g b 1) (by omega) (by omega), wrap_id (by omega) (by omega)]
  exact Evt.bind (e142 (by omega) (by omega)) (Evt.bind (e149 _ _) (Evt.some _))
/- spec.l01Near -/
theorem e212 {x n : Int} (hn : 0 < n) (hn' : n ≤ 10000000000000) (h1 : -2000000000000000000 ≤ x) (h2 : x ≤ 2000000000000000000) : Evt (fun m => call T C m 212 (x, n, ())) ((nr x n, ()), ()) := by
  have hbd := ediv_bd (a := 2 * x + n) (b := 2 * n) (M := 4500000000000000000) (by omega) (by omega) (by omega) (by omega)
  have he := floorDiv_eq (a := 2 * x + n) (b := 2 * n) (by omega)
  refine Evt.next ?_ (fun m => r212 m x n)
  rw [wrap_id (x := 2 * n) (by omega) (by omega), wrap_id (x := 2 * x) (by omega) (by omega), wrap_id (x := 2 * x + n) (by omega) (by omega)]
  refine Evt.chk (bne_pos (by omega)) (Evt.chk (bne_pos (by omega)) (Evt.ite (fun h => ?_) (fun h => ?_)))
  · have h : Int.tmod (2 * x + n) (2 * n) < 0 := of_decide_eq_true h
    rw [if_pos h] at he
    refine (Evt.some _).of_eq fun m => ?_
    rw [wrap_id (x := Int.tdiv (2 * x + n) (2 * n)) (by omega) (by omega), wrap_id (by omega) (by omega), he]
    rfl
  · have h : ¬ Int.tmod (2 * x + n) (2 * n) < 0 := by simpa using h
    rw [if_neg h] at he
    refine (Evt.some _).of_eq fun m => ?_
    rw [wrap_id (x := Int.tdiv (2 * x + n) (2 * n)) (by omega) (by omega), he]
    rfl
/- spec.l07Line -/
theorem e198 {a b : Mk} (ha : OnP a) (hb : OnP b) : Evt (fun n => call T C n 198 (a, b, ())) ((lineM a b, ()), ()) := by
  obtain ⟨f0, f1, f2⟩ := far_bd ha hb
  refine Evt.next (Evt.bind (e221 ha hb) (Evt.ite (fun h => ?_) (fun h => ?_))) (fun n => r198 n a b)
  · have h : far a b = 0 := by simpa using h
    unfold lineM; rw [if_pos h]; exact Evt.some _
  have h : far a b ≠ 0 := by simpa using h
  have e : lineM a b = (List.range (far a b + 1).toNat).map fun k => ptM a b (k : Nat) := by unfold lineM; rw [if_neg h]
  rw [e]
  refine for_evt' 0 (far a b + 1) (fun i (_ : Unit) => (a, b, far a b, (List.range i.toNat).map (fun k => ptM a b (k : Nat)), i, ())) (fun _ _ => True) (b0 := ()) rfl (by omega) trivial ?_ ?_
  · intro i _ h2 h3 _
    refine Round.yes (decide_eq_true (show i ≤ far a b by omega)) ?_
    refine for_round' 0 2 (fun j (m : List Int) => (a, b, far a b, (List.range i.toNat).map (fun k => ptM a b (k : Nat)), i, m, j, ())) (fun j m => m = ((List.range j.toNat).map (fun u => pt a b i u)) ++ List.replicate (2 - j.toNat) 0) (b0 := List.replicate 2 0) rfl (by omega) (by simp) ?_ ?_
    · intro j m j0 j1 hm
      have hj : j = 0 ∨ j = 1 := by omega
      have hga := g_idx (l := a) j0 (by have := ha.len; omega)
      have hgb := g_idx (l := b) j0 (by have := hb.len; omega)
      have hu : j.toNat = 0 ∨ j.toNat = 1 := by omega
      have ba : 0 ≤ g a j.toNat ∧ g a j.toNat ≤ 63 := by rcases hu with e | e <;> rw [e]; exact ha.x; exact ha.y
      have bb : 0 ≤ g b j.toNat ∧ g b j.toNat ≤ 63 := by rcases hu with e | e <;> rw [e]; exact hb.x; exact hb.y
      have hk := kd_bd ha hb h2 (by omega) hu
      have hp := pt_bd ha hb h h2 (by omega) hu
      have hm2 : m.length = 2 := by rw [hm]; simp; omega
      have hgm := g_idx (l := m) j0 (by omega)
      show Round (fun n ag => if decide (j < 2) = true then _ else _) _ _
      simp only [wrap_id (x := g a j.toNat) (by omega) (by omega), wrap_id (x := g b j.toNat) (by omega) (by omega), wrap_id (x := j + 1) (by omega) (by omega)]
      refine Round.yes (decide_eq_true j1) (Round.chk (decide_eq_true (by omega)) (Round.at hga.get (Round.chk (decide_eq_true (by omega)) (Round.at hgb.get (Round.chk (decide_eq_true (by omega)) (Round.at hga.get ?_))))))
      simp only [wrap_id (x := g a j.toNat) (by omega) (by omega), wrap_id (x := g b j.toNat) (by omega) (by omega), wrap_id (x := g b j.toNat - g a j.toNat) (by omega) (by omega), wrap_id (x := i * (g b j.toNat - g a j.toNat)) (by omega) (by omega)]
      refine Round.bind (e212 (by omega) (by omega) (by omega) (by omega)) (Round.chk (decide_eq_true (by omega)) (Round.at hgm.get (Round.inr _ ⟨_, rfl, ?_⟩)))
      have hpt : g a j.toNat + nr (i * (g b j.toNat - g a j.toNat)) (far a b) = pt a b i j.toNat := rfl
      show m.set j.toNat (wr .i16 (wr .i64 (g a j.toNat + nr (i * (g b j.toNat - g a j.toNat)) (far a b)))) = _
      rw [hpt, wrap_id (by omega) (by omega), wrap16 (by omega) (by omega), hm]
      rcases hj with rfl | rfl
      · rfl
      · rfl
    · intro m hm
      have hm : m = ptM a b i := hm
      refine Round.no (by simp) (Round.chk (decide_eq_true (by simp; omega)) (Round.inl _ ⟨(), ?_, trivial⟩))
      rw [hm, wrap_id (x := i + 1) (by omega) (by omega), show (i + 1).toNat = i.toNat + 1 by omega, List.range_succ, List.map_append]
      simp [show ((i.toNat : Nat) : Int) = i by omega]
  · intro _ _
    exact Round.no (by simp; omega) (Round.done (Evt.some _))
/- spec.l07Ink -/
theorem e156 {p : List Int} {a b : Mk} (hp : p.length = 64) (ha : OnP a) (hb : OnP b) : Evt (fun n => call T C n 156 (p, a, b, ())) ((), (inkL p (lineM a b), ())) := by
  have hl := lineM_len ha hb
  refine Evt.next (Evt.bind (e198 ha hb) ?_) (fun n => r156 n p a b)
  refine for_evt' 0 ((lineM a b).length : Int) (fun i (_ : Unit) => (inkL p ((lineM a b).take i.toNat), lineM a b, i, ())) (fun _ _ => True) (b0 := ()) rfl (by omega) trivial ?_ ?_
  · intro i _ h2 h3 _
    obtain ⟨m, hm⟩ := at_of h2 h3
    have ho := lineM_on ha hb m hm.mem
    have hx := ho.x; have hy := ho.y
    have hq : (inkL p ((lineM a b).take i.toNat)).length = 64 := by rw [inkL_len, hp]
    have hgp := g_idx (l := inkL p ((lineM a b).take i.toNat)) hy.1 (by omega)
    refine Round.yes (decide_eq_true h3) (Round.at hm.idx (Round.at ho.idx1 (Round.chk (decide_eq_true (by omega)) (Round.at hgp.get (Round.at hm.idx (Round.at ho.idx0 ?_))))))
    rw [wrapU64 (x := g m 0) (by omega) (by omega)]
    refine Round.chk (decide_eq_true hx.1) (Round.chk (decide_eq_true (by omega)) (Round.at hgp.get (Round.again _ ⟨(), ?_, trivial⟩)))
    rw [wr_succ h2 h3 (by omega), hm.take, inkL_snoc]
    rfl
  · intro _ _
    simp only [take_all]
    exact Round.no (by simp) (Round.done (Evt.some _))
/- spec.l07Draw -/
theorem e67 (m : Mch) (hr : RngM m) (G : GoodM m) : Evt (fun n => call T C n 67 (m, ())) ((drawTo m m.1.length, ()), ()) := by
  have lx := okC_len G.x
  have hl : (stopsM m).length = m.1.length := by simp [stopsM]
  refine Evt.next (Evt.bind (e81 m G) ?_) (fun n => r67 n m)
  refine for_evt' 0 (m.1.length : Int) (fun i (_ : Unit) => (List.replicate 64 0, stopsM m, drawTo m i.toNat, i, ())) (fun _ _ => True) (b0 := ()) rfl (by omega) trivial ?_ ?_
  · intro i _ h2 h3 _
    obtain ⟨k, rfl⟩ : ∃ k : Nat, i = k := ⟨i.toNat, by omega⟩
    have hk : k < m.1.length := by omega
    have hs := stopsM_at m hk
    have hm1 := Nat.mod_lt (k + 1) (show m.1.length > 0 by omega)
    have ht := stopsM_at m hm1
    have hmod : Int.tmod (wr .i64 ((k : Int) + 1)) ((stopsM m).length : Int) = (((k + 1) % m.1.length : Nat) : Int) := by rw [wr_succ h2 h3 (by omega), hl, show (k : Int) + 1 = ((k + 1 : Nat) : Int) by omega, ← Int.ofNat_tmod]
    have o1 := stop_on hr G hk
    have o2 := stop_on hr G hm1
    show Round (fun n ag => if decide ((k : Int) < ((stopsM m).length : Int)) = true then _ else _) _ _
    refine Round.yes (decide_eq_true (by omega)) (Round.chk (bne_pos (show 0 < ((stopsM m).length : Int) by omega)) ?_)
    simp only [hmod]
    refine Round.at ht.idx (Round.at hs.idx ?_)
    have e : drawTo m ((k : Int) + 1).toNat = drawTo m (k + 1) := by rw [show ((k : Int) + 1).toNat = k + 1 by omega]
    have again : ∀ d, d = drawTo m (k + 1) → ∃ b' : Unit, ((List.replicate 64 (0 : Int), stopsM m, d, wr .i64 ((k : Int) + 1), ()) : List Int × List Stp × List Int × Int × Unit) = (List.replicate 64 0, stopsM m, drawTo m ((k : Int) + 1).toNat, (k : Int) + 1, ()) ∧ True := fun d hd => ⟨(), by rw [hd, e, wr_succ h2 h3 (by omega)], trivial⟩
    refine Round.ite (fun c => ?_) (fun c => ?_)
    · have c : (stopM m k).2.1 = false := by simpa using c
      refine Round.again _ (again _ ?_)
      show drawTo m k = drawTo m (k + 1)
      rw [drawTo, c]; rfl
    have c : (stopM m k).2.1 = true := by simpa using c
    have hlen : (drawTo m k).length = 64 := drawTo_len m k
    refine Round.at hs.idx (Round.at hs.idx (Round.bind (e156 (p := drawTo m k) hlen o1 o1) ?_))
    rw [lineM_same]
    refine Round.ite (fun c2 => ?_) (fun c2 => ?_)
    · refine Round.at hs.idx (Round.bind (e156 (p := inkP (drawTo m k) (stopM m k).1) (by rw [inkP_len, hlen]) o1 o2) (Round.again _ (again _ ?_)))
      rw [drawTo, if_pos c, if_pos c2]
    · refine Round.again _ (again _ ?_)
      rw [drawTo, if_pos c, if_neg c2]
      rfl
  · intro _ _
    exact Round.no (by simp [hl]) (Round.done (Evt.some _))
/- spec.DrawMachine -/
theorem e9 (m : Mch) (hr : RngM m) : Evt (fun n => call T C n 9 (m, ())) (dmR m, ()) := by
  refine Evt.next (Evt.bind (e66 m hr) ?_) (fun n => r9 n m)
  unfold dmR
  refine Evt.ite (fun h => ?_) (fun h => ?_)
  · have h : okM m = false := by simpa using h
    rw [h]; exact Evt.some _
  · have h : okM m = true := by simpa using h
    rw [if_pos h]
    exact Evt.bind (e67 m hr (goodM h)) (Evt.some _)
/- spec.P6Pick -/
theorem e11 {b : List Int} (hb : ∀ v ∈ b, 0 ≤ v ∧ v ≤ 255) (hl : (b.length : Int) ≤ 4096) {m : Int} (m1 : 1 ≤ m) (m2 : m ≤ 1000000) : ∃ v : Int, Evt (fun n => call T C n 11 (b, m, ())) ((v, ()), ()) ∧ 0 ≤ v ∧ v < m := by
  have h0 : SrcAt 0 ((b, 0, 0, ()) : Src) := ⟨hb, by show (b.length : Int) ≤ 1000000; omega, Int.le_refl _, Int.le_refl _⟩
  obtain ⟨v, s1, hE, v0, v1, _⟩ := e72 h0 (by omega) m1 m2
  refine ⟨v, Evt.next ?_ (fun n => r11 n b m), v0, v1⟩
  exact Evt.bind (e63 b) (Evt.bind hE (Evt.some _))
/- impl.codeIf -/
theorem e69 (c : Bool) (v : Int) : Evt (fun n => call T C n 69 (c, v, ())) (((if c = true then v else 0), ()), ()) := by
  refine Evt.next ?_ (fun n => r69 n c v)
  cases c with
  | true => exact Evt.yes rfl (Evt.some _)
  | false => exact Evt.no (by simp) (Evt.some _)
/- impl.isShift -/
theorem e70 (a : Int) : Evt (fun n => call T C n 70 (a, ())) ((inR a (-1000000) 1000000, ()), ()) := Evt.next (Evt.bind (e103 _ _ _) (Evt.some _)) (fun n => r70 n a)
/- impl.firstCode -/
theorem e68 (l : List Int) (hl : (l.length : Int) ≤ 140737488351232) : Evt (fun n => call T C n 68 (l, ())) ((fst0 l, ()), ()) := by
  refine Evt.next ?_ (fun n => r68 n l)
  refine loop_evt (fun (x : List Int × Int × Int × Unit) => x.1 = l ∧ x.2.1 = (l.length : Int) ∧ 0 ≤ x.2.2.1 ∧ x.2.2.1 ≤ (l.length : Int) ∧ fst0 l = fst0 (l.drop x.2.2.1.toNat)) (fun (x : List Int × Int × Int × Unit) => ((l.length : Int) - x.2.2.1).toNat) (x := (l, (l.length : Int), 0, ())) ⟨rfl, rfl, Int.le_refl _, by simp, by simp⟩ ?_
  rintro ⟨x1, m, i, _⟩ ⟨h', hm, h0, h1, h2⟩
  simp only at h' hm h0 h1 h2
  subst h'; subst hm
  refine Round.ite (fun hlt => ?_) (fun hge => ?_)
  · have hlt : i < (x1.length : Int) := of_decide_eq_true hlt
    obtain ⟨v, hv, hv'⟩ := idx_at h0 hlt
    have hd := drop_cons hv'
    refine Round.at hv (Round.ite (fun hb => ?_) (fun hb => ?_))
    · have hb : v ≠ 0 := by simpa using hb
      have h3 : fst0 x1 = v := by rw [h2, hd]; simp [fst0, hb]
      rw [h3]
      exact Round.done (Evt.some _)
    · have hb : v = 0 := by simpa using hb
      have hw : wr .i64 (i + 1) = i + 1 := wrap_id (by omega) (by omega)
      refine Round.again _ ⟨⟨rfl, rfl, ?_, ?_, ?_⟩, ?_⟩ <;> simp only [hw]
      · omega
      · omega
      · rw [h2, hd, show (i + 1).toNat = i.toNat + 1 by omega]
        simp [fst0, hb]
      · omega
  · have hge : ¬ i < (x1.length : Int) := by simpa using hge
    have : x1.drop i.toNat = [] := List.drop_of_length_le (by omega)
    rw [h2, this]
    exact Round.done (Evt.some _)
/- slices.Grow[impl.Cam,int16] -/
theorem e162 (a : Int) (h0 : 0 ≤ a) (h1 : a ≤ 1000000) : Evt (fun n => call T C n 162 ((), a, ())) (([], ()), ()) := by
  have hw : wr .i64 (a - wr .i64 (0 - 0)) = a := by
    have : wr .i64 (0 - 0) = 0 := rfl
    rw [this, wrap_id (by omega) (by omega)]; omega
  refine Evt.next ?_ (fun n => r162 n () a)
  simp only [hw]
  refine Evt.no (by simp; omega) (Evt.ite (fun h => ?_) (fun h => ?_))
  · exact Evt.chk rfl (Evt.chk (by simp; omega) (Evt.chk (by simp; omega) ((Evt.some _).of_eq fun n => by simp; rfl)))
  · exact Evt.some _
/- slices.Concat[impl.Cam,int16] -/
theorem e79 (l : List (List Int)) (h : (l.flatten.length : Int) ≤ 1000000) (hl : (l.length : Int) ≤ 1000000) : Evt (fun n => call T C n 79 (l, ())) ((l.flatten, ()), ()) := by
  have hsplit : ∀ i : Nat, (l.take i).flatten.length + (l.drop i).flatten.length = l.flatten.length := by
    intro i
    rw [← List.length_append, ← List.flatten_append, List.take_append_drop]
  refine Evt.next ?_ (fun n => r79 n l)
  refine for_evt' 0 (l.length : Int) (fun i (_ : Unit) => (l, ((l.take i.toNat).flatten.length : Int), l, (l.length : Int), i, ())) (fun _ _ => True) (b0 := ()) (by simp) (by omega) trivial ?_ ?_
  · intro i _ h2 h3 _
    obtain ⟨v, hv⟩ := at_of (l := l) h2 h3
    have hs := hsplit (i + 1).toNat
    rw [hv.take, List.flatten_append, List.length_append] at hs
    simp only [List.flatten_cons, List.flatten_nil, List.append_nil] at hs
    simp only [wr_succ h2 h3 (by omega), wrap_id (x := ((l.take i.toNat).flatten.length : Int) + (v.length : Int)) (by omega) (by omega)]
    refine Round.yes (decide_eq_true h3) (Round.at hv.idx ?_)
    simp only [wrap_id (x := ((l.take i.toNat).flatten.length : Int) + (v.length : Int)) (by omega) (by omega)]
    refine Round.no (by simp; omega) (Round.again _ ⟨(), ?_, trivial⟩)
    rw [hv.take, List.flatten_append, List.length_append]
    simp
  · intro _ _
    simp only [take_all]
    refine Round.no (by simp) (Round.bind (e162 _ (by omega) h) (Round.done ?_))
    refine for_evt' 0 (l.length : Int) (fun i (_ : Unit) => ((l.take i.toNat).flatten, l, (l.length : Int), i, ())) (fun _ _ => True) (b0 := ()) (by simp) (by omega) trivial ?_ ?_
    · intro i _ h2 h3 _
      obtain ⟨v, hv⟩ := at_of (l := l) h2 h3
      have hs := hsplit (i + 1).toNat
      rw [hv.take, List.flatten_append, List.length_append] at hs
      simp only [List.flatten_cons, List.flatten_nil, List.append_nil] at hs
      refine Round.yes (decide_eq_true h3) (Round.at hv.idx (Round.chk (decide_eq_true (by show ((l.take i.toNat).flatten.length + v.length) * 2 ≤ 140737488355328; omega)) (Round.again _ ⟨(), ?_, trivial⟩)))
      rw [hv.take, List.flatten_append, wr_succ h2 h3 (by omega)]
      simp
    · intro _ _
      simp only [take_all]
      exact Round.no (by simp) (Round.done (Evt.some _))
/- (impl.Cam).turned -/
theorem e71 {l : List Int} (h0 : 0 < (l.length : Int)) (h1 : (l.length : Int) ≤ 1000000) {b : Int} (hb : -1000000 ≤ b) (hb' : b ≤ 1000000) : Evt (fun n => call T C n 71 (l, b, ())) ((turnL l (b % l.length).toNat, ()), ()) := by
  have hp := Int.emod_nonneg b (show (l.length : Int) ≠ 0 by omega)
  have hq := Int.emod_lt_of_pos b h0
  refine Evt.next (Evt.bind (e113 l) (Evt.bind (e136 (a := b) h0 (by omega) (by omega) (by omega)) ?_)) (fun n => r71 n l b)
  refine Evt.chk (decide_eq_true ⟨hp, Int.le_of_lt hq, Int.le_refl _⟩) (Evt.chk (decide_eq_true ⟨Int.le_refl _, hp, Int.le_of_lt hq⟩) ?_)
  have hl : [(l.take (l.length : Int).toNat).drop (b % l.length).toNat, (l.take (b % l.length).toNat).drop (0 : Int).toNat].flatten = turnL l (b % l.length).toNat := by simp [turnL]
  have he := e79 [(l.take (l.length : Int).toNat).drop (b % l.length).toNat, (l.take (b % l.length).toNat).drop (0 : Int).toNat] (by rw [hl, turnL_len]; exact h1) (by simp)
  rw [hl] at he
  exact Evt.bind he (Evt.some _)
/- impl.TurnMachine -/
theorem e10 (m : Mch) (h : RngM m) (a : Int) : Evt (fun n => call T C n 10 (m, a, ())) (tnR m a, ()) := by
  refine Evt.next (Evt.bind (e64 m h) (Evt.bind (e69 _ _) (Evt.bind (e70 a) (Evt.bind (e69 _ _) (Evt.bind (e68 _ (by simp)) ?_))))) (fun n => r10 n m a)
  unfold tnR
  cases hok : okM m with
  | false =>
    refine Evt.yes (by simp [fst0]) ((Evt.some _).of_eq fun n => ?_)
    simp [fst0]
    rfl
  | true =>
    have hg := goodM hok
    have lx := okC_len hg.x
    have ly := okC_len hg.y
    have lp := okC_len hg.p
    cases hr : inR a (-1000000) 1000000 with
    | false =>
      refine Evt.yes (by simp [fst0]) ((Evt.some _).of_eq fun n => ?_)
      simp [fst0]
      rfl
    | true =>
      have ha := inR_iff.1 hr
      exact Evt.no (by simp [fst0]) (Evt.bind (e71 (by omega) (by omega) ha.1 ha.2) (Evt.bind (e71 (by omega) (by omega) ha.1 ha.2) (Evt.bind (e71 (by omega) (by omega) ha.1 ha.2) (Evt.some _))))
/- impl.MirrorCam$1 -/
theorem e159 {c : List Int} (hr : Rng c) (h0 : 0 < (c.length : Int)) (h1 : (c.length : Int) ≤ 1000000) {x : Int} (x0 : 0 ≤ x) (x1 : x ≤ 1000000) : Evt (fun n => call T C n 159 (x, c, ())) ((cAt c (-x), ()), (c, ())) := by
  have hw : wr .i64 (0 - x) = -x := by rw [wrap_id (by omega) (by omega)]; omega
  refine Evt.next ?_ (fun n => r159 n x c)
  rw [hw]
  exact Evt.bind (e160 hr h0 h1 (by omega) (by omega)) (Evt.some _)
/- impl.camOf{impl.MirrorCam$1} -/
theorem e158 {c : List Int} (hr : Rng c) (ok : okC c = true) : Evt (fun n => call T C n 158 ((c.length : Int), ((), (c, ())), ())) ((mir c, 0, ()), (((), (c, ())), ())) := by
  have hl := okC_len ok
  have hC := okC_el ok hr
  refine Evt.next ?_ (fun n => r158 n (c.length : Int) ((), (c, ())))
  refine for_evt' 0 (c.length : Int) (fun i (_ : Unit) => (((), (c, ())), tb i.toNat (fun i => cAt c (-(i : Nat) : Int)), (c.length : Int), i, ())) (fun _ _ => True) (b0 := ()) rfl (by omega) trivial ?_ ?_
  · intro i _ i0 i1 _
    obtain ⟨i, rfl⟩ := Int.eq_ofNat_of_zero_le i0
    have hb := hC _ (cAt_mem (show 0 < c.length by omega) (-(i : Int)))
    have hL := e102 (cAt c (-(i : Int)))
    rw [inR_iff.2 hb] at hL
    dsimp only
    refine Round.yes (decide_eq_true i1) (Round.bind (e159 hr (by omega) (by omega) i0 (by omega)) (Round.bind hL (Round.no (by simp) (Round.chk (decide_eq_true (by rw [tb_len]; simp only [List.length_singleton]; omega)) (Round.again _ ⟨(), ?_, trivial⟩)))))
    rw [wr_succ i0 i1 (by omega), wrap16 (x := cAt c (-(i : Int))) (by omega) (by omega), show ((i : Int) + 1).toNat = i + 1 by omega, Int.toNat_natCast, ← tb_snoc]
  · intro _ _
    rw [Int.toNat_natCast]
    dsimp only
    exact Round.no (by simp) (Round.done (Evt.some _))
/- impl.MirrorCam -/
theorem e73 {c : List Int} (hr : Rng c) (ok : okC c = true) : Evt (fun n => call T C n 73 (c, ())) ((mir c, 0, ()), ()) := by
  have hl := okC_len ok
  have hv := e39 c (by omega)
  rw [ok] at hv
  refine Evt.next (Evt.bind hv (Evt.no (by simp) (Evt.bind (e113 c) (Evt.bind (e158 hr ok) ?_)))) (fun n => r73 n c)
  exact Evt.some _
/- impl.BackwardMachine -/
theorem e12 {m : Mch} (D : DrM m) : Evt (fun n => call T C n 12 (m, ())) ((bkM m, 0, ()), ()) := by
  have hV := e64 m D.rng
  rw [D.ok] at hV
  have G := D.good
  have R := D.rng
  refine Evt.next (Evt.bind hV ?_) (fun n => r12 n m)
  exact Evt.no (by simp) (Evt.bind (e73 R.x G.x) (Evt.bind (e73 R.y G.y) (Evt.bind (e73 R.p G.p) (Evt.some ((bkM m, 0, ()), ())))))
/- slices.Clone[impl.Cam,int16] -/
theorem e74 (l : List Int) (h0 : l.length ≠ 0) (hl : (l.length : Int) ≤ 1000000) : Evt (fun n => call T C n 74 (l, ())) ((l, ()), ()) :=
  Evt.next (Evt.yes (decide_eq_true h0) (Evt.chk (by simp; omega) (Evt.some _))) (fun n => r74 n l)
/- impl.FlipMachine -/
theorem e13 {m : Mch} (D : DrM m) : Evt (fun n => call T C n 13 (m, ())) ((flM m, 0, ()), ()) := by
  have hV := e64 m D.rng
  rw [D.ok] at hV
  have l1 := D.len
  have l2 := D.ly
  have l3 := D.lp
  refine Evt.next (Evt.bind hV ?_) (fun n => r13 n m)
  exact Evt.no (by simp) (Evt.bind (e74 m.2.1 (by omega) (by omega)) (Evt.bind (e74 m.1 (by omega) (by omega)) (Evt.bind (e74 m.2.2.1 (by omega) (by omega)) (Evt.some ((flM m, 0, ()), ())))))
/- spec.l01Same -/
theorem e75 (l : List Int) (hl : (l.length : Int) ≤ 1000000) : Evt (fun n => call T C n 75 (l, l, ())) ((true, ()), ()) := by
  refine Evt.next (Evt.no (by simp) ?_) (fun n => r75 n l l)
  refine for_evt' 0 (l.length : Int) (fun i (_ : Unit) => (l, l, i, ())) (fun _ _ => True) (b0 := ()) rfl (by omega) trivial ?_ ?_
  · intro i _ h2 h3 _
    obtain ⟨v, hv⟩ := at_of h2 h3
    exact Round.yes (decide_eq_true h3) (Round.at hv.idx (Round.at hv.idx (Round.no (by simp) (Round.again _ ⟨(), by rw [wr_succ h2 h3 (by omega)], trivial⟩))))
  · intro _ _
    exact Round.no (by simp) (Round.done (Evt.some _))
theorem e75_2 (a b : List Int) (hl : (a.length : Int) ≤ 1000000) : Evt (fun n => call T C n 75 (a, b, ())) ((decide (a = b), ()), ()) := by
  by_cases hlen : a.length = b.length
  · refine Evt.next (Evt.no (by simp [hlen]) ?_) (fun n => r75 n a b)
    refine for_evt' 0 (a.length : Int) (fun i (_ : Unit) => (a, b, i, ())) (fun i _ => a.take i.toNat = b.take i.toNat) (b0 := ()) rfl (by omega) (by simp) ?_ ?_
    · intro i _ h2 h3 he
      obtain ⟨u, hu⟩ := at_of h2 h3
      obtain ⟨v, hv⟩ := at_of (l := b) h2 (by omega)
      refine Round.yes (decide_eq_true h3) (Round.at hu.idx (Round.at hv.idx (Round.ite (fun h => ?_) (fun h => ?_))))
      · have h : u ≠ v := by simpa using h
        have : a ≠ b := fun e => by
          subst e
          have := hu.get.symm.trans hv.get
          exact h (Option.some.inj this)
        rw [decide_eq_false this]
        exact Round.done (Evt.some _)
      · have h : u = v := by simpa using h
        exact Round.again _ ⟨(), by rw [wr_succ h2 h3 (by omega)], by rw [hu.take, hv.take, he, h]⟩
    · intro _ he
      have he : a = b := by rwa [take_all, hlen, take_all] at he
      rw [decide_eq_true he]
      exact Round.no (by simp) (Round.done (Evt.some _))
  · have : a ≠ b := fun e => hlen (by rw [e])
    rw [decide_eq_false this]
    exact Evt.next (Evt.yes (by simp; omega) (Evt.some _)) (fun n => r75 n a b)
/- spec.SameMachine -/
theorem e14 (m : Mch) (hx : (m.1.length : Int) ≤ 1000000) (hy : (m.2.1.length : Int) ≤ 1000000) (hp : (m.2.2.1.length : Int) ≤ 1000000) : Evt (fun n => call T C n 14 (m, m, ())) ((true, ()), ()) :=
  Evt.next (Evt.bind (e75 m.1 hx) (Evt.yes rfl (Evt.bind (e75 m.2.1 hy) (Evt.yes rfl (Evt.bind (e75 m.2.2.1 hp) (Evt.some _)))))) (fun n => r14 n m m)
/- bits.OnesCount64 -/
theorem e76 {x : Nat} (hx : x < 18446744073709551616) : Evt (fun n => call T C n 76 ((x : Int), ())) ((((bct x 64 : Nat) : Int), ()), ()) := by
  have h := pop_swar hx rfl
  dsimp only at h
  refine Evt.next (Evt.chk rfl (Evt.chk rfl (Evt.chk rfl (Evt.chk rfl (Evt.chk rfl (Evt.chk rfl ?_)))))) (fun n => r76 n x)
  rw [h]
  exact Evt.some _
/- impl.CountInk -/
theorem e15 {W : Nat → Nat} (hW : ∀ j, j < 64 → W j < 18446744073709551616) : Evt (fun n => call T C n 15 (tb 64 (fun j => ((W j : Nat) : Int)), ())) ((((tot W 64 : Nat) : Int), ()), ()) := by
  refine Evt.next ?_ (fun n => r15 n _)
  refine for_evt' 0 64 (fun i (_ : Unit) => (((tot W i.toNat : Nat) : Int), tb 64 (fun j => ((W j : Nat) : Int)), i, ())) (fun _ _ => True) (b0 := ()) rfl (by omega) trivial ?_ ?_
  · intro i _ h2 h3 _
    have hl := tot_le W i.toNat
    have hb := bct_le (W i.toNat) 64
    have hi : idx (tb 64 (fun j => ((W j : Nat) : Int))) i = some ((W i.toNat : Nat) : Int) := by unfold idx; rw [if_pos h2, tb_get (by omega)]
    refine Round.yes (decide_eq_true h3) (Round.at hi (Round.bind (e76 (hW i.toNat (by omega))) (Round.again _ ⟨(), ?_, trivial⟩)))
    rw [wr_succ h2 h3 (by omega), show (i + 1).toNat = i.toNat + 1 by omega, wrap_id (x := ((tot W i.toNat : Nat) : Int) + ((bct (W i.toNat) 64 : Nat) : Int)) (by omega) (by omega)]
    simp only [tot, Int.natCast_add]
  · intro _ _
    exact Round.no (by simp) (Round.done (Evt.some _))
/- impl.ValidMark -/
theorem e77 (m : Mk) (h : m.length = 2) : Evt (fun n => call T C n 77 (m, ())) ((okMk m, ()), ()) := by
  have h0 := (g_idx (l := m) (i := 0) (by omega) (by omega)).get
  have h1 := (g_idx (l := m) (i := 1) (by omega) (by omega)).get
  refine Evt.next (Evt.chk rfl (Evt.at h0 (Evt.bind (e103 _ _ _) ?_))) (fun n => r77 n m)
  unfold okMk
  refine Evt.ite (fun hc => ?_) (fun hc => ?_)
  · have hc : inR (wr .i64 (g m 0)) 0 63 = true := hc
    rw [hc]
    exact Evt.chk rfl (Evt.at h1 (Evt.bind (e103 _ _ _) (Evt.some _)))
  · have hc : inR (wr .i64 (g m 0)) 0 63 = false := by
      have : ¬ inR (wr .i64 (g m 0)) 0 63 = true := hc
      simpa using this
    rw [hc]
    exact Evt.some _
/- impl.HasInk -/
theorem e16 (L : List Mk) {x y : Nat} (hx : x < 64) (hy : y < 64) : Evt (fun n => call T C n 16 (plt L, [(x : Int), (y : Int)], ())) ((decide ([(x : Int), (y : Int)] ∈ L), ()), ()) := by
  have hok : okMk [(x : Int), (y : Int)] = true := by
    unfold okMk
    show (inR (wr .i64 (x : Int)) 0 63 && inR (wr .i64 (y : Int)) 0 63) = true
    rw [wrap_id (by omega) (by omega), wrap_id (by omega) (by omega)]
    simp only [Bool.and_eq_true, inR_iff]
    omega
  have hV := e77 [(x : Int), (y : Int)] rfl
  rw [hok] at hV
  have hrow : (plt L)[(Int.toNat (y : Int))]? = some (row fun x => decide ([(x : Int), (y : Int)] ∈ L)) := by
    rw [Int.toNat_natCast]
    exact tb_get hy
  have hbit := row_bit (fun x : Nat => decide ([(x : Int), (y : Int)] ∈ L)) hx
  generalize plt L = p at hrow ⊢
  generalize (row fun x : Nat => decide ([(x : Int), (y : Int)] ∈ L)) = v at hrow hbit
  generalize decide ([(x : Int), (y : Int)] ∈ L) = z at hbit ⊢
  have hc1 : decide (0 ≤ (y : Int) ∧ (y : Int) < ((64 : Nat) : Int)) = true := decide_eq_true (by omega)
  have hc2 : decide (0 ≤ (x : Int)) = true := decide_eq_true (by omega)
  refine Evt.next (Evt.bind hV (Evt.yes rfl (Evt.chk rfl (Evt.at (x := (y : Int)) rfl (Evt.chk hc1 (Evt.at hrow (Evt.chk rfl (Evt.at (x := (x : Int)) rfl (Evt.chk hc2 ?_))))))))) (fun n => r16 n p [(x : Int), (y : Int)])
  rw [hbit]
  exact Evt.some ((z, ()), ())
/- impl.withLast -/
theorem e161 (l : List Int) (x : Int) (h0 : l.length ≠ 0) (h : (l.length : Int) ≤ 1000000) : Evt (fun n => call T C n 161 (l, x, ())) ((l ++ [x], ()), ()) := Evt.next (Evt.bind (e74 l h0 h) (Evt.chk (by simp; omega) (Evt.some _))) (fun n => r161 n l x)
/- (impl.Machine).still -/
theorem e78 (m : Mch) (g : GoodM m) : Evt (fun n => call T C n 78 (m, ())) (((m.1 ++ [lst m.1], m.2.1 ++ [lst m.2.1], m.2.2.1 ++ [1], ()), ()), ()) := by
  have a1 := okC_len g.x
  have a2 := okC_len g.y
  have a3 := okC_len g.p
  have h1 := (lst_at (l := m.1) (by omega)).idx
  have h2 := (lst_at (l := m.2.1) (by omega)).idx
  rw [← g.xy] at h2
  refine Evt.next ?_ (fun n => r78 n m)
  rw [wrap_id (x := (m.1.length : Int) - 1) (by omega) (by omega)]
  exact Evt.at h1 (Evt.bind (e161 _ _ (by omega) (by omega)) (Evt.at h2 (Evt.bind (e161 _ _ (by omega) (by omega)) (Evt.bind (e161 _ _ (by omega) (by omega)) (Evt.some _)))))
/- impl.BothMachines -/
theorem e17 (m k : Mch) (hm : RngM m) (hk : RngM k) : Evt (fun n => call T C n 17 (m, k, ())) (btR m k, ()) := by
  refine Evt.next (Evt.bind (e64 m hm) ?_) (fun n => r17 n m k)
  unfold btR
  cases h1 : okM m with
  | false =>
    refine Evt.yes rfl (Evt.bind (e69 _ _) (Evt.bind (e69 _ _) (Evt.bind (e68 _ (by simp)) (Evt.yes (by simp [fst0]) ((Evt.some _).of_eq fun n => ?_)))))
    simp [fst0]
    rfl
  | true =>
    refine Evt.no (by simp) (Evt.bind (e64 k hk) (Evt.bind (e69 _ _) (Evt.bind (e69 _ _) (Evt.bind (e68 _ (by simp)) ?_))))
    cases h2 : okM k with
    | false =>
      refine Evt.yes (by simp [fst0]) ((Evt.some _).of_eq fun n => ?_)
      simp [fst0]
      rfl
    | true =>
      have g1 := goodM h1
      have g2 := goodM h2
      have a1 := okC_len g1.x
      have a2 := okC_len g1.y
      have a3 := okC_len g1.p
      have b1 := okC_len g2.x
      have b2 := okC_len g2.y
      have b3 := okC_len g2.p
      rw [wrap_id (x := (m.1.length : Int) + (k.1.length : Int)) (by omega) (by omega), wrap_id (x := (m.1.length : Int) + (k.1.length : Int) + 2) (by omega) (by omega)]
      by_cases h : (m.1.length : Int) + k.1.length + 2 > 360
      · simp only [Bool.not_true, Bool.false_eq_true, if_false]
        rw [if_pos h]
        have hd := decide_eq_true h
        simp only [hd]
        refine Evt.yes (by simp [fst0]) ((Evt.some _).of_eq fun n => ?_)
        simp [fst0]
        rfl
      · simp only [Bool.not_true, Bool.false_eq_true, if_false]
        rw [if_neg h]
        have cc := fun (a b : List Int) (x y : Int) (ha : (a.length : Int) ≤ 360) (hb : (b.length : Int) ≤ 360) => by
          have := e79 [a ++ [x], b ++ [y]] (by rw [thenL_flat, thenL_len]; omega) (by simp)
          rw [thenL_flat] at this
          exact this
        have hd := decide_eq_false h
        simp only [hd]
        refine Evt.no (by simp [fst0]) (Evt.bind (e78 m g1) (Evt.bind (e78 k g2) ?_))
        exact Evt.bind (cc m.1 k.1 _ _ (by omega) (by omega)) (Evt.bind (cc m.2.1 k.2.1 _ _ (by omega) (by omega)) (Evt.bind (cc m.2.2.1 k.2.2.1 _ _ (by omega) (by omega)) (Evt.some _)))
/- spec.l07Copy -/
theorem e163 (l : List Int) (h : (l.length : Int) ≤ 1000000) : Evt (fun n => call T C n 163 (l, ())) ((l, ()), ()) := Evt.next (Evt.chk (by simp; omega) (Evt.some _)) (fun n => r163 n l)
/- spec.l07Then -/
theorem e80 (a b : List Int) (ha : 0 < (a.length : Int)) (hb : 0 < (b.length : Int)) (ha' : (a.length : Int) ≤ 1000) (hb' : (b.length : Int) ≤ 1000) (p : Bool) : Evt (fun n => call T C n 80 (a, b, p, ())) ((thenL a b (if p = true then 1 else lst a) (if p = true then 1 else lst b), ()), ()) := by
  have h1 := (lst_at ha).idx
  have h2 := (lst_at hb).idx
  refine Evt.next ?_ (fun n => r80 n a b p)
  rw [wrap_id (x := (a.length : Int) - 1) (by omega) (by omega), wrap_id (x := (b.length : Int) - 1) (by omega) (by omega)]
  refine Evt.at h1 (Evt.at h2 ?_)
  cases p with
  | true => exact Evt.yes rfl (Evt.bind (e163 a (by omega)) (Evt.chk (by simp; omega) (Evt.chk (by simp; omega) (Evt.chk (by simp; omega) (Evt.some _)))))
  | false => exact Evt.no (by simp) (Evt.bind (e163 a (by omega)) (Evt.chk (by simp; omega) (Evt.chk (by simp; omega) (Evt.chk (by simp; omega) (Evt.some _)))))
/- spec.BothMachines -/
theorem e18 (m k : Mch) (hm : RngM m) (hk : RngM k) : Evt (fun n => call T C n 18 (m, k, ())) (btR m k, ()) := by
  refine Evt.next (Evt.bind (e66 m hm) ?_) (fun n => r18 n m k)
  unfold btR
  cases h1 : okM m with
  | false => exact Evt.yes rfl (Evt.some _)
  | true =>
    refine Evt.no (by simp) (Evt.bind (e66 k hk) ?_)
    cases h2 : okM k with
    | false => exact Evt.yes rfl (Evt.some _)
    | true =>
      have g1 := goodM h1
      have g2 := goodM h2
      have a1 := okC_len g1.x
      have a2 := okC_len g1.y
      have a3 := okC_len g1.p
      have b1 := okC_len g2.x
      have b2 := okC_len g2.y
      have b3 := okC_len g2.p
      rw [wrap_id (x := (m.1.length : Int) + (k.1.length : Int)) (by omega) (by omega), wrap_id (x := (m.1.length : Int) + (k.1.length : Int) + 2) (by omega) (by omega)]
      refine Evt.no (by simp) (Evt.ite (fun h => ?_) (fun h => ?_))
      · rw [if_neg (by simp), if_neg (by simp), if_pos (of_decide_eq_true h)]; exact Evt.some _
      · rw [if_neg (by simp), if_neg (by simp), if_neg (by simpa using h)]
        exact Evt.bind (e80 m.1 k.1 (by omega) (by omega) (by omega) (by omega) false) (Evt.bind (e80 m.2.1 k.2.1 (by omega) (by omega) (by omega) (by omega) false) (Evt.bind (e80 m.2.2.1 k.2.2.1 (by omega) (by omega) (by omega) (by omega) true) (Evt.some _)))
/- spec.StopsOf -/
theorem e19 {m : Mch} (hr : RngM m) (h : okM m = true) : Evt (fun n => call T C n 19 (m, ())) ((stopsM m, 0, ()), ()) := by
  have hV := e66 m hr
  rw [h] at hV
  refine Evt.next (Evt.bind hV (Evt.no (by simp) ?_)) (fun n => r19 n m)
  exact Evt.bind (e81 m (goodM h)) (Evt.some _)
/- impl.StopsOf -/
theorem e20 {m : Mch} (hr : RngM m) (h : okM m = true) : Evt (fun n => call T C n 20 (m, ())) ((stopsM m, 0, ()), ()) := by
  have hV := e64 m hr
  rw [h] at hV
  refine Evt.next (Evt.bind hV (Evt.no (by simp) ?_)) (fun n => r20 n m)
  exact Evt.bind (e82 m hr (goodM h)) (Evt.some _)
/- spec.SameStops -/
theorem e21 (l : List Stp) (hl : (l.length : Int) ≤ 1000000) : Evt (fun n => call T C n 21 (l, l, ())) ((true, ()), ()) := by
  refine Evt.next (Evt.no (by simp) ?_) (fun n => r21 n l l)
  refine for_evt 0 (l.length : Int) (fun i (_ : Unit) => (l, l, i, ())) (fun _ _ => True) (b0 := ()) (by omega) trivial ?_ ?_
  · intro i _ h2 h3 _
    obtain ⟨v, hv⟩ := at_of h2 h3
    exact Round.yes (decide_eq_true h3) (Round.at hv.idx (Round.at hv.idx (Round.no (by simp) (Round.again _ ⟨(), by rw [wr_succ h2 h3 (by omega)], trivial⟩))))
  · intro _ _
    exact Round.no (by simp) (Round.done (Evt.some _))
/- impl.PenTime -/
theorem e22 {m : Mch} (D : DrM m) : Evt (fun n => call T C n 22 (m, ())) ((((pnS m m.1.length).1 : Int), ((pnS m m.1.length).2 : Int), 0, ()), ()) := by
  have hV := e64 m D.rng
  rw [D.ok] at hV
  have l1 := D.len
  refine Evt.next (Evt.bind hV ?_) (fun n => r22 n m)
  refine Evt.no (by simp) (Evt.bind (e83 m) ?_)
  dsimp only
  refine for_evt' 0 (m.1.length : Int) (fun i (_ : Unit) => (m, ((pnS m i.toNat).1 : Int), ((pnS m i.toNat).2 : Int), (m.1.length : Int), i, ())) (fun _ _ => True) (b0 := ()) rfl (by omega) trivial ?_ ?_
  · intro i _ i0 i1 _
    obtain ⟨i, rfl⟩ := Int.eq_ofNat_of_zero_le i0
    have hi : i < m.1.length := by omega
    have hws := wr_succ (i := (i : Int)) i0 i1 (by omega)
    have hle := pnS_le m i
    have hs : pnS m (i + 1) = if dnB m i = true then ((pnS m i).1 + 1, if dnB m ((i + m.1.length - 1) % m.1.length) = true then (pnS m i).2 else (pnS m i).2 + 1) else pnS m i := rfl
    have hp : Evt (fun n => call T C n 84 (m, wr .i64 ((i : Int) - 1), ())) ((stopM m ((i + m.1.length - 1) % m.1.length), ()), ()) := by
      by_cases hz : i = 0
      · subst hz
        rw [show wr .i64 (((0 : Nat) : Int) - 1) = -1 from by decide, show (0 + m.1.length - 1) % m.1.length = m.1.length - 1 by rw [Nat.zero_add]; exact Nat.mod_eq_of_lt (by omega)]
        exact e84_2 D
      · have e : (i + m.1.length - 1) % m.1.length = i - 1 := by rw [show i + m.1.length - 1 = i - 1 + m.1.length by omega, Nat.add_mod_right, Nat.mod_eq_of_lt (by omega)]
        rw [wrap_id (by omega) (by omega), e, show (i : Int) - 1 = ((i - 1 : Nat) : Int) by omega]
        exact e84 m D.rng D.good (by omega)
    rw [Int.toNat_natCast]
    generalize pnS m i = q at *
    obtain ⟨u, v⟩ := q
    simp only at hle hs
    dsimp only
    refine Round.yes (decide_eq_true i1) (Round.bind (e84 m D.rng D.good hi) ?_)
    dsimp only
    cases hd : (stopM m i).2.1 with
    | false =>
      have hd2 : dnB m i = false := hd
      rw [hd2, if_neg (by simp)] at hs
      refine Round.yes (by simp) (Round.again _ ⟨(), ?_, trivial⟩)
      rw [hws, show ((i : Int) + 1).toNat = i + 1 by omega, hs]
    | true =>
      have hd2 : dnB m i = true := hd
      rw [hd2, if_pos rfl] at hs
      refine Round.no (by simp) (Round.bind hp ?_)
      dsimp only
      cases he : (stopM m ((i + m.1.length - 1) % m.1.length)).2.1 with
      | false =>
        have he2 : dnB m ((i + m.1.length - 1) % m.1.length) = false := he
        rw [he2, if_neg (by simp)] at hs
        refine Round.yes (by simp) (Round.again _ ⟨(), ?_, trivial⟩)
        rw [hws, show ((i : Int) + 1).toNat = i + 1 by omega, hs, wrap_id (x := (u : Int) + 1) (by omega) (by omega), wrap_id (x := (v : Int) + 1) (by omega) (by omega)]
        rfl
      | true =>
        have he2 : dnB m ((i + m.1.length - 1) % m.1.length) = true := he
        rw [he2, if_pos rfl] at hs
        refine Round.no (by simp) (Round.again _ ⟨(), ?_, trivial⟩)
        rw [hws, show ((i : Int) + 1).toNat = i + 1 by omega, hs, wrap_id (x := (u : Int) + 1) (by omega) (by omega)]
        rfl
  · intro _ _
    rw [Int.toNat_natCast]
    exact Round.no (by simp) (Round.done (Evt.some _))
/- strconv.FormatInt -/
theorem e178 (u : Nat) (h : u ≤ 9223372036854775807) : Evt (fun n => call T C n 178 ((u : Int), 10, ())) ((tx (Lib.decDigits u), ()), ()) := by
  refine Evt.next ?_ (fun n => r178 n u 10)
  dsimp only
  rw [if_pos ⟨rfl, by omega, by omega⟩, Lib.itoa_nonneg]
  exact Evt.some _
theorem e178_2 (v : Int) (h0 : -9223372036854775808 ≤ v) (h1 : v ≤ 9223372036854775807) : Evt (fun n => call T C n 178 (v, 10, ())) ((tx (Lib.itoa v), ()), ()) := by
  refine Evt.next ?_ (fun n => r178 n v 10)
  dsimp only
  rw [if_pos ⟨rfl, h0, h1⟩]
  exact Evt.some _
/- impl.decimal -/
theorem e105 (u : Nat) (h : u ≤ 9223372036854775807) : Evt (fun n => call T C n 105 ((u : Int), ())) ((tx (Lib.decDigits u), ()), ()) :=
  Evt.next (Evt.bind (e178 u h) (Evt.some _)) (fun n => r105 n u)
theorem e105_2 (v : Int) (h0 : -9223372036854775808 ≤ v) (h1 : v ≤ 9223372036854775807) : Evt (fun n => call T C n 105 (v, ())) ((tx (Lib.itoa v), ()), ()) :=
  Evt.next (Evt.bind (e178_2 v h0 h1) (Evt.some _)) (fun n => r105 n v)
/- strings.Join -/
theorem e106 (ws : List (List UInt8)) (s : List UInt8) (h1 : ws.length ≤ 1000000) (h2 : (Lib.join ws s).length ≤ 1000000000) : Evt (fun n => call T C n 106 (ws.map tx, tx s, ())) ((tx (Lib.join ws s), ()), (ws.map tx, ())) := by
  refine Evt.next ?_ (fun n => r106 n (ws.map tx) (tx s))
  have e : (ws.map tx).map (fun s => s.data.toList) = ws := by
    rw [List.map_map]
    exact (List.map_congr_left fun a _ => rfl).trans (List.map_id ws)
  dsimp only
  rw [e]
  show Evt (fun n => if (ws.map tx).length ≤ 140737488355328 ∧ (Lib.join ws s).length ≤ 140737488355328 then some ((tx (Lib.join ws s), ()), (ws.map tx, ())) else none) _
  rw [if_pos ⟨by simp; omega, by omega⟩]
  exact Evt.some _
/- impl.CamText -/
theorem e89 (c : List Int) (hr : Rng c) : Evt (fun n => call T C n 89 (c, ())) ((camT c, ()), ()) := by
  have hcl := hr.len'
  refine Evt.next (Evt.bind (e39 c (by omega)) ?_) (fun n => r89 n c)
  unfold camT
  cases h : okC c with
  | false => exact Evt.yes rfl (Evt.some _)
  | true =>
    have hl := okC_len h
    have hC := okC_el h hr
    have c32 : (⟨#[32]⟩ : ByteArray) = tx [32] := rfl
    have c42 : (⟨#[42]⟩ : ByteArray) = tx [42] := rfl
    refine Evt.no (by simp) ?_
    refine loop_evt (fun x => ∃ (i : Nat) (ws : List (List UInt8)), x = (c, ws.map tx, (i : Int), ()) ∧ i ≤ c.length ∧ ws ++ (rle (c.drop i)).map wordL = (rle c).map wordL ∧ ws.length ≤ i ∧ (∀ w ∈ ws, w.length ≤ 43) ∧ (0 < i → ws ≠ [])) (fun x => c.length - x.2.2.1.toNat) ⟨0, [], rfl, by omega, by simp, by simp, by simp, by simp⟩ ?_
    rintro x ⟨i, ws, rfl, hi, hws, hwl0, hl43, hne0⟩
    have hJ := join_len [32] ws hl43
    simp only [List.length_cons, List.length_nil] at hJ
    have hJ : (Lib.join ws [32]).length ≤ 1000000 := by omega
    by_cases hlt : i < c.length
    · have hlt : (i : Int) < (c.length : Int) := by omega
      refine Round.yes (decide_eq_true hlt) ?_
      refine for_round' (i : Int) (c.length : Int) (fun j (_ : Unit) => (c, ws.map tx, (i : Int), j, ())) (fun j _ => ∀ u : Nat, i ≤ u → (u : Int) < j → g c u = g c i) (b0 := ()) rfl (by omega) (fun u h1 h2 => absurd h2 (by omega)) ?_ ?_
      · intro j' _ h2 h3' hP
        obtain ⟨j, rfl⟩ : ∃ j : Nat, j' = j := ⟨j'.toNat, by omega⟩
        have a1 := g_idx (l := c) (i := (j : Int)) (by omega) (by omega)
        have a2 := g_idx (l := c) (i := (i : Int)) (by omega) (by omega)
        rw [Int.toNat_natCast] at a1 a2
        refine Round.yes (decide_eq_true h3') (Round.at a1.idx (Round.at a2.idx ?_))
        by_cases heq : g c j = g c i
        · refine Round.yes (by simp [heq]) (Round.inr _ ⟨(), by rw [wr_succ (by omega) h3' (by omega)], fun u h1 h2 => ?_⟩)
          by_cases hu : u = j
          · rw [hu, heq]
          · exact hP u h1 (by omega)
        · have hj1 : i < j := by
            apply Classical.byContradiction
            intro h
            exact heq (by rw [show j = i by omega])
          have hj2 : j ≤ c.length := by omega
          have h3 : ∀ u, i ≤ u → u < j → g c u = g c i := fun u h1 h2 => hP u h1 (by omega)
          have h4 : j = c.length ∨ g c j ≠ g c i := .inr heq
          refine Round.no (by simp [heq]) ?_
          have hv := g_idx (l := c) (i := (i : Int)) (by omega) (by omega)
          rw [Int.toNat_natCast] at hv
          have hvb := hC _ hv.mem
          obtain ⟨v, hv2⟩ : ∃ v : Nat, g c i = v := ⟨(g c i).toNat, by omega⟩
          have hd := rle_drop hj1 hj2 h3 h4
          have e1 : wr .i64 (g c i) = (v : Int) := by rw [hv2]; exact wrap_id (by omega) (by omega)
          have e2 : wr .i64 ((j : Int) - (i : Int)) = ((j - i : Nat) : Int) := by rw [wrap_id (by omega) (by omega)]; omega
          have hD1 := e105 v (by omega)
          have hD2 := e105 (j - i) (by omega)
          have z1 := dec_len (u := v) (by omega)
          have z2 := dec_len (u := j - i) (by omega)
          have hw : wordL (g c i, j - i) = if j - i > 1 then Lib.decDigits v ++ 42 :: Lib.decDigits (j - i) else Lib.decDigits v := by unfold wordL; rw [hv2]; rfl
          have hwl := wordL_len (x := (g c i, j - i)) (by show g c i ≤ _; omega) (by show j - i ≤ _; omega)
          have next : ∀ w, w = wordL (g c i, j - i) → (ws ++ [w]) ++ (rle (c.drop j)).map wordL = (rle c).map wordL ∧ (ws ++ [w]).length ≤ j ∧ (∀ u ∈ ws ++ [w], u.length ≤ 43) ∧ (0 < j → ws ++ [w] ≠ []) := fun w hw => by
            refine ⟨?_, by simp; omega, fun u hu => ?_, fun _ => by simp⟩
            · rw [← hws, hd, hw]; simp
            · rcases List.mem_append.1 hu with hu | hu
              · exact hl43 u hu
              · simp at hu; rw [hu, hw]; exact hwl
          refine Round.at hv.idx ?_
          simp only [e1, e2]
          refine Round.bind hD1 ?_
          have hml : (ws.map tx).length = ws.length := by simp
          by_cases hk : j - i > 1
          · refine Round.yes (decide_eq_true (by omega)) (Round.bind hD2 ?_)
            simp only [c42, tx_app]
            refine Round.chk (szT (by simp) (by omega)) (Round.chk (szT (by omega) (by simp; omega)) (Round.chk (by simp; omega) (Round.inl _ ⟨⟨j, ws ++ [wordL (g c i, j - i)], ?_, hj2, next _ rfl⟩, ?_⟩)))
            · rw [hw, if_pos hk]; simp
            · show c.length - (j : Int).toNat < c.length - (i : Int).toNat
              omega
          · refine Round.no (by simp; omega) (Round.chk (by simp; omega) (Round.inl _ ⟨⟨j, ws ++ [wordL (g c i, j - i)], ?_, hj2, next _ rfl⟩, ?_⟩))
            · rw [hw, if_neg hk]; simp
            · show c.length - (j : Int).toNat < c.length - (i : Int).toNat
              omega
      · intro _ hP
        refine Round.no (by simp) ?_
        have hj1 : i < c.length := by omega
        have hj2 : c.length ≤ c.length := Nat.le_refl _
        have h3 : ∀ u, i ≤ u → u < c.length → g c u = g c i := fun u h1 h2 => hP u h1 (by omega)
        have h4 : c.length = c.length ∨ g c c.length ≠ g c i := .inl rfl
        have hv := g_idx (l := c) (i := (i : Int)) (by omega) (by omega)
        rw [Int.toNat_natCast] at hv
        have hvb := hC _ hv.mem
        obtain ⟨v, hv2⟩ : ∃ v : Nat, g c i = v := ⟨(g c i).toNat, by omega⟩
        have hd := rle_drop hj1 hj2 h3 h4
        have e1 : wr .i64 (g c i) = (v : Int) := by rw [hv2]; exact wrap_id (by omega) (by omega)
        have e2 : wr .i64 ((c.length : Int) - (i : Int)) = ((c.length - i : Nat) : Int) := by rw [wrap_id (by omega) (by omega)]; omega
        have hD1 := e105 v (by omega)
        have hD2 := e105 (c.length - i) (by omega)
        have z1 := dec_len (u := v) (by omega)
        have z2 := dec_len (u := c.length - i) (by omega)
        have hw : wordL (g c i, c.length - i) = if c.length - i > 1 then Lib.decDigits v ++ 42 :: Lib.decDigits (c.length - i) else Lib.decDigits v := by unfold wordL; rw [hv2]; rfl
        have hwl := wordL_len (x := (g c i, c.length - i)) (by show g c i ≤ _; omega) (by show c.length - i ≤ _; omega)
        have next : ∀ w, w = wordL (g c i, c.length - i) → (ws ++ [w]) ++ (rle (c.drop c.length)).map wordL = (rle c).map wordL ∧ (ws ++ [w]).length ≤ c.length ∧ (∀ u ∈ ws ++ [w], u.length ≤ 43) ∧ (0 < c.length → ws ++ [w] ≠ []) := fun w hw => by
          refine ⟨?_, by simp; omega, fun u hu => ?_, fun _ => by simp⟩
          · rw [← hws, hd, hw]; simp
          · rcases List.mem_append.1 hu with hu | hu
            · exact hl43 u hu
            · simp at hu; rw [hu, hw]; exact hwl
        refine Round.at hv.idx ?_
        simp only [e1, e2]
        refine Round.bind hD1 ?_
        have hml : (ws.map tx).length = ws.length := by simp
        by_cases hk : c.length - i > 1
        · refine Round.yes (decide_eq_true (by omega)) (Round.bind hD2 ?_)
          simp only [c42, tx_app]
          refine Round.chk (szT (by simp) (by omega)) (Round.chk (szT (by omega) (by simp; omega)) (Round.chk (by simp; omega) (Round.inl _ ⟨⟨c.length, ws ++ [wordL (g c i, c.length - i)], ?_, hj2, next _ rfl⟩, ?_⟩)))
          · rw [hw, if_pos hk]; simp
          · show c.length - (c.length : Int).toNat < c.length - (i : Int).toNat
            omega
        · refine Round.no (by simp; omega) (Round.chk (by simp; omega) (Round.inl _ ⟨⟨c.length, ws ++ [wordL (g c i, c.length - i)], ?_, hj2, next _ rfl⟩, ?_⟩))
          · rw [hw, if_neg hk]; simp
          · show c.length - (c.length : Int).toNat < c.length - (i : Int).toNat
            omega
    · have hi : i = c.length := by omega
      refine Round.no (by simp; omega) (Round.done ?_)
      rw [hi, List.drop_length] at hws
      have hw2 : ws = (rle c).map wordL := by simpa [rle] using hws
      rw [if_pos rfl]
      unfold camJ
      rw [← hw2, c32]
      exact Evt.bind (e106 ws [32] (by omega) (by omega)) (Evt.some _)
/- impl.MachineText -/
theorem e24 (m : Mch) (hR : RngM m) : Evt (fun n => call T C n 24 (m, ())) ((mtR m, ()), ()) := by
  refine Evt.next (Evt.bind (e64 m hR) ?_) (fun n => r24 n m)
  unfold mtR
  cases h : okM m with
  | false => exact Evt.yes rfl (Evt.some _)
  | true =>
    have G := goodM h
    have hx := okC_len G.x
    have hy := okC_len G.y
    have hp := okC_len G.p
    have l1 := camJ_len (c := m.1) (by omega) (okC_el G.x hR.x)
    have l2 := camJ_len (c := m.2.1) (by omega) (okC_el G.y hR.y)
    have l3 := camJ_len (c := m.2.2.1) (by omega) (okC_el G.p hR.p)
    have t1 : camT m.1 = tx (camJ m.1) := if_pos G.x
    have t2 : camT m.2.1 = tx (camJ m.2.1) := if_pos G.y
    have t3 : camT m.2.2.1 = tx (camJ m.2.2.1) := if_pos G.p
    refine Evt.no (by simp) (Evt.bind (e89 m.1 hR.x) ?_)
    simp only [t1, machC, tx_app]
    refine Evt.chk (szT (by simp) (by omega)) (Evt.chk (szT (by simp; omega) (by simp)) (Evt.bind (e89 m.2.1 hR.y) ?_))
    simp only [t2, tx_app]
    refine Evt.chk (szT (by simp; omega) (by omega)) (Evt.chk (szT (by simp; omega) (by simp)) (Evt.bind (e89 m.2.2.1 hR.p) ?_))
    simp only [t3, tx_app]
    exact Evt.chk (szT (by simp; omega) (by omega)) (Evt.chk (szT (by simp; omega) (by simp)) (Evt.some _))
/- strings.SplitN -/
theorem e85 (l : List UInt8) (hl : l.length ≤ 10000000) : Evt (fun n => call T C n 85 (tx l, tx [32], (4 : Int), ())) (((splitN4 l).map tx, ()), ()) := by
  refine Evt.next ?_ (fun n => r85 n (tx l) (tx [32]) 4)
  dsimp only
  rw [if_pos ⟨by rw [tx_size]; omega, by rw [tx_size]; simp, by omega, by omega⟩, show Int.toNat 4 = 4 from rfl, splitN_tx]
  exact Evt.some _
theorem e85_2 (l : List UInt8) (hl : l.length ≤ 10000000) : Evt (fun n => call T C n 85 (tx l, tx [10], (3 : Int), ())) (((splitN3 l).map tx, ()), ()) := by
  refine Evt.next ?_ (fun n => r85 n (tx l) (tx [10]) 3)
  dsimp only
  rw [if_pos ⟨by rw [tx_size]; omega, by rw [tx_size]; simp, by omega, by omega⟩]
  have e := splitN3_tx l
  rw [show ((3 : Int).toNat) = 3 from rfl, e]
  exact Evt.some _
/- strings.TrimSuffix -/
theorem e87 (l s : List UInt8) (hl : l.length ≤ 10000000) : Evt (fun n => call T C n 87 (tx l, tx s, ())) ((tx (Lib.trimSuffix l s), ()), ()) := by
  refine Evt.next ?_ (fun n => r87 n (tx l) (tx s))
  dsimp only
  rw [if_pos (by rw [tx_size]; omega)]
  exact Evt.some _
/- strings.Cut -/
theorem e86 (l s : List UInt8) (hl : l.length ≤ 10000000) : Evt (fun n => call T C n 86 (tx l, tx s, ())) ((tx (Lib.cut l s).1, tx (Lib.cut l s).2.1, (Lib.cut l s).2.2, ()), ()) := by
  refine Evt.next ?_ (fun n => r86 n (tx l) (tx s))
  dsimp only
  rw [if_pos (by rw [tx_size]; omega)]
  exact Evt.some _
/- strings.Split -/
theorem e90 {c : UInt8} {w : List UInt8} {ws : List (List UInt8)} (h : c ∉ w) (hs : ∀ v ∈ ws, c ∉ v) (hl : (Lib.join (w :: ws) [c]).length ≤ 1000000) : Evt (fun n => call T C n 90 (tx (Lib.join (w :: ws) [c]), tx [c], ())) (((w :: ws).map tx, ()), ()) := by
  refine Evt.next ?_ (fun n => r90 n (tx (Lib.join (w :: ws) [c])) (tx [c]))
  dsimp only
  rw [if_pos ⟨by rw [tx_size]; omega, by rw [tx_size]; simp⟩, split_tx h hs]
  exact Evt.some _
theorem e90_2 (c : UInt8) (l : List UInt8) (hl : l.length ≤ 10000000) : Evt (fun n => call T C n 90 (tx l, tx [c], ())) (((splitC c l).map tx, ()), ()) := by
  refine Evt.next ?_ (fun n => r90 n (tx l) (tx [c]))
  dsimp only
  rw [if_pos ⟨by rw [tx_size]; omega, by rw [tx_size]; simp⟩, split_all]
  exact Evt.some _
/- strconv.ParseInt -/
theorem e176 {u : Nat} (h : u ≤ 9223372036854775807) : Evt (fun n => call T C n 176 (tx (Lib.decDigits u), 10, 64, ())) (((u : Int), false, ()), ()) := by
  have l1 := dec_len h
  refine Evt.next ?_ (fun n => r176 n (tx (Lib.decDigits u)) 10 64)
  dsimp only
  rw [if_pos ⟨by rw [tx_size]; omega, rfl, rfl⟩, tx_list, parse_int h]
  exact Evt.some _
/- impl.number -/
theorem e101 {u : Nat} (h : u ≤ 9223372036854775807) : Evt (fun n => call T C n 101 (tx (Lib.decDigits u), ())) (((u : Int), true, ()), ()) := by
  refine Evt.next (Evt.bind (e176 h) (Evt.chk rfl (Evt.yes rfl (Evt.bind (e105 u h) ?_)))) (fun n => r101 n (tx (Lib.decDigits u)))
  simp only [beq_self_eq_true, cond_true]
  exact Evt.some _
theorem e101_2 (l : List UInt8) (hl : l.length ≤ 10000000) : Evt (fun n => call T C n 101 (tx l, ())) (((numI l).1, (numI l).2, ()), ()) := by
  have hP : Evt (fun n => call T C n 176 (tx l, 10, 64, ())) (((numI l).1, (match Lib.parseIntB 64 l with | .ok _ => false | _ => true), ()), ()) := by
    refine Evt.next ?_ (fun n => r176 n (tx l) 10 64)
    dsimp only
    rw [if_pos ⟨by rw [tx_size]; omega, rfl, rfl⟩, tx_list]
    unfold numI
    cases Lib.parseIntB 64 l <;> exact Evt.some _
  have hb := numI_bd l
  refine Evt.next (Evt.bind hP (Evt.chk rfl ?_)) (fun n => r101 n (tx l))
  have hd := e105_2 (numI l).1 hb.1 hb.2
  revert hd
  rcases h : Lib.parseIntB 64 l with v | _ | _
  · intro hd
    refine Evt.yes rfl (Evt.bind hd ?_)
    simp only [tx_toList, cond_true]
    have e1 : (numI l).2 = (Lib.itoa (numI l).1 == l) := by unfold numI; rw [h]
    rw [e1]
    exact Evt.some _
  · intro _
    have e1 : (numI l).2 = false := by unfold numI; rw [h]
    rw [e1]
    exact Evt.no (by simp) (Evt.some _)
  · intro _
    have e1 : (numI l).2 = false := by unfold numI; rw [h]
    rw [e1]
    exact Evt.no (by simp) (Evt.some _)
/- slices.Repeat[impl.Cam,int16] -/
theorem e167 (v k : Int) (h1 : 1 ≤ k) (h2 : k ≤ 360) : Evt (fun n => call T C n 167 ([v], k, ())) ((List.replicate k.toNat v, ()), ()) := by
  refine Evt.next ?_ (fun n => r167 n [v] k)
  dsimp only
  rw [if_pos ⟨rfl, h1, h2⟩]
  exact Evt.some _
/- impl.ReadCam -/
theorem e88 (l : List UInt8) (hl : l.length ≤ 1048576) : Evt (fun n => call T C n 88 (tx l, ())) (((rdC l).1, (rdC l).2, ()), ()) := by
  refine Evt.next ?_ (fun n => r88 n (tx l))
  have hS := e90_2 32 l (by omega)
  have hn := splitC_len 32 l
  have hw := splitC_wlen (c := 32) (l := l)
  have hrd := rdC_eq l
  generalize splitC 32 l = ws at hS hn hw hrd
  refine Evt.bind hS ?_
  have hlm : (((ws.map tx).length : Nat) : Int) = (ws.length : Int) := by simp
  refine for_evt' 0 (ws.length : Int) (fun i (c : List Int) => (tx l, c, ws.map tx, (((ws.map tx).length : Nat) : Int), i, ())) (fun i c => foldO irW [] (ws.take i.toNat) = some c) (b0 := []) rfl (by omega) rfl ?_ ?_
  · intro i c i0 i1 hL
    obtain ⟨i, rfl⟩ := Int.eq_ofNat_of_zero_le i0
    rw [Int.toNat_natCast] at hL
    obtain ⟨w, hi⟩ : ∃ w, ws[i]? = some w := ⟨_, List.getElem?_eq_getElem (by omega)⟩
    have hwl := hw w (List.mem_of_getElem? hi)
    have G := irW_fold _ good0 hL
    have hvi : idx (ws.map tx) (i : Int) = some (tx w) := by
      unfold idx
      rw [if_pos (by omega), Int.toNat_natCast, List.getElem?_map, hi]; rfl
    have bad : irW c w = none → ∀ {f : Nat → Option ((List Int × Int × Unit) × Unit)}, Evt f ((([] : List Int), (5 : Int), ()), ()) → Evt f (((rdC l).1, (rdC l).2, ()), ()) := fun h f hf => by
      rw [hrd, foldO_none hL hi h]; exact hf
    have good : ∀ d, irW c w = some d → foldO irW [] (ws.take ((i : Int) + 1).toNat) = some d := fun d h => by
      rw [show ((i : Int) + 1).toNat = i + 1 by omega, foldO_next hL hi, h]
    have hws := wr_succ (i := (i : Int)) i0 i1 (by omega)
    have hC := e86 w [42] (by omega)
    have hcl : (Lib.cut w [42]).1.length ≤ w.length ∧ (Lib.cut w [42]).2.1.length ≤ w.length := by
      unfold Lib.cut
      split
      · exact ⟨by rw [List.length_take]; omega, by rw [List.length_drop]; omega⟩
      · exact ⟨Nat.le_refl _, by simp⟩
    have b1 := numI_bd (Lib.cut w [42]).1
    have b2 := numI_bd (Lib.cut w [42]).2.1
    have hg := G.1
    have hs360 : wr .i64 (360 - (c.length : Int)) = 360 - (c.length : Int) := wrap_id (by omega) (by omega)
    have hir : irW c w = if inR (numI (Lib.cut w [42]).1).1 0 10000 = true ∧ inR (timesI (Lib.cut w [42]).2.1) 1 (360 - c.length) = true then some (c ++ List.replicate (timesI (Lib.cut w [42]).2.1).toNat (numI (Lib.cut w [42]).1).1) else none := rfl
    dsimp only
    refine Round.yes (decide_eq_true (by rw [hlm]; exact i1)) (Round.at hvi (Round.bind hC (Round.bind (e101_2 _ (by omega)) (Round.bind (e101_2 _ (by omega)) ?_))))
    have both : ∀ (t : Int), t = timesI (Lib.cut w [42]).2.1 → inR (numI (Lib.cut w [42]).1).1 0 10000 = true → inR t 1 (360 - (c.length : Int)) = true → 0 ≤ (numI (Lib.cut w [42]).1).1 ∧ (numI (Lib.cut w [42]).1).1 ≤ 10000 ∧ 1 ≤ t ∧ t ≤ 360 - (c.length : Int) ∧ wr .i16 (numI (Lib.cut w [42]).1).1 = (numI (Lib.cut w [42]).1).1 ∧ irW c w = some (c ++ List.replicate t.toNat (numI (Lib.cut w [42]).1).1) := fun t ht h1 h2 => by
      have e1 := inR_iff.1 h1
      have e2 := inR_iff.1 h2
      exact ⟨e1.1, e1.2, e2.1, e2.2, wrap16 (by omega) (by omega), by rw [hir, ← ht, if_pos ⟨h1, h2⟩]⟩
    have h360 := e103
    by_cases c2 : (numI (Lib.cut w [42]).2.1).2 = true
    · have ht : (numI (Lib.cut w [42]).2.1).1 = timesI (Lib.cut w [42]).2.1 := by unfold timesI; rw [if_pos c2]
      refine Round.no (by simp [c2]) (Round.bind (e102 _) ?_)
      by_cases c3 : inR (numI (Lib.cut w [42]).1).1 0 10000 = true
      case neg => exact Round.yes (by simpa using c3) (Round.done (bad (by rw [hir, if_neg (fun h => c3 h.1)]) (Evt.some _)))
      refine Round.no (by simp [c3]) (Round.bind (e113 c) ?_)
      rw [hs360]
      refine Round.bind (e103 _ _ _) ?_
      by_cases c4 : inR (numI (Lib.cut w [42]).2.1).1 1 (360 - (c.length : Int)) = true
      case neg => exact Round.yes (by simpa using c4) (Round.done (bad (by rw [hir, ← ht, if_neg (fun h => c4 h.2)]) (Evt.some _)))
      obtain ⟨d0, d1, d2, d3, d4, d5⟩ := both _ ht c3 c4
      refine Round.no (by simp [c4]) ?_
      rw [d4]
      have dk : (numI (Lib.cut w [42]).2.1).1 ≤ 360 := by omega
      refine Round.bind (e167 _ _ d2 dk) (Round.chk (decide_eq_true (by simp; omega)) (Round.again _ ⟨_, ?_, good _ d5⟩))
      rw [hws]
    · have ht : (1 : Int) = timesI (Lib.cut w [42]).2.1 := by unfold timesI; rw [if_neg c2]
      refine Round.yes (by simp [c2]) (Round.bind (e102 _) ?_)
      by_cases c3 : inR (numI (Lib.cut w [42]).1).1 0 10000 = true
      case neg => exact Round.yes (by simpa using c3) (Round.done (bad (by rw [hir, if_neg (fun h => c3 h.1)]) (Evt.some _)))
      refine Round.no (by simp [c3]) (Round.bind (e113 c) ?_)
      rw [hs360]
      refine Round.bind (e103 _ _ _) ?_
      by_cases c4 : inR 1 1 (360 - (c.length : Int)) = true
      case neg => exact Round.yes (by simpa using c4) (Round.done (bad (by rw [hir, ← ht, if_neg (fun h => c4 h.2)]) (Evt.some _)))
      obtain ⟨d0, d1, d2, d3, d4, d5⟩ := both _ ht c3 c4
      refine Round.no (by simp [c4]) ?_
      rw [d4]
      refine Round.bind (e167 _ _ d2 (by omega)) (Round.chk (decide_eq_true (by simp; omega)) (Round.again _ ⟨_, ?_, good _ d5⟩))
      rw [hws]
  · intro c hL
    rw [Int.toNat_natCast, List.take_length] at hL
    have G := irW_fold _ good0 hL
    have hr := G.rng
    have hg := G.1
    rw [hL] at hrd
    simp only at hrd
    dsimp only
    refine Round.no (by rw [hlm]; simp) (Round.bind (e39 c (by omega)) ?_)
    cases ho : okC c with
    | false =>
      rw [hrd, if_neg (fun h => by rw [ho] at h; cases h.1)]
      exact Round.yes rfl (Round.done (Evt.some _))
    | true =>
      have hct : camT c = tx (camJ c) := if_pos ho
      have hcl := okC_len ho
      refine Round.no (by simp) (Round.bind (e89 c hr) ?_)
      rw [hct]
      simp only [tx_toList]
      by_cases hq : camJ c = l
      · have e9 : rdC l = (c, 0) := by rw [hrd, if_pos ⟨ho, hq⟩]
        rw [e9, hq]
        exact Round.no (by simp) (Round.bind (e74 c (by omega) (by omega)) (Round.done (Evt.some _)))
      · have e9 : rdC l = ([], 5) := by rw [hrd, if_neg (fun h => hq h.2)]
        rw [e9]
        exact Round.yes (by simpa using hq) (Round.done (Evt.some _))
/- impl.ReadMachine -/
theorem e23 {m : Mch} (D : DrM m) : Evt (fun n => call T C n 23 (mtR m, ())) ((m, 0, ()), ()) := by
  have hmt : mtR m = tx (machL m) := if_pos D.ok
  have hT := e24 m D.rng
  rw [hmt] at hT ⊢
  have hV := e64 m D.rng
  rw [D.ok] at hV
  have G := D.good
  have R := D.rng
  obtain ⟨lx, ly, lp, lm⟩ := mach_len D
  have hS := e85_2 (machL m) (by omega)
  rw [splitN3_mach] at hS
  refine Evt.next (Evt.bind hS ?_) (fun n => r23 n (tx (machL m)))
  have c32 : (⟨#[32]⟩ : ByteArray) = tx [32] := rfl
  have c10 : (⟨#[10]⟩ : ByteArray) = tx [10] := rfl
  have hC1 : Lib.cut (120 :: 32 :: camJ m.1 : List UInt8) [32] = ([120], camJ m.1, true) := cut_hit (w := [120]) (by decide) _
  have hC2 : Lib.cut (121 :: 32 :: camJ m.2.1 : List UInt8) [32] = ([121], camJ m.2.1, true) := cut_hit (w := [121]) (by decide) _
  have hC3 : Lib.cut (112 :: 101 :: 110 :: 32 :: camJ m.2.2.1 : List UInt8) [32] = ([112, 101, 110], camJ m.2.2.1, true) := cut_hit (w := [112, 101, 110]) (by decide) _
  have n1 : (10 : UInt8) ∉ (120 :: 32 :: camJ m.1 : List UInt8) := by
    have := camJ_no10 m.1
    simp [this]
  have n2 : (10 : UInt8) ∉ (121 :: 32 :: camJ m.2.1 : List UInt8) := by
    have := camJ_no10 m.2.1
    simp [this]
  have hT1 := e87 (120 :: 32 :: camJ m.1) [10] (by simp; omega)
  rw [trim_no n1] at hT1
  have hT2 := e87 (121 :: 32 :: camJ m.2.1) [10] (by simp; omega)
  rw [trim_no n2] at hT2
  have hT3 := e87 ((112 :: 101 :: 110 :: 32 :: camJ m.2.2.1) ++ [10]) [10] (by simp; omega)
  rw [trim_yes] at hT3
  have hU1 := e86 (120 :: 32 :: camJ m.1) [32] (by simp; omega)
  rw [hC1] at hU1
  have hU2 := e86 (121 :: 32 :: camJ m.2.1) [32] (by simp; omega)
  rw [hC2] at hU2
  have hU3 := e86 (112 :: 101 :: 110 :: 32 :: camJ m.2.2.1) [32] (by simp; omega)
  rw [hC3] at hU3
  have hR1 := e88 (camJ m.1) (by omega)
  rw [rdC_text R.x G.x] at hR1
  have hR2 := e88 (camJ m.2.1) (by omega)
  rw [rdC_text R.y G.y] at hR2
  have hR3 := e88 (camJ m.2.2.1) (by omega)
  rw [rdC_text R.p G.p] at hR3
  dsimp only
  refine for_evt' 0 3 (fun i (_ : Unit) => (tx (machL m), ([], [], [], ()), (if i = 0 then [[], [], []] else if i = 1 then [m.1, [], []] else if i = 2 then [m.1, m.2.1, []] else [m.1, m.2.1, m.2.2.1]), [tx (120 :: 32 :: camJ m.1), tx (121 :: 32 :: camJ m.2.1), tx ((112 :: 101 :: 110 :: 32 :: camJ m.2.2.1) ++ [10])], (3 : Int), i, ())) (fun _ _ => True) (b0 := ()) rfl (by omega) trivial ?_ ?_
  · intro i _ i0 i1 _
    have hc : i = 0 ∨ i = 1 ∨ i = 2 := by omega
    rcases hc with rfl | rfl | rfl
    · refine Round.yes rfl (Round.at (v := tx (120 :: 32 :: camJ m.1)) rfl (Round.bind hT1 (Round.bind hU1 (Round.bind hR1 (Round.chk rfl (Round.at (v := ([] : List Int)) rfl (Round.again _ ⟨(), rfl, trivial⟩)))))))
    · refine Round.yes rfl (Round.at (v := tx (121 :: 32 :: camJ m.2.1)) rfl (Round.bind hT2 (Round.bind hU2 (Round.bind hR2 (Round.chk rfl (Round.at (v := ([] : List Int)) rfl (Round.again _ ⟨(), rfl, trivial⟩)))))))
    · refine Round.yes rfl (Round.at (v := tx ((112 :: 101 :: 110 :: 32 :: camJ m.2.2.1) ++ [10])) rfl (Round.bind hT3 (Round.bind hU3 (Round.bind hR3 (Round.chk rfl (Round.at (v := ([] : List Int)) rfl (Round.again _ ⟨(), rfl, trivial⟩)))))))
  · intro _ _
    refine Round.no (by simp) (Round.chk rfl (Round.at (v := m.1) rfl (Round.chk rfl (Round.at (v := m.2.1) rfl (Round.chk rfl (Round.at (v := m.2.2.1) rfl (Round.bind hV (Round.no (by simp) (Round.bind hT (Round.no (by simp) (Round.done (Evt.some _))))))))))))
/- strconv.FormatUint -/
theorem e170 {u : Nat} (h : u < 18446744073709551616) : Evt (fun n => call T C n 170 ((u : Int), (16 : Int), ())) ((tx (hexD u), ()), ()) := by
  refine Evt.next ?_ (fun n => r170 n (u : Int) 16)
  dsimp only
  rw [if_pos ⟨by omega, by omega, rfl⟩, Int.toNat_natCast]
  exact Evt.some _
/- strings.Repeat -/
theorem e171 {k : Nat} (h : k ≤ 15) : Evt (fun n => call T C n 171 (tx [48], (k : Int), ())) ((tx (List.replicate k 48), ()), ()) := by
  refine Evt.next ?_ (fun n => r171 n (tx [48]) (k : Int))
  dsimp only
  rw [if_pos ⟨rfl, by omega, by omega⟩, Int.toNat_natCast]
  exact Evt.some _
/- impl.hex -/
theorem e93 {u : Nat} (h : u < 18446744073709551616) : Evt (fun n => call T C n 93 ((u : Int), ())) ((tx (hxN 16 u), ()), ()) := by
  obtain ⟨h1, h2⟩ := hex16 h
  have hpos : 1 ≤ (hexD u).length := by
    by_cases hu : u < 16
    · rw [hexD_lt hu]; simp
    · rw [hexD_ge (by omega)]; simp
  have c48 : (⟨#[48]⟩ : ByteArray) = tx [48] := rfl
  refine Evt.next (Evt.bind (e170 h) ?_) (fun n => r93 n (u : Int))
  have hw : wr .i64 ((16 : Int) - ((tx (hexD u)).size : Int)) = ((16 - (hexD u).length : Nat) : Int) := by
    rw [tx_size, wrap_id (by omega) (by omega)]; omega
  simp only [hw, c48]
  refine Evt.bind (e171 (k := 16 - (hexD u).length) (by omega)) ?_
  simp only [tx_app]
  rw [h2]
  exact Evt.chk (szT (by simp; omega) (by omega)) (Evt.some _)
/- (*strings.Builder).WriteString -/
theorem e92 (x s : List UInt8) (h : x.length + s.length ≤ 1000000000) : Evt (fun n => call T C n 92 (tx x, tx s, ())) ((((s.length : Nat) : Int), false, ()), (tx (x ++ s), ())) := by
  refine Evt.next ?_ (fun n => r92 n (tx x) (tx s))
  dsimp only
  rw [if_pos (by rw [tx_size, tx_size]; omega), tx_app, tx_size]
  exact Evt.some _
/- (*strings.Builder).String -/
theorem e94 (x : ByteArray) : Evt (fun n => call T C n 94 (x, ())) ((x, ()), ()) :=
  Evt.next (Evt.some _) (fun n => r94 n x)
/- impl.PlateText -/
theorem e26 {p : List Int} (hp : p.length = 64) (hb : ∀ v ∈ p, 0 ≤ v ∧ v < 18446744073709551616) : Evt (fun n => call T C n 26 (p, ())) ((tx (plT p), ()), ()) := by
  have c10 : (⟨#[10]⟩ : ByteArray) = tx [10] := rfl
  refine Evt.next ?_ (fun n => r26 n p)
  refine for_evt' 0 64 (fun i (_ : Unit) => (tx (plT (p.take i.toNat)), p, i, ())) (fun _ _ => True) (b0 := ()) rfl (by omega) trivial ?_ ?_
  · intro i _ i0 i1 _
    obtain ⟨v, hv⟩ := at_of (l := p) i0 (by omega)
    have vb := hb v hv.mem
    have hl := plT_len (p.take i.toNat)
    have htl : (p.take i.toNat).length ≤ 64 := by rw [List.length_take]; omega
    obtain ⟨u, rfl⟩ := Int.eq_ofNat_of_zero_le vb.1
    have hx := e93 (u := u) (by omega)
    have hxl := hxN_len 16 u
    dsimp only
    refine Round.yes (decide_eq_true i1) (Round.at hv.idx (Round.bind hx ?_))
    simp only [c10, tx_app]
    refine Round.chk (szT (by omega) (by simp)) (Round.bind (e92 _ _ (by rw [List.length_append, hxl, hl]; simp; omega)) (Round.again _ ⟨(), ?_, trivial⟩))
    rw [hv.take, plT_snoc, wr_succ i0 i1 (by omega), Int.toNat_natCast]
  · intro _ _
    dsimp only
    rw [List.take_of_length_le (by omega)]
    exact Round.no (by simp) (Round.bind (e94 _) (Round.done (Evt.some _)))
/- strconv.ParseUint -/
theorem e168 (l : List UInt8) (hl : l.length ≤ 10000000) : Evt (fun n => call T C n 168 (tx l, (16 : Int), (64 : Int), ())) ((((puT l).1 : Int), decide ((puT l).2 ≠ 0), ()), ()) := by
  refine Evt.next ?_ (fun n => r168 n (tx l) 16 64)
  dsimp only
  rw [if_pos ⟨by rw [tx_size]; omega, rfl, rfl⟩]
  exact Evt.some _
/- impl.unhex -/
theorem e91 (l : List UInt8) (hl : l.length ≤ 10000000) : Evt (fun n => call T C n 91 (tx l, ())) ((uhx l, ()), ()) := by
  refine Evt.next (Evt.bind (e168 l hl) (Evt.chk rfl ?_)) (fun n => r91 n (tx l))
  dsimp only
  unfold uhx
  by_cases h : (puT l).2 = 0
  · rw [if_pos h]
    exact Evt.no (by simp [h]) (Evt.some _)
  · rw [if_neg h]
    exact Evt.yes (by simp [h]) (Evt.some _)
/- impl.ReadPlate -/
theorem e25 (l : List UInt8) (hl : l.length ≤ 1048576) : Evt (fun n => call T C n 25 (tx l, ())) (((rpP l).1, (rpP l).2, ()), ()) := by
  refine Evt.next (Evt.bind (e90_2 10 l (by omega)) ?_) (fun n => r25 n (tx l))
  have hwl : ∀ w ∈ splitC 10 l, w.length ≤ l.length := fun w hw => splitC_wlen w hw
  have hsl := splitC_len 10 l
  have hlm : ((splitC 10 l).map tx).length = (splitC 10 l).length := by simp
  dsimp only
  refine for_evt' 0 ((splitC 10 l).length : Int) (fun i (_ : Unit) => (tx l, List.replicate 64 (0 : Int), ipS l i.toNat, (splitC 10 l).map tx, (((splitC 10 l).map tx).length : Int), i, ())) (fun _ _ => True) (b0 := ()) (by rw [show (0 : Int).toNat = 0 from rfl, ipS_zero]) (by omega) trivial ?_ ?_
  · intro i _ i0 i1 _
    obtain ⟨i, rfl⟩ := Int.eq_ofNat_of_zero_le i0
    have hil : i < (splitC 10 l).length := by omega
    obtain ⟨w, hw⟩ : ∃ w, (splitC 10 l)[i]? = some w := ⟨_, List.getElem?_eq_getElem hil⟩
    have hwm := List.mem_of_getElem? hw
    have hvi : idx ((splitC 10 l).map tx) (i : Int) = some (tx w) := by
      unfold idx
      rw [if_pos (by omega), Int.toNat_natCast, List.getElem?_map, hw]
      rfl
    have hws := wr_succ (i := (i : Int)) i0 i1 (by omega)
    have hsi := ipS_len l i
    dsimp only
    refine Round.yes (decide_eq_true (by rw [hlm]; exact i1)) (Round.at hvi ?_)
    rw [Int.toNat_natCast]
    by_cases h64 : i < 64
    · refine Round.yes (decide_eq_true (by omega)) (Round.bind (e91 w (by have := hwl w hwm; omega)) (Round.chk (decide_eq_true (by omega)) ?_))
      obtain ⟨v, hv⟩ : ∃ v, (ipS l i)[i]? = some v := ⟨_, List.getElem?_eq_getElem (by omega)⟩
      simp only [hv, Option.bind_some]
      refine Round.again _ ⟨(), ?_, trivial⟩
      rw [hws, show ((i : Int) + 1).toNat = i + 1 by omega, ipS_set l hw h64]
    · refine Round.no (by simp; omega) (Round.again _ ⟨(), ?_, trivial⟩)
      rw [hws, show ((i : Int) + 1).toNat = i + 1 by omega, ipS_over l (by omega)]
  · intro _ _
    rw [Int.toNat_natCast, ipS_all l (Nat.le_refl _)]
    dsimp only
    refine Round.no (by rw [hlm]; simp) (Round.bind (e26 (ipP_len l) (ipP_bd l)) ?_)
    rw [rpP_impl]
    simp only [tx_toList]
    by_cases h : plT (ipP l) = l
    · rw [if_pos h]
      exact Round.no (by simp [h]) (Round.done (Evt.some _))
    · rw [if_neg h]
      exact Round.yes (by simpa using h) (Round.done (Evt.some _))
/- slices.Equal[impl.Cam,int16] -/
theorem e95 (a b : List Int) (hl : (a.length : Int) ≤ 1000000) : Evt (fun n => call T C n 95 (a, b, ())) ((decide (a = b), ()), ()) := by
  by_cases hlen : a.length = b.length
  · refine Evt.next (Evt.no (by simp [hlen]) ?_) (fun n => r95 n a b)
    refine for_evt' 0 (a.length : Int) (fun i (_ : Unit) => (a, b, (a.length : Int), i, ())) (fun i _ => a.take i.toNat = b.take i.toNat) (b0 := ()) rfl (by omega) (by simp) ?_ ?_
    · intro i _ h2 h3 he
      obtain ⟨u, hu⟩ := at_of h2 h3
      obtain ⟨v, hv⟩ := at_of (l := b) h2 (by omega)
      refine Round.yes (decide_eq_true h3) (Round.at hu.idx (Round.at hv.idx (Round.ite (fun h => ?_) (fun h => ?_))))
      · have h : u ≠ v := by simpa using h
        have : a ≠ b := fun e => by
          subst e
          have := hu.get.symm.trans hv.get
          exact h (Option.some.inj this)
        rw [decide_eq_false this]
        exact Round.done (Evt.some _)
      · have h : u = v := by simpa using h
        exact Round.again _ ⟨(), by rw [wr_succ h2 h3 (by omega)], by rw [hu.take, hv.take, he, h]⟩
    · intro _ he
      have he : a = b := by rwa [take_all, hlen, take_all] at he
      rw [decide_eq_true he]
      exact Round.no (by simp) (Round.done (Evt.some _))
  · have : a ≠ b := fun e => hlen (by rw [e])
    rw [decide_eq_false this]
    exact Evt.next (Evt.yes (by simp; omega) (Evt.some _)) (fun n => r95 n a b)
/- impl.SameMachine -/
theorem e27 {m : Mch} (D : DrM m) : Evt (fun n => call T C n 27 (m, m, ())) ((true, ()), ()) := by
  have l1 := D.len
  have l2 := D.ly
  have l3 := D.lp
  refine Evt.next (Evt.bind (e95 m.1 m.1 (by omega)) (Evt.yes (by simp) (Evt.bind (e95 m.2.1 m.2.1 (by omega)) (Evt.yes (by simp) (Evt.bind (e95 m.2.2.1 m.2.2.1 (by omega)) ((Evt.some ((true, ()), ())).of_eq fun n => by simp)))))) (fun n => r27 n m m)
/- laws.FnMachines -/
theorem e3 (x y : List Int) (hd : DomA (C 3).params (x, y, ())) : Evt (fun n => call T C n 3 (x, y, ())) ((true, ()), ()) := by
  have hx : ∀ v ∈ x, 0 ≤ v ∧ v ≤ 255 := byte_of hd.1
  have hy : ∀ v ∈ y, 0 ≤ v ∧ v ≤ 255 := byte_of hd.2.1
  refine Evt.next (Evt.bind (e6 x) (Evt.ite (fun _ => Evt.some _) (fun hx2 => Evt.bind (e6 y) (Evt.ite (fun _ => Evt.some _) (fun hy2 => ?_))))) (fun n => r3 n x y)
  have hx2 : ¬ (x.length : Int) > 4096 := by simpa using hx2
  have hy2 : ¬ (y.length : Int) > 4096 := by simpa using hy2
  obtain ⟨m, hM, D⟩ := e7 hx (by omega)
  obtain ⟨o, hO, E⟩ := e7 hy (by omega)
  have l1 := D.len
  have l2 := D.ly
  have l3 := D.lp
  have k1 := E.len
  have k2 := E.ly
  have k3 := E.lp
  obtain ⟨v, hPv, v0, v1⟩ := e11 hy (by omega) (m := 40) (by omega) (by omega)
  have wv : wr .i64 (v - 20) = v - 20 := wrap_id (by omega) (by omega)
  have hD1 := e8 m D.rng
  have hD2 := e9 m D.rng
  rw [D.dm] at hD1 hD2
  have hTn := e10 m D.rng (v - 20)
  have eTn : tnR m (v - 20) = (tnM m (v - 20), 0, ()) := by
    have hin : inR (v - 20) (-1000000) 1000000 = true := inR_iff.2 ⟨by omega, by omega⟩
    unfold tnR
    rw [D.ok, if_neg (by simp), hin, if_neg (by simp)]
  rw [eTn] at hTn
  have DT := tnM_dr D (v - 20)
  have hD3 := e8 (tnM m (v - 20)) DT.rng
  rw [DT.dm, tnM_draws D] at hD3
  have hB1 := e12 D
  have hB2 := e12 (bkM_dr D)
  rw [bkM_bkM D] at hB2
  have DF := flM_dr D
  have hF1 := e13 D
  have hF2 := e13 DF
  have eff : flM (flM m) = m := rfl
  rw [eff] at hF2
  have hD4 := e8 (flM m) DF.rng
  rw [DF.dm] at hD4
  have hSm := e14 m (by omega) (by omega) (by omega)
  have hfl := flM_mks D
  have hpl : ∀ L : List Mk, plt L = tb 64 (fun j => ((mkN (fun x : Nat => decide ([(x : Int), (j : Int)] ∈ L)) 64 : Nat) : Int)) := fun _ => rfl
  have hCk : ∀ L : List Mk, Evt (fun n => call T C n 15 (plt L, ())) ((((tot (fun j => mkN (fun x : Nat => decide ([(x : Int), (j : Int)] ∈ L)) 64) 64 : Nat) : Int), ()), ()) := fun L => by
    rw [hpl]
    exact e15 fun j _ => row_lt _
  have hPb : ∀ w ∈ plt (mks m m.1.length), 0 ≤ w ∧ w < 18446744073709551616 := fun w hw => by
    obtain ⟨j, _, rfl⟩ := tb_mem hw
    have := row_lt (fun x : Nat => decide ([(x : Int), (j : Int)] ∈ mks m m.1.length))
    unfold row
    omega
  have hPl : (plt (mks m m.1.length)).length = 64 := tb_len _ _
  have hHk := fun (L : List Mk) (x y : Nat) (hx : x < 64) (hy : y < 64) => e16 L hx hy
  have hPT := e26 hPl hPb
  have hRP := e25 (plT (plt (mks m m.1.length))) (by rw [plT_len, hPl]; omega)
  have eRP : rpP (plT (plt (mks m m.1.length))) = (plt (mks m m.1.length), 0) := by
    unfold rpP
    rw [(rdP_text hPl hPb).1]
  rw [eRP] at hRP
  have hC1 := hCk (mks (flM m) (flM m).1.length)
  have hC2 := hCk (mks m m.1.length)
  have etot : tot (fun j => mkN (fun x : Nat => decide ([(x : Int), (j : Int)] ∈ mks (flM m) (flM m).1.length)) 64) 64 = tot (fun j => mkN (fun x : Nat => decide ([(x : Int), (j : Int)] ∈ mks m m.1.length)) 64) 64 := by
    have e : (fun j : Nat => mkN (fun x : Nat => decide ([(x : Int), (j : Int)] ∈ mks (flM m) (flM m).1.length)) 64) = fun j : Nat => mkN (fun x : Nat => decide ([(j : Int), (x : Int)] ∈ mks m m.1.length)) 64 := by
      funext j
      refine mkN_congr fun x _ => ?_
      rw [decide_eq_decide]
      exact hfl _ _
    rw [e]
    exact (tot_swap fun y x => decide ([(x : Int), (y : Int)] ∈ mks m m.1.length)).symm
  rw [etot] at hC1
  generalize tot (fun j => mkN (fun x : Nat => decide ([(x : Int), (j : Int)] ∈ mks m m.1.length)) 64) 64 = tt at hC1 hC2
  generalize hL1 : mks (flM m) (flM m).1.length = L1 at *
  generalize hL2 : mks m m.1.length = L2 at *
  have hH1 := hHk L1
  have hH2 := hHk L2
  clear hpl hCk etot hHk
  generalize plt L1 = Q at *
  generalize plt L2 = P at *
  refine Evt.bind hM (Evt.bind hO (Evt.bind hD1 (Evt.bind hD2 (Evt.bind hPv ?_))))
  dsimp only
  rw [wv]
  refine Evt.bind hTn (Evt.bind hD3 (Evt.bind hB1 (Evt.bind hB2 (Evt.bind hF1 (Evt.bind hF2 (Evt.bind hD4 ?_))))))
  refine Evt.no (by simp) (Evt.no (by simp) (Evt.no (by simp) (Evt.no (by simp) (Evt.no (by simp) (Evt.no (by simp) (Evt.no (by simp) (Evt.no (by simp) (Evt.bind hSm (Evt.no (by simp) (Evt.no (by simp) (Evt.no (by simp) (Evt.bind hSm (Evt.no (by simp) (Evt.no (by simp) (Evt.bind hC1 (Evt.bind hC2 (Evt.no (by simp) ?_)))))))))))))))))
  dsimp only
  refine for_evt' 0 64 (fun yy (_ : Unit) => (m, o, P, Q, yy, ())) (fun _ _ => True) (b0 := ()) rfl (by omega) trivial ?_ ?_
  · intro yy _ y0 y1 _
    obtain ⟨yy, rfl⟩ := Int.eq_ofNat_of_zero_le y0
    have wy : wr .i16 ((yy : Int) + 1) = (yy : Int) + 1 := wr16_id (by omega) (by omega)
    dsimp only
    refine Round.yes (decide_eq_true y1) ?_
    refine for_round' 0 64 (fun xx (_ : Unit) => (m, o, P, Q, (yy : Int), xx, ())) (fun _ _ => True) (b0 := ()) rfl (by omega) trivial ?_ ?_
    · intro xx _ x0 x1 _
      obtain ⟨xx, rfl⟩ := Int.eq_ofNat_of_zero_le x0
      have wx : wr .i16 ((xx : Int) + 1) = (xx : Int) + 1 := wr16_id (by omega) (by omega)
      have e1 := hH1 yy xx (by omega) (by omega)
      have e2 := hH2 xx yy (by omega) (by omega)
      have e3 : decide ([(yy : Int), (xx : Int)] ∈ L1) = decide ([(xx : Int), (yy : Int)] ∈ L2) := by
        rw [decide_eq_decide]
        exact hfl _ _
      rw [e3] at e1
      dsimp only
      refine Round.yes (decide_eq_true x1) (Round.at (v := (0 : Int)) rfl (Round.at (v := (0 : Int)) rfl (Round.bind e1 (Round.at (v := (0 : Int)) rfl (Round.at (v := (0 : Int)) rfl (Round.bind e2 (Round.no (by simp) (Round.inr _ ⟨(), ?_, trivial⟩))))))))
      rw [wx]
    · intro _ _
      refine Round.no (by simp) (Round.inl _ ⟨(), ?_, trivial⟩)
      rw [wy]
  intro _ _
  have hBi := e17 m o D.rng E.rng
  have hBs := e18 m o D.rng E.rng
  have eB : btR m o = (btM m o, 0, ()) := by
    unfold btR
    rw [D.ok, E.ok, if_neg (by simp), if_neg (by simp), if_neg (by omega)]
  rw [eB] at hBi hBs
  obtain ⟨B, eBm⟩ : ∃ B, B = btM m o := ⟨_, rfl⟩
  have hst := btM_stops D E
  have lB1 : B.1.length = m.1.length + o.1.length + 2 := by rw [eBm]; exact thenL_len _ _ _ _
  have lB2 : B.2.1.length = m.2.1.length + o.2.1.length + 2 := by rw [eBm]; exact thenL_len _ _ _ _
  have lB3 : B.2.2.1.length = m.2.2.1.length + o.2.2.1.length + 2 := by rw [eBm]; exact thenL_len _ _ _ _
  have hmemT : ∀ (a b : List Int) (c d : Int) (lo hi : Int), (∀ v ∈ a, lo ≤ v ∧ v ≤ hi) → (∀ v ∈ b, lo ≤ v ∧ v ≤ hi) → (lo ≤ c ∧ c ≤ hi) → (lo ≤ d ∧ d ≤ hi) → ∀ v ∈ thenL a b c d, lo ≤ v ∧ v ≤ hi := fun a b c d lo hi h1 h2 h3 h4 v hv => by
    unfold thenL at hv
    simp only [List.mem_append, List.mem_singleton] at hv
    rcases hv with ((hv | hv) | hv) | hv
    · exact h1 v hv
    · rw [hv]; exact h3
    · exact h2 v hv
    · rw [hv]; exact h4
  have lstb : ∀ (l : List Int) (lo hi : Int), 0 < l.length → (∀ v ∈ l, lo ≤ v ∧ v ≤ hi) → lo ≤ lst l ∧ lst l ≤ hi := fun l lo hi h0 hb => hb _ (lst_at (by omega)).mem
  have bX : ∀ v ∈ B.1, 0 ≤ v ∧ v ≤ 63 := by rw [eBm]; exact hmemT _ _ _ _ 0 63 D.x E.x (lstb _ 0 63 (by omega) D.x) (lstb _ 0 63 (by omega) E.x)
  have bY : ∀ v ∈ B.2.1, 0 ≤ v ∧ v ≤ 63 := by rw [eBm]; exact hmemT _ _ _ _ 0 63 D.y E.y (lstb _ 0 63 (by omega) D.y) (lstb _ 0 63 (by omega) E.y)
  have bP : ∀ v ∈ B.2.2.1, 0 ≤ v ∧ v ≤ 1 := by rw [eBm]; exact hmemT _ _ _ _ 0 1 D.p E.p (by omega) (by omega)
  have okB : okM B = true := okM_of (by omega) (by omega) (by omega) bX bY bP
  have rgB : RngM B := rngM_of' (by omega) (by omega) (by omega) bX bY bP
  rw [← eBm] at hBi hBs hst
  have hSB := e20 rgB okB
  rw [hst] at hSB
  have hS1 := e19 D.rng D.ok
  have hS2 := e19 E.rng E.ok
  have lA : (stopsM m).length = m.1.length := by simp [stopsM]
  have lC : (stopsM o).length = o.1.length := by simp [stopsM]
  have hat := fun {i : Nat} (h : i < m.1.length) => stopsM_at m h
  have hPn := e22 D
  have hpn : ∀ i, pnS m (i + 1) = if dnB m i = true then ((pnS m i).1 + 1, if dnB m ((i + m.1.length - 1) % m.1.length) = true then (pnS m i).2 else (pnS m i).2 + 1) else pnS m i := fun _ => rfl
  have hdn : ∀ i, dnB m i = (stopM m i).2.1 := fun _ => rfl
  have hpl := pnS_le m
  have hMT := e24 m D.rng
  have hRM := e23 D
  have hIM := e27 D
  have u1 : (upM m).2.1 = false := rfl
  have u2 : (upM o).2.1 = false := rfl
  generalize upM m = U1 at *
  generalize upM o = U2 at *
  generalize hA : stopsM m = A at *
  generalize stopsM o = Bo at *
  have lAll : (A ++ (U1 :: (Bo ++ [U2]))).length = A.length + Bo.length + 2 := by simp; omega
  have w1 : wr .i64 (wr .i64 ((A.length : Int) + (Bo.length : Int)) + 2) = ((A.length + Bo.length + 2 : Nat) : Int) := by rw [wrap_id (x := (A.length : Int) + (Bo.length : Int)) (by omega) (by omega), wrap_id (by omega) (by omega)]; omega
  have w2 : wr .i64 ((A.length : Int) + 1) = ((A.length + 1 : Nat) : Int) := by rw [wrap_id (by omega) (by omega)]; omega
  have w3 : wr .i64 (((A.length + 1 : Nat) : Int) + (Bo.length : Int)) = ((A.length + 1 + Bo.length : Nat) : Int) := by rw [wrap_id (by omega) (by omega)]; omega
  have t1 : ((A ++ (U1 :: (Bo ++ [U2]))).take (Int.toNat (A.length : Int))).drop (Int.toNat (0 : Int)) = A := by
    rw [Int.toNat_natCast, List.take_left' rfl]
    rfl
  have t2 : ((A ++ (U1 :: (Bo ++ [U2]))).take (Int.toNat ((A.length + 1 + Bo.length : Nat) : Int))).drop (Int.toNat ((A.length + 1 : Nat) : Int)) = Bo := by
    rw [Int.toNat_natCast, Int.toNat_natCast]
    have e : A ++ (U1 :: (Bo ++ [U2])) = (A ++ [U1] ++ Bo) ++ [U2] := by simp
    rw [e, List.take_left' (by simp only [List.length_append, List.length_singleton]), List.drop_left' (by simp only [List.length_append, List.length_singleton])]
  have i1 : idx (A ++ (U1 :: (Bo ++ [U2]))) (A.length : Int) = some U1 := by
    unfold idx
    rw [if_pos (by omega), Int.toNat_natCast, List.getElem?_append_right (by omega), Nat.sub_self]
    rfl
  have i2 : idx (A ++ (U1 :: (Bo ++ [U2]))) (wr .i64 (((A ++ (U1 :: (Bo ++ [U2]))).length : Int) - 1)) = some U2 := by
    rw [lAll, wrap_id (by omega) (by omega)]
    unfold idx
    rw [if_pos (by omega), show (((A.length + Bo.length + 2 : Nat) : Int) - 1).toNat = A.length + Bo.length + 1 by omega]
    have e : A ++ (U1 :: (Bo ++ [U2])) = (A ++ [U1] ++ Bo) ++ [U2] := by simp
    have e2 : (A ++ [U1] ++ Bo).length = A.length + Bo.length + 1 := by simp only [List.length_append, List.length_singleton]; omega
    rw [e, List.getElem?_append_right (by omega), e2, Nat.sub_self]
    rfl
  have hSS1 := e21 A (by omega)
  have hSS2 := e21 Bo (by omega)
  have hsB := e14 B (by omega) (by omega) (by omega)
  dsimp only
  refine Round.no (by simp) (Round.bind hBi (Round.bind hBs (Round.bind hS1 (Round.bind hS2 (Round.bind hSB (Round.no (by simp) (Round.no (by simp) (Round.bind hsB (Round.no (by simp) (Round.no (by simp) (Round.no (by simp) (Round.no (by simp) ?_))))))))))))
  dsimp only
  rw [w1, w2, w3, t1, t2]
  refine Round.no (by rw [lAll]; simp) (Round.chk (decide_eq_true (by rw [lAll]; omega)) (Round.bind hSS1 (Round.no (by simp) (Round.chk (decide_eq_true (by rw [lAll]; omega)) (Round.bind hSS2 (Round.no (by simp) (Round.at i1 (Round.no (by rw [u1]; simp) (Round.at i2 (Round.no (by rw [u2]; simp) (Round.bind hPn (Round.done ?_))))))))))))
  dsimp only
  refine for_evt' 0 (m.1.length : Int) (fun i (_ : Unit) => (m, P, A, ((pnS m m.1.length).1 : Int), ((pnS m m.1.length).2 : Int), (0 : Int), ((pnS m i.toNat).1 : Int), ((pnS m i.toNat).2 : Int), i, ())) (fun _ _ => True) (b0 := ()) rfl (by omega) trivial ?_ ?_
  · intro i _ i0 i1 _
    obtain ⟨i, rfl⟩ := Int.eq_ofNat_of_zero_le i0
    have hi : i < m.1.length := by omega
    have hws := wr_succ (i := (i : Int)) i0 i1 (by omega)
    have hle := hpl i
    have hs := hpn i
    have a1 := (hat hi).idx
    have a2 := (hat (Nat.mod_lt (i + m.1.length - 1) (show 0 < m.1.length by omega))).idx
    have etm : Int.tmod (wr .i64 (wr .i64 ((i : Int) + (A.length : Int)) - 1)) (A.length : Int) = (((i + m.1.length - 1) % m.1.length : Nat) : Int) := by
      rw [lA, wrap_id (x := (i : Int) + (m.1.length : Int)) (by omega) (by omega), wrap_id (by omega) (by omega), Int.tmod_eq_emod_of_nonneg (by omega), Int.natCast_emod]
      congr 1
      omega
    rw [Int.toNat_natCast]
    rw [hdn, hdn] at hs
    generalize pnS m i = q at *
    obtain ⟨u, w⟩ := q
    simp only at hle hs
    dsimp only
    refine Round.yes (decide_eq_true (by omega)) (Round.at a1 ?_)
    cases hd : (stopM m i).2.1 with
    | false =>
      rw [hd, if_neg (by simp)] at hs
      refine Round.no (by simp) (Round.again _ ⟨(), ?_, trivial⟩)
      rw [hws, show ((i : Int) + 1).toNat = i + 1 by omega, hs]
    | true =>
      rw [hd, if_pos rfl] at hs
      refine Round.yes rfl (Round.chk (bne_iff_ne.2 (by omega)) ?_)
      rw [etm]
      refine Round.at a2 ?_
      cases he : (stopM m ((i + m.1.length - 1) % m.1.length)).2.1 with
      | false =>
        rw [he, if_neg (by simp)] at hs
        refine Round.yes (by simp) (Round.again _ ⟨(), ?_, trivial⟩)
        rw [hws, show ((i : Int) + 1).toNat = i + 1 by omega, hs, wrap_id (x := (u : Int) + 1) (by omega) (by omega), wrap_id (x := (w : Int) + 1) (by omega) (by omega)]
        rfl
      | true =>
        rw [he, if_pos rfl] at hs
        refine Round.no (by simp) (Round.again _ ⟨(), ?_, trivial⟩)
        rw [hws, show ((i : Int) + 1).toNat = i + 1 by omega, hs, wrap_id (x := (u : Int) + 1) (by omega) (by omega)]
        rfl
  · intro _ _
    rw [Int.toNat_natCast]
    dsimp only
    refine Round.no (by rw [lA]; simp) (Round.bind hMT (Round.bind hRM (Round.bind hPT (Round.bind hRP (Round.yes rfl (Round.yes (by simp) (Round.yes (by simp) (Round.yes rfl (Round.bind hSm (Round.yes rfl (Round.bind hIM (Round.yes rfl (Round.yes rfl (Round.done ((Evt.some ((true, ()), ())).of_eq fun n => by simp)))))))))))))))

end Go.Cams.YtipjblnjaicbfaaGreatDoorLMq
