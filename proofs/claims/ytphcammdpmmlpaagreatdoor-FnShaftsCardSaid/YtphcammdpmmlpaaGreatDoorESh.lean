/- What the functions that the law reaches come to. -/
import Derived.Test.YtphcammdpmmlpaaGreatDoorRSh
import Derived.Test.YtphcammdpmmlpaaGreatDoorPuAll
namespace Go.Cams.YtphcammdpmmlpaaGreatDoorLSh
open Go Go.Fw Go.Proofs Go.Proofs.YtphcammdpmmlpaaGreatDoor.LSh
/- laws.a2Long -/
theorem e8 (a b : List Int) : Evt (fun n => call T C n 8 (a, b, ())) ((decide ((a.length : Int) > 3000) || decide ((b.length : Int) > 3000), ()), ()) := by
  refine Evt.next ?_ (fun n => r8 n a b)
  cases decide ((a.length : Int) > 3000) with
  | true => exact Evt.yes rfl (Evt.some _)
  | false => exact Evt.no (by simp) (Evt.some _)
/- spec.l00From -/
theorem e97 (a : List Int) : Evt (fun n => call T C n 97 (a, ())) (((a, 0, 0, ()), ()), ()) := Evt.next (Evt.some _) (fun n => r97 n a)
/- (*spec.l00Src).next -/
theorem e226 {k : Int} {s : Src} (h : SrcAt k s) (hk : k ≤ 1000000000000) : ∃ (v : Int) (s' : Src), Evt (fun n => call T C n 226 (s, ())) ((v, ()), (s', ())) ∧ 0 ≤ v ∧ v ≤ 255 ∧ SrcAt (k + 1) s' := by
  obtain ⟨h1, h2, h3, h4⟩ := h
  have hw : wr .i64 (s.2.1 + 1) = s.2.1 + 1 := wrap_id (by omega) (by omega)
  by_cases hp : s.2.1 < (s.1.length : Int)
  · obtain ⟨v, hv⟩ := at_of h3 hp
    have hb := h1 v hv.mem
    have ev : wr .i64 v = v := wrap_id (by omega) (by omega)
    obtain ⟨z, hz⟩ : ∃ z, z = wr .u64 ((wr .u64 ((wr .u64 (s.2.2.1 * (6364136223846793005 : Int))) + (wr .u64 (wr .i64 v)))) + (1442695040888963407 : Int)) := ⟨_, rfl⟩
    refine ⟨v, (s.1, s.2.1 + 1, z, ()), Evt.next (Evt.yes (decide_eq_true hp) (Evt.at hv.idx (Evt.yes (decide_eq_true (by rw [hw]; omega)) ((Evt.some _).of_eq fun n => ?_)))) (fun n => r226 n s), hb.1, hb.2, h1, h2, by show 0 ≤ s.2.1 + 1; omega, by show s.2.1 + 1 ≤ k + 1; omega⟩
    rw [← hz, hw, ev]
    rfl
  · obtain ⟨z, hz⟩ : ∃ z, z = wr .u64 ((wr .u64 ((wr .u64 (s.2.2.1 * (6364136223846793005 : Int))) + (wr .u64 (0 : Int)))) + (1442695040888963407 : Int)) := ⟨_, rfl⟩
    have hzb : 0 ≤ z ∧ z < 18446744073709551616 := by rw [hz]; exact wrap_u64 _
    obtain ⟨y, rfl⟩ : ∃ y : Nat, z = y := ⟨z.toNat, by omega⟩
    have hval : wr .i64 (bitsI .and .u64 (shr_ .u64 (y : Int) (40 : Int)) (255 : Int)) = ((y / 2 ^ 40 % 256 : Nat) : Int) := by
      rw [show (40 : Int) = ((40 : Nat) : Int) from rfl, shr_nat (by omega), and_255 (Nat.lt_of_le_of_lt (Nat.div_le_self _ _) (by omega))]
      have := Nat.mod_lt (y / 2 ^ 40) (show 0 < 256 by omega)
      exact wrap_id (by omega) (by omega)
    have hm := Nat.mod_lt (y / 2 ^ 40) (show 0 < 256 by omega)
    refine ⟨((y / 2 ^ 40 % 256 : Nat) : Int), (s.1, s.2.1 + 1, (y : Int), ()), Evt.next (Evt.no (by simpa using hp) (Evt.no (by rw [hw]; simp; omega) (Evt.chk rfl ((Evt.some _).of_eq fun n => ?_)))) (fun n => r226 n s), by omega, by omega, h1, h2, by show 0 ≤ s.2.1 + 1; omega, by show s.2.1 + 1 ≤ k + 1; omega⟩
    rw [← hz, hw, hval]
    rfl
/- (*spec.l00Src).pick -/
theorem e143 {k : Int} {s : Src} (h : SrcAt k s) (hk : k ≤ 999999999000) {m : Int} (m1 : 1 ≤ m) (m2 : m ≤ 1000000) : ∃ (v : Int) (s' : Src), Evt (fun n => call T C n 143 (s, m, ())) ((v, ()), (s', ())) ∧ 0 ≤ v ∧ v < m ∧ SrcAt (k + 2) s' := by
  by_cases hm : m ≤ 1
  · exact ⟨0, s, Evt.next (Evt.yes (decide_eq_true hm) (Evt.some _)) (fun n => r143 n s m), by omega, by omega, h.mono (by omega)⟩
  · obtain ⟨v, s1, hE, v0, v1, hs1⟩ := e226 h (by omega)
    by_cases hb : m > 200
    · obtain ⟨u, s2, hE2, u0, u1, hs2⟩ := e226 hs1 (by omega)
      have hx : wr .i64 (wr .i64 (v * 256) + u) = v * 256 + u := by rw [wrap_id (x := v * 256) (by omega) (by omega), wrap_id (by omega) (by omega)]
      have ht0 := Int.tmod_nonneg m (show 0 ≤ v * 256 + u by omega)
      have ht1 := Int.tmod_lt_of_pos (v * 256 + u) (show 0 < m by omega)
      refine ⟨Int.tmod (v * 256 + u) m, s2, Evt.next (Evt.no (by simpa using hm) (Evt.bind hE (Evt.yes (decide_eq_true hb) (Evt.bind hE2 (Evt.chk (bne_pos (by omega)) ((Evt.some _).of_eq fun n => ?_)))))) (fun n => r143 n s m), ht0, ht1, hs2.mono (by omega)⟩
      rw [hx]
      rfl
    · have ht0 := Int.tmod_nonneg m v0
      have ht1 := Int.tmod_lt_of_pos v (show 0 < m by omega)
      exact ⟨Int.tmod v m, s1, Evt.next (Evt.no (by simpa using hm) (Evt.bind hE (Evt.no (by simpa using hb) (Evt.chk (bne_pos (by omega)) (Evt.some _))))) (fun n => r143 n s m), ht0, ht1, hs1.mono (by omega)⟩
/- (*spec.l00Src).among -/
theorem e215 {k : Int} {s : Src} (h : SrcAt k s) (hk : k ≤ 999999999000) {l : List Int} (l1 : 1 ≤ (l.length : Int)) (l2 : (l.length : Int) ≤ 1000000) : ∃ (v : Int) (s' : Src), Evt (fun n => call T C n 215 (s, l, ())) ((v, ()), (s', ())) ∧ v ∈ l ∧ SrcAt (k + 2) s' := by
  obtain ⟨i, s1, hE, i0, i1, hs1⟩ := e143 h hk l1 l2
  obtain ⟨v, hv⟩ := at_of i0 i1
  refine ⟨v, s1, Evt.next ?_ (fun n => r215 n s l), hv.mem, hs1⟩
  exact Evt.bind hE (Evt.at hv.idx (Evt.some _))
/- (*spec.l00Src).one -/
theorem e218 {k : Int} {s : Src} (h : SrcAt k s) (hk : k ≤ 999999999000) {m : Int} (m1 : 1 ≤ m) (m2 : m ≤ 1000000) : ∃ (b : Bool) (s' : Src), Evt (fun n => call T C n 218 (s, m, ())) ((b, ()), (s', ())) ∧ SrcAt (k + 2) s' := by
  obtain ⟨v, s1, hE, v0, v1, hs1⟩ := e143 h hk m1 m2
  exact ⟨v == 0, s1, Evt.next (Evt.bind hE (Evt.some _)) (fun n => r218 n s m), hs1⟩
/- spec.l04Cam -/
theorem e205 {k : Int} {s : Src} (h : SrcAt k s) (hk : k ≤ 999999990000) : ∃ (c : List Int) (s' : Src), Evt (fun n => call T C n 205 (s, ())) ((c, ()), (s', ())) ∧ ((8 ≤ c.length ∧ c.length ≤ 16) ∧ ∀ v ∈ c, 0 ≤ v ∧ v ≤ 9) ∧ SrcAt (k + 100) s' := by
  obtain ⟨t, s1, hE1, ht, hs1⟩ := e215 h (by omega) (l := [8, 8, 9, 10, 12, 16]) (by simp) (by simp)
  have ht : 8 ≤ t ∧ t ≤ 16 := by simp at ht; omega
  have key : EvtX (fun n => call T C n 205 (s, ())) (fun y => ((8 ≤ y.1.1.length ∧ y.1.1.length ≤ 16) ∧ ∀ v ∈ y.1.1, 0 ≤ v ∧ v ≤ 9) ∧ SrcAt (k + 100) y.2.1) := by
    refine EvtX.next (EvtX.bind hE1 ?_) (fun n => r205 n s)
    refine EvtX.loop (fun x => ∃ (src : Src) (L : List Int) (j : Nat), x = (src, L, (j : Int), ()) ∧ SrcAt (k + 2 + 4 * (16 - j)) src ∧ (∀ v ∈ L, 0 ≤ v ∧ v ≤ 9) ∧ L.length + j ≤ 16 ∧ 8 ≤ L.length + j) (fun x => x.2.2.1.toNat)
      ⟨s1, [], t.toNat, ?_, hs1.mono (by omega), by simp, by simp; omega, by simp; omega⟩ ?_
    · show (s1, _, t, ()) = _
      rw [Int.toNat_of_nonneg (by omega)]
    · rintro _ ⟨src, L, j, rfl, hs, hL, hj, hj8⟩
      dsimp only
      by_cases h0 : 0 < j
      · right
        have hw : wr .i64 ((j : Int) - 1) = ((j - 1 : Nat) : Int) := by rw [wrap_id (by omega) (by omega)]; omega
        obtain ⟨o, s2, hE2, hs2⟩ := e218 hs (by omega) (m := 3) (by omega) (by omega)
        cases o with
        | true =>
          obtain ⟨w, s3, hE3, w0, w1, hs3⟩ := e143 hs2 (by omega) (m := 10) (by omega) (by omega)
          refine ⟨_, ⟨s3, L ++ [wr .i16 w], j - 1, rfl, hs3.mono (by omega), ?_, by simp; omega, by simp; omega⟩, ?_, ?_⟩
          · intro v hv
            rcases List.mem_append.1 hv with hv | hv
            · exact hL v hv
            · rw [List.mem_singleton.1 hv, wrap16 (x := w) (by omega) (by omega)]; omega
          · show (((j - 1 : Nat) : Int)).toNat < ((j : Int)).toNat
            omega
          · intro _
            refine Round.yes (decide_eq_true (by omega)) (Round.bind hE2 (Round.yes rfl (Round.bind hE3 (Round.chk (decide_eq_true (by simp only [List.length_singleton]; omega)) (Round.again _ ?_)))))
            rw [hw]
        | false =>
          refine ⟨_, ⟨s2, L ++ [0], j - 1, rfl, hs2.mono (by omega), ?_, by simp; omega, by simp; omega⟩, ?_, ?_⟩
          · intro v hv
            rcases List.mem_append.1 hv with hv | hv
            · exact hL v hv
            · rw [List.mem_singleton.1 hv]; omega
          · show (((j - 1 : Nat) : Int)).toNat < ((j : Int)).toNat
            omega
          · intro _
            refine Round.yes (decide_eq_true (by omega)) (Round.bind hE2 (Round.no (by simp) (Round.chk (decide_eq_true (by simp only [List.length_singleton]; omega)) (Round.again _ ?_))))
            rw [hw]
      · left
        refine ⟨((L, ()), (src, ())), ⟨⟨⟨by show 8 ≤ L.length; omega, by show L.length ≤ 16; omega⟩, hL⟩, hs.mono (by omega)⟩, ?_⟩
        exact Round.no (by simp; omega) (Round.done (Evt.some _))
  obtain ⟨⟨⟨c, _⟩, s', _⟩, ⟨h1, h2⟩, hE⟩ := key
  exact ⟨c, s', hE, h1, h2⟩
/- spec.l04Drawn -/
theorem e96 {k : Int} {s : Src} (h : SrcAt k s) (hk : k ≤ 999999980000) : ∃ (l : List Sft) (s' : Src), Evt (fun n => call T C n 96 (s, ())) ((l, ()), (s', ())) ∧ ((1 ≤ l.length ∧ l.length ≤ 3) ∧ ∀ v ∈ l, DrS v) := by
  obtain ⟨t, s1, hE1, t0, t1, hs1⟩ := e143 h (by omega) (m := 3) (by omega) (by omega)
  have key : EvtX (fun n => call T C n 96 (s, ())) (fun y => (1 ≤ y.1.1.length ∧ y.1.1.length ≤ 3) ∧ ∀ v ∈ y.1.1, DrS v) := by
    refine EvtX.next (EvtX.bind hE1 ?_) (fun n => r96 n s)
    refine EvtX.loop (fun x => ∃ (src : Src) (L : List Sft) (j : Nat), x = (src, L, (j : Int), ()) ∧ SrcAt (k + 2 + 120 * (3 - j)) src ∧ (∀ v ∈ L, DrS v) ∧ L.length + j ≤ 3 ∧ 1 ≤ L.length + j) (fun x => x.2.2.1.toNat)
      ⟨s1, [], (1 + t).toNat, ?_, hs1.mono (by omega), by simp, by simp; omega, by simp; omega⟩ ?_
    · show (s1, _, wr .i64 (1 + t), ()) = _
      rw [wrap_id (x := 1 + t) (by omega) (by omega), Int.toNat_of_nonneg (by omega)]
    · rintro _ ⟨src, L, j, rfl, hs, hL, hj, hj8⟩
      dsimp only
      by_cases h0 : 0 < j
      · right
        have hw : wr .i64 ((j : Int) - 1) = ((j - 1 : Nat) : Int) := by rw [wrap_id (by omega) (by omega)]; omega
        obtain ⟨a, s2, hA, a0, a1, hs2⟩ := e143 hs (by omega) (m := 3) (by omega) (by omega)
        obtain ⟨b, s3, hB, b0, b1, hs3⟩ := e143 hs2 (by omega) (m := 3) (by omega) (by omega)
        obtain ⟨c, s4, hC, ⟨⟨c0, c1⟩, cE⟩, hs4⟩ := e205 hs3 (by omega)
        obtain ⟨p, s5, hP, p0, p1, hs5⟩ := e143 hs4 (by omega) (m := (c.length : Int)) (by omega) (by omega)
        refine ⟨_, ⟨s5, L ++ [(wr .i16 (wr .i64 (1 + a)), wr .i16 (wr .i64 (1 + b)), wr .i16 p, c, ())], j - 1, rfl, hs5.mono (by omega), ?_, by simp; omega, by simp; omega⟩, ?_, ?_⟩
        · intro v hv
          rcases List.mem_append.1 hv with hv | hv
          · exact hL v hv
          · rw [List.mem_singleton.1 hv, wrap_id (x := 1 + a) (by omega) (by omega), wrap_id (x := 1 + b) (by omega) (by omega), wrap16 (x := 1 + a) (by omega) (by omega), wrap16 (x := 1 + b) (by omega) (by omega), wrap16 (x := p) (by omega) (by omega)]
            exact ⟨⟨by show 1 ≤ 1 + a; omega, by show 1 + a ≤ 3; omega⟩, ⟨by show 1 ≤ 1 + b; omega, by show 1 + b ≤ 3; omega⟩, ⟨c0, c1⟩, cE, ⟨p0, p1⟩⟩
        · show (((j - 1 : Nat) : Int)).toNat < ((j : Int)).toNat
          omega
        · intro _
          refine Round.yes (decide_eq_true (by omega)) (Round.bind hA (Round.bind hB (Round.bind hC (Round.bind hP (Round.chk (decide_eq_true (by simp only [List.length_singleton]; omega)) (Round.again _ ?_))))))
          rw [hw]
      · left
        refine ⟨((L, ()), (src, ())), ⟨⟨by show 1 ≤ L.length; omega, by show L.length ≤ 3; omega⟩, hL⟩, ?_⟩
        exact Round.no (by simp; omega) (Round.done (Evt.some _))
  obtain ⟨⟨⟨l, _⟩, s', _⟩, h1, hE⟩ := key
  exact ⟨l, s', hE, h1⟩
/- spec.A2Shafts -/
theorem e9 {b : List Int} (hb : ∀ v ∈ b, 0 ≤ v ∧ v ≤ 255) (hl : (b.length : Int) ≤ 4000) : ∃ l : List Sft, Evt (fun n => call T C n 9 (b, ())) ((l, ()), ()) ∧ (1 ≤ l.length ∧ l.length ≤ 3) ∧ ∀ v ∈ l, DrS v := by
  obtain ⟨c, s', hE, S⟩ := e96 (k := 0) (s := (b, 0, 0, ())) ⟨hb, by show (b.length : Int) ≤ _; omega, by show (0 : Int) ≤ 0; omega, by show (0 : Int) ≤ 0; omega⟩ (by omega)
  exact ⟨c, Evt.next (Evt.bind (e97 b) (Evt.bind hE (Evt.some ((c, ()), ())))) (fun n => r9 n b), S⟩
/- impl.inRange -/
theorem e111 (a b c : Int) : Evt (fun n => call T C n 111 (a, b, c, ())) ((inR a b c, ()), ()) := by
  refine Evt.next ?_ (fun n => r111 n a b c)
  refine Evt.ite (fun h => ?_) (fun h => ?_)
  · refine (Evt.some _).of_eq fun n => ?_
    have h : b ≤ a := of_decide_eq_true h
    simp [inR, h]
    rfl
  · refine (Evt.some _).of_eq fun n => ?_
    have h : ¬ b ≤ a := by simpa using h
    simp [inR, h]
    rfl
/- (impl.Cam).steps -/
theorem e128 (a : List Int) : Evt (fun n => call T C n 128 (a, ())) (((a.length : Int), ()), ()) := Evt.next (Evt.some _) (fun n => r128 n a)
/- impl.isSteps -/
theorem e139 (a : Int) : Evt (fun n => call T C n 139 (a, ())) ((inR a 8 360, ()), ()) := Evt.next (Evt.bind (e111 a 8 360) (Evt.some _)) (fun n => r139 n a)
/- impl.isLift -/
theorem e127 (a : Int) : Evt (fun n => call T C n 127 (a, ())) ((inR a 0 10000, ()), ()) := Evt.next (Evt.bind (e111 a 0 10000) (Evt.some _)) (fun n => r127 n a)
/- impl.ValidCam$1 -/
theorem e141 (v : Int) : Evt (fun n => call T C n 141 (v, ())) ((!okV v, ()), ()) := Evt.next (Evt.bind (e127 _) (Evt.some _)) (fun n => r141 n v)
/- slices.IndexFunc[impl.Cam,int16]{impl.ValidCam$1} -/
theorem e225 (l : List Int) (hl : (l.length : Int) ≤ 140737488351232) : Evt (fun n => call T C n 225 (l, ((), ()), ())) ((fi (fun v => !okV v) l 0, ()), ()) := by
  refine Evt.next ?_ (fun n => r225 n l ((), ()))
  refine loop_evt (fun (x : List Int × (Unit × Unit) × Int × Int × Unit) => x.1 = l ∧ x.2.2.1 = (l.length : Int) ∧ 0 ≤ x.2.2.2.1 ∧ x.2.2.2.1 ≤ (l.length : Int) ∧ fi (fun v => !okV v) l 0 = fi (fun v => !okV v) (l.drop x.2.2.2.1.toNat) x.2.2.2.1) (fun (x : List Int × (Unit × Unit) × Int × Int × Unit) => ((l.length : Int) - x.2.2.2.1).toNat) (x := (l, ((), ()), (l.length : Int), 0, ())) ⟨rfl, rfl, Int.le_refl _, by simp, by simp⟩ ?_
  rintro ⟨x1, u, m, i, _⟩ ⟨h', hm, h0, h1, h2⟩
  simp only at h' hm h0 h1 h2
  subst h'; subst hm
  refine Round.ite (fun hlt => ?_) (fun hge => ?_)
  · have hlt : i < (x1.length : Int) := of_decide_eq_true hlt
    obtain ⟨v, hv, hv'⟩ := idx_at h0 hlt
    have hd := drop_cons hv'
    refine Round.at hv (Round.bind (e141 _) (Round.ite (fun hb => ?_) (fun hb => ?_)))
    · have hb : okV v = false := by simpa using hb
      have h3 : fi (fun v => !okV v) x1 0 = i := by rw [h2, hd]; simp [fi, hb]
      rw [h3]
      exact Round.done (Evt.some _)
    · have hb : okV v = true := by simpa using hb
      have hw : wr .i64 (i + 1) = i + 1 := wrap_id (by omega) (by omega)
      refine Round.again _ ⟨⟨rfl, rfl, ?_, ?_, ?_⟩, ?_⟩ <;> simp only [hw]
      · omega
      · omega
      · rw [h2, hd, show (i + 1).toNat = i.toNat + 1 by omega]
        simp [fi, hb]
      · omega
  · have hge : ¬ i < (x1.length : Int) := by simpa using hge
    have : x1.drop i.toNat = [] := List.drop_of_length_le (by omega)
    rw [h2, this]
    exact Round.done (Evt.some _)
/- slices.ContainsFunc[impl.Cam,int16]{impl.ValidCam$1} -/
theorem e140 (l : List Int) (hl : (l.length : Int) ≤ 140737488351232) : Evt (fun n => call T C n 140 (l, ((), ()), ())) ((l.any (fun v => !okV v), ()), ()) := by
  refine Evt.next (Evt.bind (e225 l hl) ((Evt.some _).of_eq fun n => ?_)) (fun n => r140 n l ((), ()))
  simp only [fi_any _ l 0 (Int.le_refl _)]
  rfl
/- impl.ValidCam -/
theorem e34 (l : List Int) (hl : (l.length : Int) ≤ 140737488351232) : Evt (fun n => call T C n 34 (l, ())) ((okC l, ()), ()) := by
  refine Evt.next (Evt.bind (e128 l) (Evt.bind (e139 _) ?_)) (fun n => r34 n l)
  refine Evt.ite (fun h => ?_) (fun h => ?_)
  · refine Evt.bind (e140 l hl) ((Evt.some _).of_eq fun n => ?_)
    have h : inR (l.length : Int) 8 360 = true := h
    have : okC l = !l.any (fun v => !okV v) := by simp [okC, h, List.any_eq_not_all_not]
    rw [this]
    rfl
  · refine (Evt.some _).of_eq fun n => ?_
    have h : inR (l.length : Int) 8 360 = false := by simpa using h
    simp [okC, h]
    rfl
/- impl.isPlace -/
theorem e114 (a b : Int) : Evt (fun n => call T C n 114 (a, b, ())) ((inR a 0 (wr .i64 (b - 1)), ()), ()) := Evt.next (Evt.bind (e111 _ _ _) (Evt.some _)) (fun n => r114 n a b)
/- impl.ValidShafts$1 -/
theorem e113 (s : Sft) (hl : (s.2.2.2.1.length : Int) ≤ 140737488351232) : Evt (fun n => call T C n 113 (s, ())) ((!okS s, ()), ()) := by
  refine Evt.next (Evt.bind (e111 _ _ _) ?_) (fun n => r113 n s)
  refine Evt.ite (fun h => ?_) (fun h => ?_)
  · have h : inR (wr .i64 s.1) 1 60 = false := by simpa using h
    have : okS s = false := by simp [okS, h]
    rw [this]; exact Evt.some _
  · have h1 : inR (wr .i64 s.1) 1 60 = true := by simpa using h
    refine Evt.bind (e111 _ _ _) (Evt.ite (fun h => ?_) (fun h => ?_))
    · have h : inR (wr .i64 s.2.1) 1 60 = false := by simpa using h
      have : okS s = false := by simp [okS, h]
      rw [this]; exact Evt.some _
    · have h2 : inR (wr .i64 s.2.1) 1 60 = true := by simpa using h
      refine Evt.bind (e34 _ hl) (Evt.ite (fun h => ?_) (fun h => ?_))
      · have h : okC s.2.2.2.1 = false := by simpa using h
        have : okS s = false := by simp [okS, h]
        rw [this]; exact Evt.some _
      · have h3 : okC s.2.2.2.1 = true := by simpa using h
        refine Evt.bind (e114 _ _) ((Evt.some _).of_eq fun n => ?_)
        have : okS s = inR (wr .i64 s.2.2.1) 0 (wr .i64 ((s.2.2.2.1.length : Int) - 1)) := by simp [okS, h1, h2, h3]
        rw [this]
        rfl
/- slices.IndexFunc[[]impl.Shaft,impl.Shaft]{impl.ValidShafts$1} -/
theorem e212 (l : List Sft) (hl : Small l) : Evt (fun n => call T C n 212 (l, ((), ()), ())) ((fi (fun v => !okS v) l 0, ()), ()) := by
  refine Evt.next ?_ (fun n => r212 n l ((), ()))
  refine loop_evt (fun (x : List Sft × (Unit × Unit) × Int × Int × Unit) => x.1 = l ∧ x.2.2.1 = (l.length : Int) ∧ 0 ≤ x.2.2.2.1 ∧ x.2.2.2.1 ≤ (l.length : Int) ∧ fi (fun v => !okS v) l 0 = fi (fun v => !okS v) (l.drop x.2.2.2.1.toNat) x.2.2.2.1) (fun (x : List Sft × (Unit × Unit) × Int × Int × Unit) => ((l.length : Int) - x.2.2.2.1).toNat) (x := (l, ((), ()), (l.length : Int), 0, ())) ⟨rfl, rfl, Int.le_refl _, by simp, by simp⟩ ?_
  rintro ⟨x1, u, m, i, _⟩ ⟨h', hm, h0, h1, h2⟩
  simp only at h' hm h0 h1 h2
  subst h'; subst hm
  have hl1 := hl.1
  refine Round.ite (fun hlt => ?_) (fun hge => ?_)
  · have hlt : i < (x1.length : Int) := of_decide_eq_true hlt
    obtain ⟨v, hv, hv'⟩ := idx_at h0 hlt
    have hd := drop_cons hv'
    refine Round.at hv (Round.bind (e113 _ (hl.get hv')) (Round.ite (fun hb => ?_) (fun hb => ?_)))
    · have hb : okS v = false := by simpa using hb
      have h3 : fi (fun v => !okS v) x1 0 = i := by rw [h2, hd]; simp [fi, hb]
      rw [h3]
      exact Round.done (Evt.some _)
    · have hb : okS v = true := by simpa using hb
      have hw : wr .i64 (i + 1) = i + 1 := wrap_id (by omega) (by omega)
      refine Round.again _ ⟨⟨rfl, rfl, ?_, ?_, ?_⟩, ?_⟩ <;> simp only [hw]
      · omega
      · omega
      · rw [h2, hd, show (i + 1).toNat = i.toNat + 1 by omega]
        simp [fi, hb]
      · omega
  · have hge : ¬ i < (x1.length : Int) := by simpa using hge
    have : x1.drop i.toNat = [] := List.drop_of_length_le (by omega)
    rw [h2, this]
    exact Round.done (Evt.some _)
/- slices.ContainsFunc[[]impl.Shaft,impl.Shaft]{impl.ValidShafts$1} -/
theorem e112 (l : List Sft) (hl : Small l) : Evt (fun n => call T C n 112 (l, ((), ()), ())) ((l.any (fun v => !okS v), ()), ()) := by
  refine Evt.next (Evt.bind (e212 l hl) ((Evt.some _).of_eq fun n => ?_)) (fun n => r112 n l ((), ()))
  simp only [fi_any _ l 0 (Int.le_refl _)]
  rfl
/- impl.ValidShafts -/
theorem e16 (l : List Sft) (hl : Small l) : Evt (fun n => call T C n 16 (l, ())) ((okA l, ()), ()) := by
  refine Evt.next (Evt.bind (e111 _ _ _) ?_) (fun n => r16 n l)
  refine Evt.ite (fun h => ?_) (fun h => ?_)
  · refine Evt.bind (e112 l hl) ((Evt.some _).of_eq fun n => ?_)
    have h : inR (l.length : Int) 1 6 = true := h
    have : okA l = !l.any (fun v => !okS v) := by simp [okA, h, List.any_eq_not_all_not]
    rw [this]
    rfl
  · refine (Evt.some _).of_eq fun n => ?_
    have h : inR (l.length : Int) 1 6 = false := by simpa using h
    simp [okA, h]
    rfl
/- strconv.FormatInt -/
theorem e209 (u : Nat) (h : u ≤ 9223372036854775807) : Evt (fun n => call T C n 209 ((u : Int), 10, ())) ((tx (Lib.decDigits u), ()), ()) := by
  refine Evt.next ?_ (fun n => r209 n u 10)
  dsimp only
  rw [if_pos ⟨rfl, by omega, by omega⟩, Lib.itoa_nonneg]
  exact Evt.some _
theorem e209_2 (v : Int) (h0 : -9223372036854775808 ≤ v) (h1 : v ≤ 9223372036854775807) : Evt (fun n => call T C n 209 (v, 10, ())) ((tx (Lib.itoa v), ()), ()) := by
  refine Evt.next ?_ (fun n => r209 n v 10)
  dsimp only
  rw [if_pos ⟨rfl, h0, h1⟩]
  exact Evt.some _
/- impl.decimal -/
theorem e103 (u : Nat) (h : u ≤ 9223372036854775807) : Evt (fun n => call T C n 103 ((u : Int), ())) ((tx (Lib.decDigits u), ()), ()) :=
  Evt.next (Evt.bind (e209 u h) (Evt.some _)) (fun n => r103 n u)
theorem e103_2 (v : Int) (h0 : -9223372036854775808 ≤ v) (h1 : v ≤ 9223372036854775807) : Evt (fun n => call T C n 103 (v, ())) ((tx (Lib.itoa v), ()), ()) :=
  Evt.next (Evt.bind (e209_2 v h0 h1) (Evt.some _)) (fun n => r103 n v)
/- strings.Join -/
theorem e131 (ws : List (List UInt8)) (s : List UInt8) (h1 : ws.length ≤ 1000000) (h2 : (Lib.join ws s).length ≤ 1000000000) : Evt (fun n => call T C n 131 (ws.map tx, tx s, ())) ((tx (Lib.join ws s), ()), (ws.map tx, ())) := by
  refine Evt.next ?_ (fun n => r131 n (ws.map tx) (tx s))
  have e : (ws.map tx).map (fun s => s.data.toList) = ws := by
    rw [List.map_map]
    exact (List.map_congr_left fun a _ => rfl).trans (List.map_id ws)
  dsimp only
  rw [e]
  show Evt (fun n => if (ws.map tx).length ≤ 140737488355328 ∧ (Lib.join ws s).length ≤ 140737488355328 then some ((tx (Lib.join ws s), ()), (ws.map tx, ())) else none) _
  rw [if_pos ⟨by simp; omega, by omega⟩]
  exact Evt.some _
/- impl.CamText -/
theorem e27 (c : List Int) (hr : Rng c) : Evt (fun n => call T C n 27 (c, ())) ((camT c, ()), ()) := by
  have hcl := hr.len'
  refine Evt.next (Evt.bind (e34 c (by omega)) ?_) (fun n => r27 n c)
  unfold camT
  cases h : okC c with
  | false => exact Evt.yes rfl (Evt.some _)
  | true =>
    have hl := okC_len h
    have hC := okC_el h hr
    have c32 : (⟨#[32]⟩ : ByteArray) = tx [32] := rfl
    have c42 : (⟨#[42]⟩ : ByteArray) = tx [42] := rfl
    refine Evt.no (by simp) ?_
    refine loop_evt (fun x => ∃ (i : Nat) (ws : List (List UInt8)), x = (c, ws.map tx, (i : Int), ()) ∧ i ≤ c.length ∧ ws ++ (rle (c.drop i)).map wordL = (rle c).map wordL ∧ ws.length ≤ i ∧ (∀ w ∈ ws, w.length ≤ 43) ∧ (0 < i → ws ≠ [])) (fun x => c.length - x.2.2.1.toNat) ⟨0, [], rfl, by omega, by simp, by simp, by simp, by simp⟩ ?_
    rintro x ⟨i, ws, rfl, hi, hws, hwl0, hl43, hne0⟩
    have hJ := join_len [32] ws hl43
    simp only [List.length_cons, List.length_nil] at hJ
    have hJ : (Lib.join ws [32]).length ≤ 1000000 := by omega
    by_cases hlt : i < c.length
    · have hlt : (i : Int) < (c.length : Int) := by omega
      refine Round.yes (decide_eq_true hlt) ?_
      refine for_round' (i : Int) (c.length : Int) (fun j (_ : Unit) => (c, ws.map tx, (i : Int), j, ())) (fun j _ => ∀ u : Nat, i ≤ u → (u : Int) < j → g c u = g c i) (b0 := ()) rfl (by omega) (fun u h1 h2 => absurd h2 (by omega)) ?_ ?_
      · intro j' _ h2 h3' hP
        obtain ⟨j, rfl⟩ : ∃ j : Nat, j' = j := ⟨j'.toNat, by omega⟩
        have a1 := g_idx (l := c) (i := (j : Int)) (by omega) (by omega)
        have a2 := g_idx (l := c) (i := (i : Int)) (by omega) (by omega)
        rw [Int.toNat_natCast] at a1 a2
        refine Round.yes (decide_eq_true h3') (Round.at a1.idx (Round.at a2.idx ?_))
        by_cases heq : g c j = g c i
        · refine Round.yes (by simp [heq]) (Round.inr _ ⟨(), by rw [wr_succ (by omega) h3' (by omega)], fun u h1 h2 => ?_⟩)
          by_cases hu : u = j
          · rw [hu, heq]
          · exact hP u h1 (by omega)
        · have hj1 : i < j := by
            apply Classical.byContradiction
            intro h
            exact heq (by rw [show j = i by omega])
          have hj2 : j ≤ c.length := by omega
          have h3 : ∀ u, i ≤ u → u < j → g c u = g c i := fun u h1 h2 => hP u h1 (by omega)
          have h4 : j = c.length ∨ g c j ≠ g c i := .inr heq
          refine Round.no (by simp [heq]) ?_
          have hv := g_idx (l := c) (i := (i : Int)) (by omega) (by omega)
          rw [Int.toNat_natCast] at hv
          have hvb := hC _ hv.mem
          obtain ⟨v, hv2⟩ : ∃ v : Nat, g c i = v := ⟨(g c i).toNat, by omega⟩
          have hd := rle_drop hj1 hj2 h3 h4
          have e1 : wr .i64 (g c i) = (v : Int) := by rw [hv2]; exact wrap_id (by omega) (by omega)
          have e2 : wr .i64 ((j : Int) - (i : Int)) = ((j - i : Nat) : Int) := by rw [wrap_id (by omega) (by omega)]; omega
          have hD1 := e103 v (by omega)
          have hD2 := e103 (j - i) (by omega)
          have z1 := dec_len (u := v) (by omega)
          have z2 := dec_len (u := j - i) (by omega)
          have hw : wordL (g c i, j - i) = if j - i > 1 then Lib.decDigits v ++ 42 :: Lib.decDigits (j - i) else Lib.decDigits v := by unfold wordL; rw [hv2]; rfl
          have hwl := wordL_len (x := (g c i, j - i)) (by show g c i ≤ _; omega) (by show j - i ≤ _; omega)
          have next : ∀ w, w = wordL (g c i, j - i) → (ws ++ [w]) ++ (rle (c.drop j)).map wordL = (rle c).map wordL ∧ (ws ++ [w]).length ≤ j ∧ (∀ u ∈ ws ++ [w], u.length ≤ 43) ∧ (0 < j → ws ++ [w] ≠ []) := fun w hw => by
            refine ⟨?_, by simp; omega, fun u hu => ?_, fun _ => by simp⟩
            · rw [← hws, hd, hw]; simp
            · rcases List.mem_append.1 hu with hu | hu
              · exact hl43 u hu
              · simp at hu; rw [hu, hw]; exact hwl
          refine Round.at hv.idx ?_
          simp only [e1, e2]
          refine Round.bind hD1 ?_
          have hml : (ws.map tx).length = ws.length := by simp
          by_cases hk : j - i > 1
          · refine Round.yes (decide_eq_true (by omega)) (Round.bind hD2 ?_)
            simp only [c42, tx_app]
            refine Round.chk (szT (by simp) (by omega)) (Round.chk (szT (by omega) (by simp; omega)) (Round.chk (by simp; omega) (Round.inl _ ⟨⟨j, ws ++ [wordL (g c i, j - i)], ?_, hj2, next _ rfl⟩, ?_⟩)))
            · rw [hw, if_pos hk]; simp
            · show c.length - (j : Int).toNat < c.length - (i : Int).toNat
              omega
          · refine Round.no (by simp; omega) (Round.chk (by simp; omega) (Round.inl _ ⟨⟨j, ws ++ [wordL (g c i, j - i)], ?_, hj2, next _ rfl⟩, ?_⟩))
            · rw [hw, if_neg hk]; simp
            · show c.length - (j : Int).toNat < c.length - (i : Int).toNat
              omega
      · intro _ hP
        refine Round.no (by simp) ?_
        have hj1 : i < c.length := by omega
        have hj2 : c.length ≤ c.length := Nat.le_refl _
        have h3 : ∀ u, i ≤ u → u < c.length → g c u = g c i := fun u h1 h2 => hP u h1 (by omega)
        have h4 : c.length = c.length ∨ g c c.length ≠ g c i := .inl rfl
        have hv := g_idx (l := c) (i := (i : Int)) (by omega) (by omega)
        rw [Int.toNat_natCast] at hv
        have hvb := hC _ hv.mem
        obtain ⟨v, hv2⟩ : ∃ v : Nat, g c i = v := ⟨(g c i).toNat, by omega⟩
        have hd := rle_drop hj1 hj2 h3 h4
        have e1 : wr .i64 (g c i) = (v : Int) := by rw [hv2]; exact wrap_id (by omega) (by omega)
        have e2 : wr .i64 ((c.length : Int) - (i : Int)) = ((c.length - i : Nat) : Int) := by rw [wrap_id (by omega) (by omega)]; omega
        have hD1 := e103 v (by omega)
        have hD2 := e103 (c.length - i) (by omega)
        have z1 := dec_len (u := v) (by omega)
        have z2 := dec_len (u := c.length - i) (by omega)
        have hw : wordL (g c i, c.length - i) = if c.length - i > 1 then Lib.decDigits v ++ 42 :: Lib.decDigits (c.length - i) else Lib.decDigits v := by unfold wordL; rw [hv2]; rfl
        have hwl := wordL_len (x := (g c i, c.length - i)) (by show g c i ≤ _; omega) (by show c.length - i ≤ _; omega)
        have next : ∀ w, w = wordL (g c i, c.length - i) → (ws ++ [w]) ++ (rle (c.drop c.length)).map wordL = (rle c).map wordL ∧ (ws ++ [w]).length ≤ c.length ∧ (∀ u ∈ ws ++ [w], u.length ≤ 43) ∧ (0 < c.length → ws ++ [w] ≠ []) := fun w hw => by
          refine ⟨?_, by simp; omega, fun u hu => ?_, fun _ => by simp⟩
          · rw [← hws, hd, hw]; simp
          · rcases List.mem_append.1 hu with hu | hu
            · exact hl43 u hu
            · simp at hu; rw [hu, hw]; exact hwl
        refine Round.at hv.idx ?_
        simp only [e1, e2]
        refine Round.bind hD1 ?_
        have hml : (ws.map tx).length = ws.length := by simp
        by_cases hk : c.length - i > 1
        · refine Round.yes (decide_eq_true (by omega)) (Round.bind hD2 ?_)
          simp only [c42, tx_app]
          refine Round.chk (szT (by simp) (by omega)) (Round.chk (szT (by omega) (by simp; omega)) (Round.chk (by simp; omega) (Round.inl _ ⟨⟨c.length, ws ++ [wordL (g c i, c.length - i)], ?_, hj2, next _ rfl⟩, ?_⟩)))
          · rw [hw, if_pos hk]; simp
          · show c.length - (c.length : Int).toNat < c.length - (i : Int).toNat
            omega
        · refine Round.no (by simp; omega) (Round.chk (by simp; omega) (Round.inl _ ⟨⟨c.length, ws ++ [wordL (g c i, c.length - i)], ?_, hj2, next _ rfl⟩, ?_⟩))
          · rw [hw, if_neg hk]; simp
          · show c.length - (c.length : Int).toNat < c.length - (i : Int).toNat
            omega
    · have hi : i = c.length := by omega
      refine Round.no (by simp; omega) (Round.done ?_)
      rw [hi, List.drop_length] at hws
      have hw2 : ws = (rle c).map wordL := by simpa [rle] using hws
      rw [if_pos rfl]
      unfold camJ
      rw [← hw2, c32]
      exact Evt.bind (e131 ws [32] (by omega) (by omega)) (Evt.some _)
/- (*strings.Builder).WriteString -/
theorem e102 (x s : List UInt8) (h : x.length + s.length ≤ 1000000000) : Evt (fun n => call T C n 102 (tx x, tx s, ())) ((((s.length : Nat) : Int), false, ()), (tx (x ++ s), ())) := by
  refine Evt.next ?_ (fun n => r102 n (tx x) (tx s))
  dsimp only
  rw [if_pos (by rw [tx_size, tx_size]; omega), tx_app, tx_size]
  exact Evt.some _
/- (*strings.Builder).String -/
theorem e104 (x : ByteArray) : Evt (fun n => call T C n 104 (x, ())) ((x, ()), ()) :=
  Evt.next (Evt.some _) (fun n => r104 n x)
/- impl.ShaftsText -/
theorem e11 (l : List Sft) (hS : Small l) (hr : ∀ s ∈ l, RngSf s) : Evt (fun n => call T C n 11 (l, ())) ((shR l, ()), ()) := by
  refine Evt.next (Evt.bind (e16 l hS) ?_) (fun n => r11 n l)
  unfold shR
  cases h : okA l with
  | false => exact Evt.yes rfl (Evt.some _)
  | true =>
    obtain ⟨h1, h2, h3⟩ := okA_el h
    have hg : ∀ s ∈ l, GoodSf s := fun s hs => goodSf (hr s hs) (h3 s hs)
    have c32 : (⟨#[32]⟩ : ByteArray) = tx [32] := rfl
    have c10 : (⟨#[10]⟩ : ByteArray) = tx [10] := rfl
    refine Evt.no (by simp) ?_
    refine for_evt' 0 (l.length : Int) (fun i (_ : Unit) => (tx (shT (l.take i.toNat)), l, (l.length : Int), i, ())) (fun _ _ => True) (b0 := ()) rfl (by omega) trivial ?_ ?_
    · intro i _ i0 i1 _
      obtain ⟨s, hs⟩ := at_of i0 i1
      have G := hg s hs.mem
      have R := hr s hs.mem
      have g1 := G.n
      have g2 := G.d
      have g3 := G.p
      have hc := okC_len G.c
      obtain ⟨a, ea⟩ : ∃ a : Nat, s.1 = a := ⟨s.1.toNat, by omega⟩
      obtain ⟨b, eb⟩ : ∃ b : Nat, s.2.1 = b := ⟨s.2.1.toNat, by omega⟩
      obtain ⟨p, ep⟩ : ∃ p : Nat, s.2.2.1 = p := ⟨s.2.2.1.toNat, by omega⟩
      have hA := e103 a (by omega)
      have hB := e103 b (by omega)
      have hP := e103 p (by omega)
      have hT := e27 s.2.2.2.1 R.c
      rw [show camT s.2.2.2.1 = tx (camJ s.2.2.2.1) from if_pos G.c] at hT
      have z1 := dec_len (u := a) (by omega)
      have z2 := dec_len (u := b) (by omega)
      have z3 := dec_len (u := p) (by omega)
      have z4 := camJ_len (c := s.2.2.2.1) (by omega) (okC_el G.c R.c)
      have zt := shT_len (l := l.take i.toNat) (fun x hx => hr x (List.mem_of_mem_take hx)) fun x hx => hg x (List.mem_of_mem_take hx)
      have zl : (l.take i.toNat).length ≤ 6 := by rw [List.length_take]; omega
      dsimp only
      refine Round.yes (decide_eq_true i1) (Round.at hs.idx ?_)
      rw [wrap_id (x := s.1) (by omega) (by omega), wrap_id (x := s.2.1) (by omega) (by omega), wrap_id (x := s.2.2.1) (by omega) (by omega), ea, eb, ep]
      refine Round.bind hA ?_
      simp only [c32, c10, tx_app]
      refine Round.chk (szT (by omega) (by simp)) (Round.bind hB ?_)
      simp only [tx_app]
      refine Round.chk (szT (by simp; omega) (by omega)) (Round.chk (szT (by simp; omega) (by simp)) (Round.bind hP ?_))
      simp only [tx_app]
      refine Round.chk (szT (by simp; omega) (by omega)) (Round.chk (szT (by simp; omega) (by simp)) (Round.bind hT ?_))
      simp only [tx_app]
      refine Round.chk (szT (by simp; omega) (by omega)) (Round.chk (szT (by simp; omega) (by simp)) (Round.bind (e102 _ _ (by simp; omega)) (Round.again _ ⟨(), ?_, trivial⟩)))
      rw [hs.take, shT_snoc, wr_succ i0 i1 (by omega)]
      unfold shL
      rw [ea, eb, ep, Int.toNat_natCast, Int.toNat_natCast, Int.toNat_natCast]
    · intro _ _
      dsimp only
      rw [take_all]
      exact Round.no (by simp) (Round.bind (e104 _) (Round.done (Evt.some _)))
/- strings.TrimSuffix -/
theorem e99 (l s : List UInt8) (hl : l.length ≤ 10000000) : Evt (fun n => call T C n 99 (tx l, tx s, ())) ((tx (Lib.trimSuffix l s), ()), ()) := by
  refine Evt.next ?_ (fun n => r99 n (tx l) (tx s))
  dsimp only
  rw [if_pos (by rw [tx_size]; omega)]
  exact Evt.some _
/- strings.Split -/
theorem e98 {c : UInt8} {w : List UInt8} {ws : List (List UInt8)} (h : c ∉ w) (hs : ∀ v ∈ ws, c ∉ v) (hl : (Lib.join (w :: ws) [c]).length ≤ 1000000) : Evt (fun n => call T C n 98 (tx (Lib.join (w :: ws) [c]), tx [c], ())) (((w :: ws).map tx, ()), ()) := by
  refine Evt.next ?_ (fun n => r98 n (tx (Lib.join (w :: ws) [c])) (tx [c]))
  dsimp only
  rw [if_pos ⟨by rw [tx_size]; omega, by rw [tx_size]; simp⟩, split_tx h hs]
  exact Evt.some _
theorem e98_2 (c : UInt8) (l : List UInt8) (hl : l.length ≤ 10000000) : Evt (fun n => call T C n 98 (tx l, tx [c], ())) (((splitC c l).map tx, ()), ()) := by
  refine Evt.next ?_ (fun n => r98 n (tx l) (tx [c]))
  dsimp only
  rw [if_pos ⟨by rw [tx_size]; omega, by rw [tx_size]; simp⟩, split_all]
  exact Evt.some _
/- strings.SplitN -/
theorem e100 (l : List UInt8) (hl : l.length ≤ 10000000) : Evt (fun n => call T C n 100 (tx l, tx [32], (4 : Int), ())) (((splitN4 l).map tx, ()), ()) := by
  refine Evt.next ?_ (fun n => r100 n (tx l) (tx [32]) 4)
  dsimp only
  rw [if_pos ⟨by rw [tx_size]; omega, by rw [tx_size]; simp, by omega, by omega⟩, show Int.toNat 4 = 4 from rfl, splitN_tx]
  exact Evt.some _
/- strings.Cut -/
theorem e125 (l s : List UInt8) (hl : l.length ≤ 10000000) : Evt (fun n => call T C n 125 (tx l, tx s, ())) ((tx (Lib.cut l s).1, tx (Lib.cut l s).2.1, (Lib.cut l s).2.2, ()), ()) := by
  refine Evt.next ?_ (fun n => r125 n (tx l) (tx s))
  dsimp only
  rw [if_pos (by rw [tx_size]; omega)]
  exact Evt.some _
/- strconv.ParseInt -/
theorem e220 {u : Nat} (h : u ≤ 9223372036854775807) : Evt (fun n => call T C n 220 (tx (Lib.decDigits u), 10, 64, ())) (((u : Int), false, ()), ()) := by
  have l1 := dec_len h
  refine Evt.next ?_ (fun n => r220 n (tx (Lib.decDigits u)) 10 64)
  dsimp only
  rw [if_pos ⟨by rw [tx_size]; omega, rfl, rfl⟩, tx_list, parse_int h]
  exact Evt.some _
/- impl.number -/
theorem e126 {u : Nat} (h : u ≤ 9223372036854775807) : Evt (fun n => call T C n 126 (tx (Lib.decDigits u), ())) (((u : Int), true, ()), ()) := by
  refine Evt.next (Evt.bind (e220 h) (Evt.chk rfl (Evt.yes rfl (Evt.bind (e103 u h) ?_)))) (fun n => r126 n (tx (Lib.decDigits u)))
  simp only [beq_self_eq_true, cond_true]
  exact Evt.some _
theorem e126_2 (l : List UInt8) (hl : l.length ≤ 10000000) : Evt (fun n => call T C n 126 (tx l, ())) (((numI l).1, (numI l).2, ()), ()) := by
  have hP : Evt (fun n => call T C n 220 (tx l, 10, 64, ())) (((numI l).1, (match Lib.parseIntB 64 l with | .ok _ => false | _ => true), ()), ()) := by
    refine Evt.next ?_ (fun n => r220 n (tx l) 10 64)
    dsimp only
    rw [if_pos ⟨by rw [tx_size]; omega, rfl, rfl⟩, tx_list]
    unfold numI
    cases Lib.parseIntB 64 l <;> exact Evt.some _
  have hb := numI_bd l
  refine Evt.next (Evt.bind hP (Evt.chk rfl ?_)) (fun n => r126 n (tx l))
  have hd := e103_2 (numI l).1 hb.1 hb.2
  revert hd
  rcases h : Lib.parseIntB 64 l with v | _ | _
  · intro hd
    refine Evt.yes rfl (Evt.bind hd ?_)
    simp only [tx_toList, cond_true]
    have e1 : (numI l).2 = (Lib.itoa (numI l).1 == l) := by unfold numI; rw [h]
    rw [e1]
    exact Evt.some _
  · intro _
    have e1 : (numI l).2 = false := by unfold numI; rw [h]
    rw [e1]
    exact Evt.no (by simp) (Evt.some _)
  · intro _
    have e1 : (numI l).2 = false := by unfold numI; rw [h]
    rw [e1]
    exact Evt.no (by simp) (Evt.some _)
/- slices.Repeat[impl.Cam,int16] -/
theorem e129 (v k : Int) (h1 : 1 ≤ k) (h2 : k ≤ 360) : Evt (fun n => call T C n 129 ([v], k, ())) ((List.replicate k.toNat v, ()), ()) := by
  refine Evt.next ?_ (fun n => r129 n [v] k)
  dsimp only
  rw [if_pos ⟨rfl, h1, h2⟩]
  exact Evt.some _
/- slices.Clone[impl.Cam,int16] -/
theorem e130 (l : List Int) (h0 : l.length ≠ 0) (hl : (l.length : Int) ≤ 1000000) : Evt (fun n => call T C n 130 (l, ())) ((l, ()), ()) :=
  Evt.next (Evt.yes (decide_eq_true h0) (Evt.chk (by simp; omega) (Evt.some _))) (fun n => r130 n l)
/- impl.ReadCam -/
theorem e26 (l : List UInt8) (hl : l.length ≤ 1048576) : Evt (fun n => call T C n 26 (tx l, ())) (((rdC l).1, (rdC l).2, ()), ()) := by
  refine Evt.next ?_ (fun n => r26 n (tx l))
  have hS := e98_2 32 l (by omega)
  have hn := splitC_len 32 l
  have hw := splitC_wlen (c := 32) (l := l)
  have hrd := rdC_eq l
  generalize splitC 32 l = ws at hS hn hw hrd
  refine Evt.bind hS ?_
  have hlm : (((ws.map tx).length : Nat) : Int) = (ws.length : Int) := by simp
  refine for_evt' 0 (ws.length : Int) (fun i (c : List Int) => (tx l, c, ws.map tx, (((ws.map tx).length : Nat) : Int), i, ())) (fun i c => foldO irW [] (ws.take i.toNat) = some c) (b0 := []) rfl (by omega) rfl ?_ ?_
  · intro i c i0 i1 hL
    obtain ⟨i, rfl⟩ := Int.eq_ofNat_of_zero_le i0
    rw [Int.toNat_natCast] at hL
    obtain ⟨w, hi⟩ : ∃ w, ws[i]? = some w := ⟨_, List.getElem?_eq_getElem (by omega)⟩
    have hwl := hw w (List.mem_of_getElem? hi)
    have G := irW_fold _ good0 hL
    have hvi : idx (ws.map tx) (i : Int) = some (tx w) := by
      unfold idx
      rw [if_pos (by omega), Int.toNat_natCast, List.getElem?_map, hi]; rfl
    have bad : irW c w = none → ∀ {f : Nat → Option ((List Int × Int × Unit) × Unit)}, Evt f ((([] : List Int), (5 : Int), ()), ()) → Evt f (((rdC l).1, (rdC l).2, ()), ()) := fun h f hf => by
      rw [hrd, foldO_none hL hi h]; exact hf
    have good : ∀ d, irW c w = some d → foldO irW [] (ws.take ((i : Int) + 1).toNat) = some d := fun d h => by
      rw [show ((i : Int) + 1).toNat = i + 1 by omega, foldO_next hL hi, h]
    have hws := wr_succ (i := (i : Int)) i0 i1 (by omega)
    have hC := e125 w [42] (by omega)
    have hcl : (Lib.cut w [42]).1.length ≤ w.length ∧ (Lib.cut w [42]).2.1.length ≤ w.length := by
      unfold Lib.cut
      split
      · exact ⟨by rw [List.length_take]; omega, by rw [List.length_drop]; omega⟩
      · exact ⟨Nat.le_refl _, by simp⟩
    have b1 := numI_bd (Lib.cut w [42]).1
    have b2 := numI_bd (Lib.cut w [42]).2.1
    have hg := G.1
    have hs360 : wr .i64 (360 - (c.length : Int)) = 360 - (c.length : Int) := wrap_id (by omega) (by omega)
    have hir : irW c w = if inR (numI (Lib.cut w [42]).1).1 0 10000 = true ∧ inR (timesI (Lib.cut w [42]).2.1) 1 (360 - c.length) = true then some (c ++ List.replicate (timesI (Lib.cut w [42]).2.1).toNat (numI (Lib.cut w [42]).1).1) else none := rfl
    dsimp only
    refine Round.yes (decide_eq_true (by rw [hlm]; exact i1)) (Round.at hvi (Round.bind hC (Round.bind (e126_2 _ (by omega)) (Round.bind (e126_2 _ (by omega)) ?_))))
    have both : ∀ (t : Int), t = timesI (Lib.cut w [42]).2.1 → inR (numI (Lib.cut w [42]).1).1 0 10000 = true → inR t 1 (360 - (c.length : Int)) = true → 0 ≤ (numI (Lib.cut w [42]).1).1 ∧ (numI (Lib.cut w [42]).1).1 ≤ 10000 ∧ 1 ≤ t ∧ t ≤ 360 - (c.length : Int) ∧ wr .i16 (numI (Lib.cut w [42]).1).1 = (numI (Lib.cut w [42]).1).1 ∧ irW c w = some (c ++ List.replicate t.toNat (numI (Lib.cut w [42]).1).1) := fun t ht h1 h2 => by
      have e1 := inR_iff.1 h1
      have e2 := inR_iff.1 h2
      exact ⟨e1.1, e1.2, e2.1, e2.2, wrap16 (by omega) (by omega), by rw [hir, ← ht, if_pos ⟨h1, h2⟩]⟩
    have h360 := e111
    by_cases c2 : (numI (Lib.cut w [42]).2.1).2 = true
    · have ht : (numI (Lib.cut w [42]).2.1).1 = timesI (Lib.cut w [42]).2.1 := by unfold timesI; rw [if_pos c2]
      refine Round.no (by simp [c2]) (Round.bind (e127 _) ?_)
      by_cases c3 : inR (numI (Lib.cut w [42]).1).1 0 10000 = true
      case neg => exact Round.yes (by simpa using c3) (Round.done (bad (by rw [hir, if_neg (fun h => c3 h.1)]) (Evt.some _)))
      refine Round.no (by simp [c3]) (Round.bind (e128 c) ?_)
      rw [hs360]
      refine Round.bind (e111 _ _ _) ?_
      by_cases c4 : inR (numI (Lib.cut w [42]).2.1).1 1 (360 - (c.length : Int)) = true
      case neg => exact Round.yes (by simpa using c4) (Round.done (bad (by rw [hir, ← ht, if_neg (fun h => c4 h.2)]) (Evt.some _)))
      obtain ⟨d0, d1, d2, d3, d4, d5⟩ := both _ ht c3 c4
      refine Round.no (by simp [c4]) ?_
      rw [d4]
      have dk : (numI (Lib.cut w [42]).2.1).1 ≤ 360 := by omega
      refine Round.bind (e129 _ _ d2 dk) (Round.chk (decide_eq_true (by simp; omega)) (Round.again _ ⟨_, ?_, good _ d5⟩))
      rw [hws]
    · have ht : (1 : Int) = timesI (Lib.cut w [42]).2.1 := by unfold timesI; rw [if_neg c2]
      refine Round.yes (by simp [c2]) (Round.bind (e127 _) ?_)
      by_cases c3 : inR (numI (Lib.cut w [42]).1).1 0 10000 = true
      case neg => exact Round.yes (by simpa using c3) (Round.done (bad (by rw [hir, if_neg (fun h => c3 h.1)]) (Evt.some _)))
      refine Round.no (by simp [c3]) (Round.bind (e128 c) ?_)
      rw [hs360]
      refine Round.bind (e111 _ _ _) ?_
      by_cases c4 : inR 1 1 (360 - (c.length : Int)) = true
      case neg => exact Round.yes (by simpa using c4) (Round.done (bad (by rw [hir, ← ht, if_neg (fun h => c4 h.2)]) (Evt.some _)))
      obtain ⟨d0, d1, d2, d3, d4, d5⟩ := both _ ht c3 c4
      refine Round.no (by simp [c4]) ?_
      rw [d4]
      refine Round.bind (e129 _ _ d2 (by omega)) (Round.chk (decide_eq_true (by simp; omega)) (Round.again _ ⟨_, ?_, good _ d5⟩))
      rw [hws]
  · intro c hL
    rw [Int.toNat_natCast, List.take_length] at hL
    have G := irW_fold _ good0 hL
    have hr := G.rng
    have hg := G.1
    rw [hL] at hrd
    simp only at hrd
    dsimp only
    refine Round.no (by rw [hlm]; simp) (Round.bind (e34 c (by omega)) ?_)
    cases ho : okC c with
    | false =>
      rw [hrd, if_neg (fun h => by rw [ho] at h; cases h.1)]
      exact Round.yes rfl (Round.done (Evt.some _))
    | true =>
      have hct : camT c = tx (camJ c) := if_pos ho
      have hcl := okC_len ho
      refine Round.no (by simp) (Round.bind (e27 c hr) ?_)
      rw [hct]
      simp only [tx_toList]
      by_cases hq : camJ c = l
      · have e9 : rdC l = (c, 0) := by rw [hrd, if_pos ⟨ho, hq⟩]
        rw [e9, hq]
        exact Round.no (by simp) (Round.bind (e130 c (by omega) (by omega)) (Round.done (Evt.some _)))
      · have e9 : rdC l = ([], 5) := by rw [hrd, if_neg (fun h => hq h.2)]
        rw [e9]
        exact Round.yes (by simpa using hq) (Round.done (Evt.some _))
/- impl.short -/
theorem e101 (l : List UInt8) (hl : l.length ≤ 10000000) : Evt (fun n => call T C n 101 (tx l, ())) ((shortI l, ()), ()) := by
  refine Evt.next (Evt.bind (e126_2 l hl) ?_) (fun n => r101 n (tx l))
  unfold shortI
  by_cases h : wr .i64 (wr .i16 (numI l).1) = (numI l).1
  · rw [if_pos h]
    exact Evt.no (by simpa using h) (Evt.some _)
  · rw [if_neg h]
    exact Evt.yes (by simpa using h) (Evt.some _)
/- impl.ReadShafts -/
theorem e10 (l : List UInt8) (hl : l.length ≤ 1048576) : Evt (fun n => call T C n 10 (tx l, ())) (((rdS l).1, (rdS l).2, ()), ()) := by
  have htl : (Lib.trimSuffix l [10]).length ≤ l.length := by
    unfold Lib.trimSuffix
    split
    · rw [List.length_take]; omega
    · exact Nat.le_refl _
  refine Evt.next (Evt.bind (e99 l [10] (by omega)) (Evt.bind (e98_2 10 (Lib.trimSuffix l [10]) (by omega)) ?_)) (fun n => r10 n (tx l))
  have hn := splitC_len 10 (Lib.trimSuffix l [10])
  have hw := splitC_wlen (c := 10) (l := Lib.trimSuffix l [10])
  have hrd := rdS_eq l
  generalize splitC 10 (Lib.trimSuffix l [10]) = ws at hn hw hrd
  have hlm : (((ws.map tx).length : Nat) : Int) = (ws.length : Int) := by simp
  refine for_evt' 0 (ws.length : Int) (fun i (L : List Sft) => (tx l, L, ws.map tx, (((ws.map tx).length : Nat) : Int), i, ())) (fun i L => mapO irSh (ws.take i.toNat) = some L) (b0 := []) rfl (by omega) rfl ?_ ?_
  · intro i L i0 i1 hL
    obtain ⟨i, rfl⟩ := Int.eq_ofNat_of_zero_le i0
    rw [Int.toNat_natCast] at hL
    obtain ⟨w, hi⟩ : ∃ w, ws[i]? = some w := ⟨_, List.getElem?_eq_getElem (by omega)⟩
    have hwl := hw w (List.mem_of_getElem? hi)
    have hvi : idx (ws.map tx) (i : Int) = some (tx w) := by
      unfold idx
      rw [if_pos (by omega), Int.toNat_natCast, List.getElem?_map, hi]; rfl
    have bad : irSh w = none → ∀ {f : Nat → Option ((List Sft × Int × Unit) × Unit)}, Evt f ((([] : List Sft), (5 : Int), ()), ()) → Evt f (((rdS l).1, (rdS l).2, ()), ()) := fun h f hf => by
      have : rdS l = ([], 5) := by rw [hrd, mapO_none h (List.mem_of_getElem? hi)]
      rw [this]; exact hf
    have hws := wr_succ (i := (i : Int)) i0 i1 (by omega)
    have hll := (mapO_el hL).1
    have htk : (ws.take i).length ≤ i := by rw [List.length_take]; omega
    have h4 := splitN4_len w
    have hSN := e100 w (by omega)
    have hwr : ∀ v ∈ splitN4 w, v.length ≤ w.length := fun v hv => splitK_wlen _ _ v hv
    have hir : irSh w = match splitN4 w with
      | [a, b, c, r] => if (rdC r).2 = 0 then some (shortI a, shortI b, shortI c, (rdC r).1, ()) else none
      | _ => none := rfl
    generalize splitN4 w = ps at h4 hSN hwr hir
    dsimp only
    refine Round.yes (decide_eq_true (by rw [hlm]; exact i1)) (Round.at hvi (Round.bind hSN ?_))
    by_cases hp : ps.length = 4
    case neg =>
      refine Round.yes (by simp; omega) (Round.done (bad ?_ (Evt.some _)))
      rw [hir]
      match ps, hp with
      | [a, b, c, r], hp => exact absurd rfl hp
      | [], _ => rfl
      | [_], _ => rfl
      | [_, _], _ => rfl
      | [_, _, _], _ => rfl
      | _ :: _ :: _ :: _ :: _ :: _, _ => rfl
    obtain ⟨a, b, c, r, rfl⟩ : ∃ a b c r, ps = [a, b, c, r] := by
      match ps, hp with
      | [a, b, c, r], _ => exact ⟨a, b, c, r, rfl⟩
    have la := hwr a (by simp)
    have lb := hwr b (by simp)
    have lc := hwr c (by simp)
    have lr := hwr r (by simp)
    refine Round.no (by simp) (Round.chk (by simp) (Round.at (v := tx r) rfl (Round.bind (e26 r (by omega)) ?_)))
    by_cases hc : (rdC r).2 = 0
    case neg => exact Round.yes (by simpa using hc) (Round.done (bad (by rw [hir]; exact if_neg hc) (Evt.some _)))
    refine Round.no (by simpa using hc) (Round.chk (by simp) (Round.at (v := tx a) rfl (Round.bind (e101 a (by omega)) (Round.chk (by simp) (Round.at (v := tx b) rfl (Round.bind (e101 b (by omega)) (Round.chk (by simp) (Round.at (v := tx c) rfl (Round.bind (e101 c (by omega)) ?_)))))))))
    refine Round.chk (decide_eq_true (by simp only [List.length_singleton]; omega)) (Round.again _ ⟨L ++ [(shortI a, shortI b, shortI c, (rdC r).1, ())], ?_, ?_⟩)
    · rw [hws]
    · rw [show ((i : Int) + 1).toNat = i + 1 by omega, List.take_add_one, hi]
      exact mapO_snoc (by rw [hir]; exact if_pos hc) hL
  · intro L hL
    rw [Int.toNat_natCast, List.take_length] at hL
    have hel := (mapO_el hL).1
    have hS : Small L := ⟨by omega, fun s hs => by
      obtain ⟨x, _, hx⟩ := (mapO_el hL).2 s hs
      have := (irSh_rng hx).2
      omega⟩
    have hr : ∀ s ∈ L, RngSf s := fun s hs => by
      obtain ⟨x, _, hx⟩ := (mapO_el hL).2 s hs
      exact (irSh_rng hx).1
    rw [hL] at hrd
    simp only at hrd
    dsimp only
    refine Round.no (by rw [hlm]; simp) (Round.bind (e16 L hS) ?_)
    cases ho : okA L with
    | false =>
      rw [hrd, if_neg (fun h => by rw [ho] at h; cases h.1)]
      exact Round.yes rfl (Round.done (Evt.some _))
    | true =>
      have hst : shR L = tx (shT L) := if_pos ho
      refine Round.no (by simp) (Round.bind (e11 L hS hr) ?_)
      rw [hst]
      simp only [tx_toList]
      by_cases hq : shT L = l
      · have e9 : rdS l = (L, 0) := by rw [hrd, if_pos ⟨ho, hq⟩]
        rw [e9, hq]
        exact Round.no (by simp) (Round.done (Evt.some _))
      · have e9 : rdS l = ([], 5) := by rw [hrd, if_neg (fun h => hq h.2)]
        rw [e9]
        exact Round.yes (by simpa using hq) (Round.done (Evt.some _))
/- impl.codeIf -/
theorem e116 (c : Bool) (v : Int) : Evt (fun n => call T C n 116 (c, v, ())) (((if c = true then v else 0), ()), ()) := by
  refine Evt.next ?_ (fun n => r116 n c v)
  cases c with
  | true => exact Evt.yes rfl (Evt.some _)
  | false => exact Evt.no (by simp) (Evt.some _)
/- impl.firstCode -/
theorem e115 (l : List Int) (hl : (l.length : Int) ≤ 140737488351232) : Evt (fun n => call T C n 115 (l, ())) ((fst0 l, ()), ()) := by
  refine Evt.next ?_ (fun n => r115 n l)
  refine loop_evt (fun (x : List Int × Int × Int × Unit) => x.1 = l ∧ x.2.1 = (l.length : Int) ∧ 0 ≤ x.2.2.1 ∧ x.2.2.1 ≤ (l.length : Int) ∧ fst0 l = fst0 (l.drop x.2.2.1.toNat)) (fun (x : List Int × Int × Int × Unit) => ((l.length : Int) - x.2.2.1).toNat) (x := (l, (l.length : Int), 0, ())) ⟨rfl, rfl, Int.le_refl _, by simp, by simp⟩ ?_
  rintro ⟨x1, m, i, _⟩ ⟨h', hm, h0, h1, h2⟩
  simp only at h' hm h0 h1 h2
  subst h'; subst hm
  refine Round.ite (fun hlt => ?_) (fun hge => ?_)
  · have hlt : i < (x1.length : Int) := of_decide_eq_true hlt
    obtain ⟨v, hv, hv'⟩ := idx_at h0 hlt
    have hd := drop_cons hv'
    refine Round.at hv (Round.ite (fun hb => ?_) (fun hb => ?_))
    · have hb : v ≠ 0 := by simpa using hb
      have h3 : fst0 x1 = v := by rw [h2, hd]; simp [fst0, hb]
      rw [h3]
      exact Round.done (Evt.some _)
    · have hb : v = 0 := by simpa using hb
      have hw : wr .i64 (i + 1) = i + 1 := wrap_id (by omega) (by omega)
      refine Round.again _ ⟨⟨rfl, rfl, ?_, ?_, ?_⟩, ?_⟩ <;> simp only [hw]
      · omega
      · omega
      · rw [h2, hd, show (i + 1).toNat = i.toNat + 1 by omega]
        simp [fst0, hb]
      · omega
  · have hge : ¬ i < (x1.length : Int) := by simpa using hge
    have : x1.drop i.toNat = [] := List.drop_of_length_le (by omega)
    rw [h2, this]
    exact Round.done (Evt.some _)
/- impl.common -/
theorem e214 (a b : Nat) : Evt (fun n => call T C n 214 ((a : Int), (b : Int), ())) ((((Nat.gcd a b : Nat) : Int), ()), ()) := by
  refine Evt.next ?_ (fun n => r214 n a b)
  refine loop_evt (fun (x : Int × Int × Unit) => ∃ p q : Nat, x = ((p : Int), (q : Int), ()) ∧ Nat.gcd p q = Nat.gcd a b) (fun (x : Int × Int × Unit) => x.2.1.toNat) (x := ((a : Int), (b : Int), ())) ⟨a, b, rfl, rfl⟩ ?_
  rintro x ⟨p, q, rfl, hg⟩
  refine Round.ite (fun h => ?_) (fun h => ?_)
  · have h : q ≠ 0 := by simpa using h
    refine Round.chk (by simpa using h) ?_
    refine Round.again _ ⟨⟨q, p % q, ?_, ?_⟩, ?_⟩
    · simp only [Int.ofNat_tmod]
    · rw [← hg, Nat.gcd_comm p q, Nat.gcd_rec q p, Nat.gcd_comm]
    · show (Int.tmod (p : Int) (q : Int)).toNat < ((q : Int)).toNat
      rw [← Int.ofNat_tmod]
      have := Nat.mod_lt p (show q > 0 by omega)
      omega
  · have h : q = 0 := by simpa using h
    subst h
    rw [← hg, Nat.gcd_zero_right]
    exact Round.done (Evt.some _)
theorem e214' {a b : Int} (ha : 0 ≤ a) (hb : 0 ≤ b) : Evt (fun n => call T C n 214 (a, b, ())) ((gg a b, ()), ()) := by
  have := e214 a.toNat b.toNat
  rw [show ((a.toNat : Nat) : Int) = a by omega, show ((b.toNat : Nat) : Int) = b by omega] at this
  exact this
/- (impl.Shaft).period -/
theorem e120 {s : Sft} (h : Good s) : Evt (fun n => call T C n 120 (s, ())) ((own s, ()), ()) := by
  have h1 := dl_eq h
  have hg := gg_pos (a := dl s) (b := wr .i64 s.1) (by omega)
  refine Evt.next (Evt.bind (e128 _) (Evt.bind (e214' (a := dl s) (by omega) (by have := h.num; omega)) (Evt.chk ?_ (Evt.some _)))) (fun n => r120 n s)
  exact bne_pos hg
/- impl.periodOf -/
theorem e210 (l : List Sft) (hok : okA l = true) : Evt (fun n => call T C n 210 (l, ())) (perR l, ()) := by
  have hG := okA_good hok
  refine Evt.next ?_ (fun n => r210 n l)
  refine loop_evt (fun (x : Int × List Sft × Int × Int × Unit) => x.2.1 = l ∧ x.2.2.1 = (l.length : Int) ∧ 1 ≤ x.1 ∧ x.1 ≤ 20000 ∧ 0 ≤ x.2.2.2.1 ∧ x.2.2.2.1 ≤ (l.length : Int) ∧ per l 1 = per (l.drop x.2.2.2.1.toNat) x.1) (fun (x : Int × List Sft × Int × Int × Unit) => ((l.length : Int) - x.2.2.2.1).toNat) (x := (1, l, (l.length : Int), 0, ())) ⟨rfl, rfl, by simp, by simp, by simp, by simp, by simp⟩ ?_
  rintro ⟨t, x1, m, i, _⟩ ⟨h', hm, t0, t1, h0, h1, h2⟩
  simp only at h' hm t0 t1 h0 h1 h2
  subst h'; subst hm
  refine Round.ite (fun hlt => ?_) (fun hge => ?_)
  · have hlt : i < (x1.length : Int) := of_decide_eq_true hlt
    obtain ⟨v, hv, hv'⟩ := idx_at h0 hlt
    have hd := drop_cons hv'
    have hgv := hG.2 v (List.mem_of_getElem? hv')
    have ho := own_eq hgv
    have hg := gg_pos (a := t) (b := own v) (by omega)
    refine Round.at hv (Round.bind (e120 hgv) (Round.bind (e214' (a := t) (b := own v) (by omega) (by omega)) (Round.chk (bne_pos hg) ?_)))
    refine Round.ite (fun hb => ?_) (fun hb => ?_)
    · have hb : nxt t v > 20000 := of_decide_eq_true hb
      have h3 : per x1 1 = none := by rw [h2, hd]; simp [per, hb]
      unfold perR
      rw [h3]
      exact Round.done (Evt.some _)
    · have hb : ¬ nxt t v > 20000 := by simpa [nxt] using hb
      have hw : wr .i64 (i + 1) = i + 1 := wrap_id (by omega) (by omega)
      have hp := nxt_pos hgv t0 t1
      refine Round.again _ ⟨⟨rfl, rfl, hp, by show nxt t v ≤ 20000; omega, ?_, ?_, ?_⟩, ?_⟩ <;> simp only [hw]
      · omega
      · omega
      · rw [h2, hd, show (i + 1).toNat = i.toNat + 1 by omega]
        simp only [per]
        rw [if_neg hb]
        rfl
      · omega
  · have hge : ¬ i < (x1.length : Int) := by simpa using hge
    have : x1.drop i.toNat = [] := List.drop_of_length_le (by omega)
    have h3 : per x1 1 = some t := by rw [h2, this]; rfl
    unfold perR
    rw [h3]
    exact Round.done (Evt.some _)
/- impl.shaftsCode -/
theorem e105 (l : List Sft) (hl : Small l) (room : Bool) : Evt (fun n => call T C n 105 (l, room, ())) (codeR l room, ()) := by
  refine Evt.next (Evt.bind (e16 l hl) (Evt.bind (e116 _ _) (Evt.bind (e116 _ _) (Evt.bind (e115 _ (by simp)) ?_)))) (fun n => r105 n l room)
  unfold codeR
  cases hok : okA l with
  | false =>
    refine Evt.yes (by simp [fst0]) ((Evt.some _).of_eq fun n => ?_)
    simp [fst0]
    rfl
  | true =>
    cases room with
    | false =>
      refine Evt.yes (by simp [fst0]) ((Evt.some _).of_eq fun n => ?_)
      simp [fst0]
      rfl
    | true =>
      refine Evt.no (by simp [fst0]) (Evt.bind (e210 l hok) (Evt.bind (e116 _ _) ((Evt.some _).of_eq fun n => ?_)))
      unfold perR allR
      cases per l 1 <;> rfl
/- impl.PeriodOfAll -/
theorem e12 {l : List Sft} (hl : Small l) {p : Int} (h : codeR l true = (p, 0, ())) : Evt (fun n => call T C n 12 (l, ())) ((p, 0, ()), ()) := by
  have hc := e105 l hl true
  rw [h] at hc
  exact Evt.next (Evt.bind hc (Evt.no (by simp) (Evt.some _))) (fun n => r12 n l)
theorem e12_2 {l : List Sft} (hl : Small l) (ok : okA l = true) : Evt (fun n => call T C n 12 (l, ())) (codeR l true, ()) := by
  refine Evt.next (Evt.bind (e105 l hl true) ?_) (fun n => r12 n l)
  have e : codeR l true = allR l := by unfold codeR; rw [if_neg (by simp [ok]), if_neg (by simp)]
  rw [e]
  unfold allR
  split
  · exact Evt.no (by simp) (Evt.some _)
  · exact Evt.yes rfl (Evt.some _)
/- spec.l00In -/
theorem e182 (a b c : Int) : Evt (fun n => call T C n 182 (a, b, c, ())) ((inR a b c, ()), ()) := by
  refine Evt.next ?_ (fun n => r182 n a b c)
  refine Evt.ite (fun h => ?_) (fun h => ?_)
  · refine (Evt.some _).of_eq fun n => ?_
    have h : b ≤ a := of_decide_eq_true h
    simp [inR, h]
    rfl
  · refine (Evt.some _).of_eq fun n => ?_
    have h : ¬ b ≤ a := by simpa using h
    simp [inR, h]
    rfl
/- spec.l01Steps -/
theorem e223 (a : Int) : Evt (fun n => call T C n 223 (a, ())) ((inR a 8 360, ()), ()) := Evt.next (Evt.bind (e182 a 8 360) (Evt.some _)) (fun n => r223 n a)
/- spec.l01Lift -/
theorem e224 (a : Int) : Evt (fun n => call T C n 224 (a, ())) ((inR a 0 10000, ()), ()) := Evt.next (Evt.bind (e182 a 0 10000) (Evt.some _)) (fun n => r224 n a)
/- spec.l01Ok -/
theorem e135 (l : List Int) (hl : (l.length : Int) ≤ 140737488351232) : Evt (fun n => call T C n 135 (l, ())) ((okC l, ()), ()) := by
  refine Evt.next ?_ (fun n => r135 n l)
  refine Evt.bind (e223 _) ?_
  refine Evt.ite (fun h => ?_) (fun h => ?_)
  · refine (Evt.some _).of_eq fun n => ?_
    have h : inR (l.length : Int) 8 360 = false := by simpa using h
    simp [okC, h]
    rfl
  · have h : inR (l.length : Int) 8 360 = true := by simpa using h
    have he : okC l = l.all okV := by simp [okC, h]
    rw [he]
    refine loop_evt (fun (x : List Int × Int × Unit) => x.1 = l ∧ 0 ≤ x.2.1 ∧ x.2.1 ≤ (l.length : Int) ∧ l.all okV = (l.drop x.2.1.toNat).all okV) (fun (x : List Int × Int × Unit) => ((l.length : Int) - x.2.1).toNat) (x := (l, 0, ())) ⟨rfl, Int.le_refl _, by simp, by simp⟩ ?_
    rintro ⟨x1, i, _⟩ ⟨h', h0, h1, h2⟩
    simp only at h' h0 h1 h2
    subst h'
    refine Round.ite (fun hlt => ?_) (fun hge => ?_)
    · have hlt : i < (x1.length : Int) := of_decide_eq_true hlt
      obtain ⟨v, hv, hv'⟩ := idx_at h0 hlt
      have hd := drop_cons hv'
      refine Round.at hv (Round.bind (e224 _) (Round.ite (fun hb => ?_) (fun hb => ?_)))
      · have hb : okV v = false := by simpa [okV] using hb
        have h3 : x1.all okV = false := by rw [h2, hd]; simp [hb]
        rw [h3]
        exact Round.done (Evt.some _)
      · have hb : okV v = true := by simpa [okV] using hb
        have hw : wr .i64 (i + 1) = i + 1 := wrap_id (by omega) (by omega)
        refine Round.again _ ⟨⟨rfl, ?_, ?_, ?_⟩, ?_⟩ <;> simp only [hw]
        · omega
        · omega
        · rw [h2, hd, show (i + 1).toNat = i.toNat + 1 by omega]
          simp [hb]
        · omega
    · have hge : ¬ i < (x1.length : Int) := by simpa using hge
      have : x1.drop i.toNat = [] := List.drop_of_length_le (by omega)
      rw [h2, this]
      exact Round.done (Evt.some _)
/- spec.l04Ok -/
theorem e121 (l : List Sft) (hl : Small l) : Evt (fun n => call T C n 121 (l, ())) ((okA l, ()), ()) := by
  refine Evt.next ?_ (fun n => r121 n l)
  refine Evt.bind (e182 _ _ _) ?_
  refine Evt.ite (fun h => ?_) (fun h => ?_)
  · refine (Evt.some _).of_eq fun n => ?_
    have h : inR (l.length : Int) 1 6 = false := by simpa using h
    simp [okA, h]
    rfl
  · have h : inR (l.length : Int) 1 6 = true := by simpa using h
    have he : okA l = l.all okS := by simp [okA, h]
    rw [he]
    have hl1 := hl.1
    refine loop_evt (fun (x : List Sft × Int × Unit) => x.1 = l ∧ 0 ≤ x.2.1 ∧ x.2.1 ≤ (l.length : Int) ∧ l.all okS = (l.drop x.2.1.toNat).all okS) (fun (x : List Sft × Int × Unit) => ((l.length : Int) - x.2.1).toNat) (x := (l, 0, ())) ⟨rfl, Int.le_refl _, by simp, by simp⟩ ?_
    rintro ⟨x1, i, _⟩ ⟨h', h0, h1, h2⟩
    simp only at h' h0 h1 h2
    subst h'
    refine Round.ite (fun hlt => ?_) (fun hge => ?_)
    · have hlt : i < (x1.length : Int) := of_decide_eq_true hlt
      obtain ⟨v, hv, hv'⟩ := idx_at h0 hlt
      have hd := drop_cons hv'
      have bad : okS v = false → x1.all okS = false := fun hb => by rw [h2, hd]; simp [hb]
      refine Round.at hv (Round.bind (e182 _ _ _) (Round.ite (fun hb => ?_) (fun hb1 => ?_)))
      · have hb : inR (wr .i64 v.1) 1 60 = false := by simpa using hb
        rw [bad (by simp [okS, hb])]
        exact Round.done (Evt.some _)
      refine Round.bind (e182 _ _ _) (Round.ite (fun hb => ?_) (fun hb2 => ?_))
      · have hb : inR (wr .i64 v.2.1) 1 60 = false := by simpa using hb
        rw [bad (by simp [okS, hb])]
        exact Round.done (Evt.some _)
      refine Round.bind (e135 _ (hl.get hv')) (Round.ite (fun hb => ?_) (fun hb3 => ?_))
      · have hb : okC v.2.2.2.1 = false := by simpa using hb
        rw [bad (by simp [okS, hb])]
        exact Round.done (Evt.some _)
      refine Round.bind (e182 _ _ _) (Round.ite (fun hb => ?_) (fun hb4 => ?_))
      · have hb : inR (wr .i64 v.2.2.1) 0 (wr .i64 ((v.2.2.2.1.length : Int) - 1)) = false := by simpa using hb
        rw [bad (by simp [okS, hb])]
        exact Round.done (Evt.some _)
      have hb : okS v = true := by
        simp only [Bool.not_eq_true', Bool.not_eq_false, cond_false] at hb1 hb2 hb3 hb4
        simp [okS, hb1, hb2, hb3, hb4]
      have hw : wr .i64 (i + 1) = i + 1 := wrap_id (by omega) (by omega)
      refine Round.again _ ⟨⟨rfl, ?_, ?_, ?_⟩, ?_⟩ <;> simp only [hw]
      · omega
      · omega
      · rw [h2, hd, show (i + 1).toNat = i.toNat + 1 by omega]
        simp [hb]
      · omega
    · have hge : ¬ i < (x1.length : Int) := by simpa using hge
      have : x1.drop i.toNat = [] := List.drop_of_length_le (by omega)
      rw [h2, this]
      exact Round.done (Evt.some _)
/- spec.l04Gcd -/
theorem e211 : ∀ (b a : Nat), Evt (fun n => call T C n 211 ((a : Int), (b : Int), ())) ((((Nat.gcd a b : Nat) : Int), ()), ()) := by
  intro b
  induction b using Nat.strongRecOn with
  | ind b ih =>
    intro a
    refine Evt.next ?_ (fun n => r211 n a b)
    refine Evt.ite (fun h => ?_) (fun h => ?_)
    · have h : b = 0 := by simpa using h
      subst h
      rw [Nat.gcd_zero_right]
      exact Evt.some _
    · have h : b ≠ 0 := by simpa using h
      refine Evt.chk (by simpa using h) ?_
      rw [← Int.ofNat_tmod]
      have := ih (a % b) (Nat.mod_lt _ (by omega)) b
      rw [show Nat.gcd a b = Nat.gcd b (a % b) by rw [Nat.gcd_comm a b, Nat.gcd_rec b a, Nat.gcd_comm]]
      exact Evt.bind this (Evt.some _)
theorem e211' {a b : Int} (ha : 0 ≤ a) (hb : 0 ≤ b) : Evt (fun n => call T C n 211 (a, b, ())) ((gg a b, ()), ()) := by
  have := e211 b.toNat a.toNat
  rw [show ((a.toNat : Nat) : Int) = a by omega, show ((b.toNat : Nat) : Int) = b by omega] at this
  exact this
/- spec.l04Own -/
theorem e123 {s : Sft} (h : Good s) : Evt (fun n => call T C n 123 (s, ())) ((own s, ()), ()) := by
  have h1 := dl_eq h
  have hg := gg_pos (a := dl s) (b := wr .i64 s.1) (by omega)
  refine Evt.next (Evt.bind (e211' (a := dl s) (by omega) (by have := h.num; omega)) (Evt.chk ?_ (Evt.some _))) (fun n => r123 n s)
  exact bne_pos hg
/- spec.l04All -/
theorem e106 (l : List Sft) (hl : Small l) (hok : okA l = true) : Evt (fun n => call T C n 106 (l, ())) (allR l, ()) := by
  have hG := okA_good hok
  refine Evt.next (Evt.bind (e121 l hl) ?_) (fun n => r106 n l)
  refine Evt.no (by simp [hok]) ?_
  refine loop_evt (fun (x : List Sft × Int × Int × Unit) => x.1 = l ∧ 1 ≤ x.2.1 ∧ x.2.1 ≤ 20000 ∧ 0 ≤ x.2.2.1 ∧ x.2.2.1 ≤ (l.length : Int) ∧ per l 1 = per (l.drop x.2.2.1.toNat) x.2.1) (fun (x : List Sft × Int × Int × Unit) => ((l.length : Int) - x.2.2.1).toNat) (x := (l, 1, 0, ())) ⟨rfl, by simp, by simp, by simp, by simp, by simp⟩ ?_
  rintro ⟨x1, t, i, _⟩ ⟨h', t0, t1, h0, h1, h2⟩
  simp only at h' t0 t1 h0 h1 h2
  subst h'
  refine Round.ite (fun hlt => ?_) (fun hge => ?_)
  · have hlt : i < (x1.length : Int) := of_decide_eq_true hlt
    obtain ⟨v, hv, hv'⟩ := idx_at h0 hlt
    have hd := drop_cons hv'
    have hgv := hG.2 v (List.mem_of_getElem? hv')
    have ho := own_eq hgv
    have hg := gg_pos (a := t) (b := own v) (by omega)
    refine Round.at hv (Round.bind (e123 hgv) (Round.bind (e211' (a := t) (b := own v) (by omega) (by omega)) (Round.chk (bne_pos hg) ?_)))
    refine Round.ite (fun hb => ?_) (fun hb => ?_)
    · have hb : nxt t v > 20000 := of_decide_eq_true hb
      have h3 : per x1 1 = none := by rw [h2, hd]; simp [per, hb]
      unfold allR
      rw [h3]
      exact Round.done (Evt.some _)
    · have hb : ¬ nxt t v > 20000 := by simpa [nxt] using hb
      have hw : wr .i64 (i + 1) = i + 1 := wrap_id (by omega) (by omega)
      have hp := nxt_pos hgv t0 t1
      refine Round.again _ ⟨⟨rfl, hp, by show nxt t v ≤ 20000; omega, ?_, ?_, ?_⟩, ?_⟩ <;> simp only [hw]
      · omega
      · omega
      · rw [h2, hd, show (i + 1).toNat = i.toNat + 1 by omega]
        simp only [per]
        rw [if_neg hb]
        rfl
      · omega
  · have hge : ¬ i < (x1.length : Int) := by simpa using hge
    have : x1.drop i.toNat = [] := List.drop_of_length_le (by omega)
    have h3 : per x1 1 = some t := by rw [h2, this]; rfl
    unfold allR
    rw [h3]
    exact Round.done (Evt.some _)
theorem e106' (l : List Sft) (hl : Small l) : Evt (fun n => call T C n 106 (l, ())) (codeR l true, ()) := by
  cases hok : okA l with
  | true =>
    have h := e106 l hl hok
    unfold codeR
    rw [if_neg (by simp [hok]), if_neg (by simp)]
    exact h
  | false =>
    unfold codeR
    rw [if_pos hok]
    refine Evt.next (Evt.bind (e121 l hl) ?_) (fun n => r106 n l)
    exact Evt.yes (by simp [hok]) (Evt.some _)
/- spec.PeriodOfAll -/
theorem e13 (l : List Sft) (hl : Small l) : Evt (fun n => call T C n 13 (l, ())) (codeR l true, ()) := Evt.next (Evt.bind (e106' l hl) (Evt.some _)) (fun n => r13 n l)
/- slices.Equal[impl.Cam,int16] -/
theorem e109 (a b : List Int) (hl : (a.length : Int) ≤ 1000000) : Evt (fun n => call T C n 109 (a, b, ())) ((decide (a = b), ()), ()) := by
  by_cases hlen : a.length = b.length
  · refine Evt.next (Evt.no (by simp [hlen]) ?_) (fun n => r109 n a b)
    refine for_evt' 0 (a.length : Int) (fun i (_ : Unit) => (a, b, (a.length : Int), i, ())) (fun i _ => a.take i.toNat = b.take i.toNat) (b0 := ()) rfl (by omega) (by simp) ?_ ?_
    · intro i _ h2 h3 he
      obtain ⟨u, hu⟩ := at_of h2 h3
      obtain ⟨v, hv⟩ := at_of (l := b) h2 (by omega)
      refine Round.yes (decide_eq_true h3) (Round.at hu.idx (Round.at hv.idx (Round.ite (fun h => ?_) (fun h => ?_))))
      · have h : u ≠ v := by simpa using h
        have : a ≠ b := fun e => by
          subst e
          have := hu.get.symm.trans hv.get
          exact h (Option.some.inj this)
        rw [decide_eq_false this]
        exact Round.done (Evt.some _)
      · have h : u = v := by simpa using h
        exact Round.again _ ⟨(), by rw [wr_succ h2 h3 (by omega)], by rw [hu.take, hv.take, he, h]⟩
    · intro _ he
      have he : a = b := by rwa [take_all, hlen, take_all] at he
      rw [decide_eq_true he]
      exact Round.no (by simp) (Round.done (Evt.some _))
  · have : a ≠ b := fun e => hlen (by rw [e])
    rw [decide_eq_false this]
    exact Evt.next (Evt.yes (by simp; omega) (Evt.some _)) (fun n => r109 n a b)
/- impl.SameShafts$1 -/
theorem e108 (s : Sft) (hl : (s.2.2.2.1.length : Int) ≤ 1000000) : Evt (fun n => call T C n 108 (s, s, ())) ((true, ()), ()) := by
  have hE := e109 s.2.2.2.1 s.2.2.2.1 hl
  rw [decide_eq_true rfl] at hE
  exact Evt.next (Evt.yes (by simp) (Evt.yes (by simp) (Evt.yes (by simp) (Evt.bind hE (Evt.some _))))) (fun n => r108 n s s)
/- slices.EqualFunc[[]impl.Shaft,[]impl.Shaft,impl.Shaft,impl.Shaft]{impl.SameShafts$1} -/
theorem e107 (l : List Sft) (hl : l.length ≤ 1000) (hs : ∀ s ∈ l, (s.2.2.2.1.length : Int) ≤ 1000000) : Evt (fun n => call T C n 107 (l, l, ((), ()), ())) ((true, ()), ()) := by
  refine Evt.next (Evt.no (by simp) ?_) (fun n => r107 n l l ((), ()))
  refine for_evt' 0 (l.length : Int) (fun i (_ : Unit) => (l, ((), ()), l, (l.length : Int), i, ())) (fun _ _ => True) (b0 := ()) rfl (by omega) trivial ?_ ?_
  · intro i _ i0 i1 _
    obtain ⟨s, h⟩ := at_of i0 i1
    refine Round.yes (decide_eq_true i1) (Round.at h.idx (Round.at h.idx (Round.bind (e108 s (hs s h.mem)) (Round.no (by simp) (Round.again _ ⟨(), ?_, trivial⟩)))))
    rw [wr_succ i0 i1 (by omega)]
  · intro _ _
    exact Round.no (by simp) (Round.done (Evt.some _))
/- impl.SameShafts -/
theorem e14 (l : List Sft) (hl : l.length ≤ 1000) (hs : ∀ s ∈ l, (s.2.2.2.1.length : Int) ≤ 1000000) : Evt (fun n => call T C n 14 (l, l, ())) ((true, ()), ()) :=
  Evt.next (Evt.bind (e107 l hl hs) (Evt.some _)) (fun n => r14 n l l)
/- spec.l01Same -/
theorem e138 (l : List Int) (hl : (l.length : Int) ≤ 1000000) : Evt (fun n => call T C n 138 (l, l, ())) ((true, ()), ()) := by
  refine Evt.next (Evt.no (by simp) ?_) (fun n => r138 n l l)
  refine for_evt' 0 (l.length : Int) (fun i (_ : Unit) => (l, l, i, ())) (fun _ _ => True) (b0 := ()) rfl (by omega) trivial ?_ ?_
  · intro i _ h2 h3 _
    obtain ⟨v, hv⟩ := at_of h2 h3
    exact Round.yes (decide_eq_true h3) (Round.at hv.idx (Round.at hv.idx (Round.no (by simp) (Round.again _ ⟨(), by rw [wr_succ h2 h3 (by omega)], trivial⟩))))
  · intro _ _
    exact Round.no (by simp) (Round.done (Evt.some _))
theorem e138_2 (a b : List Int) (hl : (a.length : Int) ≤ 1000000) : Evt (fun n => call T C n 138 (a, b, ())) ((decide (a = b), ()), ()) := by
  by_cases hlen : a.length = b.length
  · refine Evt.next (Evt.no (by simp [hlen]) ?_) (fun n => r138 n a b)
    refine for_evt' 0 (a.length : Int) (fun i (_ : Unit) => (a, b, i, ())) (fun i _ => a.take i.toNat = b.take i.toNat) (b0 := ()) rfl (by omega) (by simp) ?_ ?_
    · intro i _ h2 h3 he
      obtain ⟨u, hu⟩ := at_of h2 h3
      obtain ⟨v, hv⟩ := at_of (l := b) h2 (by omega)
      refine Round.yes (decide_eq_true h3) (Round.at hu.idx (Round.at hv.idx (Round.ite (fun h => ?_) (fun h => ?_))))
      · have h : u ≠ v := by simpa using h
        have : a ≠ b := fun e => by
          subst e
          have := hu.get.symm.trans hv.get
          exact h (Option.some.inj this)
        rw [decide_eq_false this]
        exact Round.done (Evt.some _)
      · have h : u = v := by simpa using h
        exact Round.again _ ⟨(), by rw [wr_succ h2 h3 (by omega)], by rw [hu.take, hv.take, he, h]⟩
    · intro _ he
      have he : a = b := by rwa [take_all, hlen, take_all] at he
      rw [decide_eq_true he]
      exact Round.no (by simp) (Round.done (Evt.some _))
  · have : a ≠ b := fun e => hlen (by rw [e])
    rw [decide_eq_false this]
    exact Evt.next (Evt.yes (by simp; omega) (Evt.some _)) (fun n => r138 n a b)
/- spec.l04Same -/
theorem e110 (l : List Sft) (hl : l.length ≤ 1000) (hs : ∀ s ∈ l, (s.2.2.2.1.length : Int) ≤ 1000000) : Evt (fun n => call T C n 110 (l, l, ())) ((true, ()), ()) := by
  refine Evt.next (Evt.no (by simp) ?_) (fun n => r110 n l l)
  refine for_evt' 0 (l.length : Int) (fun i (_ : Unit) => (l, l, i, ())) (fun _ _ => True) (b0 := ()) rfl (by omega) trivial ?_ ?_
  · intro i _ i0 i1 _
    obtain ⟨s, h⟩ := at_of i0 i1
    refine Round.yes (decide_eq_true i1) (Round.at h.idx (Round.at h.idx (Round.no (by simp) (Round.at h.idx (Round.at h.idx (Round.no (by simp) (Round.at h.idx (Round.at h.idx (Round.no (by simp) (Round.at h.idx (Round.at h.idx (Round.bind (e138 s.2.2.2.1 (hs s h.mem)) (Round.no (by simp) (Round.again _ ⟨(), ?_, trivial⟩))))))))))))))
    rw [wr_succ i0 i1 (by omega)]
  · intro _ _
    exact Round.no (by simp) (Round.done (Evt.some _))
/- spec.SameShafts -/
theorem e15 (l : List Sft) (hl : l.length ≤ 1000) (hs : ∀ s ∈ l, (s.2.2.2.1.length : Int) ≤ 1000000) : Evt (fun n => call T C n 15 (l, l, ())) ((true, ()), ()) :=
  Evt.next (Evt.bind (e110 l hl hs) (Evt.some _)) (fun n => r15 n l l)
/- laws.a2At -/
theorem e17 {b : List Int} (hb : ∀ v ∈ b, 0 ≤ v ∧ v ≤ 255) {i m : Int} (i0 : 0 ≤ i) (m1 : 1 ≤ m) : ∃ v : Int, Evt (fun n => call T C n 17 (b, i, m, ())) ((v, ()), ()) ∧ 0 ≤ v ∧ v < m := by
  by_cases h : i < (b.length : Int)
  · obtain ⟨v, hv⟩ := at_of i0 h
    have hvb := hb v hv.mem
    have ev : wr .i64 v = v := wrap_id (by omega) (by omega)
    refine ⟨Int.tmod v m, Evt.next (Evt.no (by simp; omega) (Evt.no (by simp; omega) (Evt.at hv.idx (Evt.chk (bne_pos (by omega)) ((Evt.some _).of_eq fun n => ?_))))) (fun n => r17 n b i m), Int.tmod_nonneg m hvb.1, Int.tmod_lt_of_pos v (by omega)⟩
    rw [ev]
    rfl
  · exact ⟨0, Evt.next (Evt.yes (decide_eq_true (by omega)) (Evt.some _)) (fun n => r17 n b i m), by omega, by omega⟩
/- (impl.Shaft).step -/
theorem e119 {s : Sft} (h : Good s) (t : Int) {p : Int} (h0 : 0 ≤ p) (h1 : p ≤ 360) : Evt (fun n => call T C n 119 (s, t, p, ())) ((stp (withP s p) t, ()), ()) := by
  refine Evt.next (Evt.chk (den_ne h) (Evt.bind (e128 _) (Evt.chk (len_ne h) ((Evt.some _).of_eq fun n => ?_)))) (fun n => r119 n s t p)
  unfold stp withP
  simp only [wrap_id (x := p) (by omega) (by omega)]
  rfl
/- (impl.Shaft).lift -/
theorem e261 {s : Sft} (h : Good s) {t : Int} (h0 : 0 ≤ t) (h1 : t ≤ 20000) {p : Int} (p0 : 0 ≤ p) (p1 : p ≤ 360) : Evt (fun n => call T C n 261 (s, t, p, ())) ((lift (withP s p) t, ()), ()) := by
  obtain ⟨⟨v, hv, he⟩, _⟩ := lift_eq (h.withP p0 p1) h0 h1
  rw [he]
  refine Evt.next (Evt.bind (e119 h t p0 p1) ?_) (fun n => r261 n s t p)
  exact Evt.at hv (Evt.some ((wr .i64 v, ()), ()))
theorem e261_2 {s : Sft} (h : Good s) {t : Int} (h0 : 0 ≤ t) (h1 : t ≤ 1000000) {p : Int} (p0 : 0 ≤ p) (p1 : p ≤ 360) : Evt (fun n => call T C n 261 (s, t, p, ())) ((lift (withP s p) t, ()), ()) := by
  obtain ⟨⟨v, hv, he⟩, _⟩ := lift_eq2 (h.withP p0 p1) h0 h1
  rw [he]
  refine Evt.next (Evt.bind (e119 h t p0 p1) ?_) (fun n => r261 n s t p)
  exact Evt.at hv (Evt.some ((wr .i64 v, ()), ()))
/- (impl.Shaft).now -/
theorem e213 {s : Sft} (h : Good s) {t : Int} (h0 : 0 ≤ t) (h1 : t ≤ 20000) : Evt (fun n => call T C n 213 (s, t, ())) ((lift s t, ()), ()) := by
  have e := e261 h h0 h1 (p := wr .i64 s.2.2.1) h.ph.1 h.ph.2
  rw [lift_wr h t] at e
  exact Evt.next (Evt.bind e (Evt.some _)) (fun n => r213 n s t)
theorem e213_2 {s : Sft} (h : Good s) {t : Int} (h0 : 0 ≤ t) (h1 : t ≤ 1000000) : Evt (fun n => call T C n 213 (s, t, ())) ((lift s t, ()), ()) := by
  have e := e261_2 h h0 h1 (p := wr .i64 s.2.2.1) h.ph.1 h.ph.2
  rw [lift_wr h t] at e
  exact Evt.next (Evt.bind e (Evt.some _)) (fun n => r213 n s t)
/- impl.liftsOn -/
theorem e117 (l : List Sft) (hG : (1 ≤ (l.length : Int) ∧ (l.length : Int) ≤ 6) ∧ ∀ s ∈ l, Good s) {t : Int} (t0 : 0 ≤ t) (t1 : t ≤ 20000) : Evt (fun n => call T C n 117 (l, t, ())) ((l.map (lift · t), ()), ()) := by
  refine Evt.next ?_ (fun n => r117 n l t)
  refine loop_evt (fun (x : Int × List Int × List Sft × Int × Int × Unit) => x.1 = t ∧ x.2.2.1 = l ∧ x.2.2.2.1 = (l.length : Int) ∧ 0 ≤ x.2.2.2.2.1 ∧ x.2.2.2.2.1 ≤ (l.length : Int) ∧ x.2.1 = (l.take x.2.2.2.2.1.toNat).map (lift · t)) (fun (x : Int × List Int × List Sft × Int × Int × Unit) => ((l.length : Int) - x.2.2.2.2.1).toNat) (x := (t, [], l, (l.length : Int), 0, ())) ⟨rfl, rfl, rfl, Int.le_refl _, by simp, by simp⟩ ?_
  rintro ⟨tt, m, x1, mm, i, _⟩ ⟨h', h'', hmm, h0, h1, hm⟩
  simp only at h' h'' hmm h0 h1 hm
  subst h'; subst h''; subst hmm
  have hG1 := hG.1
  refine Round.ite (fun hlt => ?_) (fun hge => ?_)
  · have hlt : i < (x1.length : Int) := of_decide_eq_true hlt
    obtain ⟨v, hv, hv'⟩ := idx_at h0 hlt
    have hw : wr .i64 (i + 1) = i + 1 := wrap_id (by omega) (by omega)
    have hml : m.length ≤ 6 := by rw [hm]; simp; omega
    refine Round.at hv (Round.bind (e213 (hG.2 v (List.mem_of_getElem? hv')) t0 t1) (Round.chk (by simp; omega) (Round.again _ ⟨⟨rfl, rfl, rfl, ?_, ?_, ?_⟩, ?_⟩))) <;> simp only [hw]
    · omega
    · omega
    · rw [hm, show (i + 1).toNat = i.toNat + 1 by omega, List.take_add_one, hv']
      simp
    · omega
  · have hge : ¬ i < (x1.length : Int) := by simpa using hge
    have : m = x1.map (lift · tt) := by rw [hm, List.take_of_length_le (by omega)]
    rw [← this]
    exact Round.done (Evt.some _)
theorem e117_2 (l : List Sft) (hG : (1 ≤ (l.length : Int) ∧ (l.length : Int) ≤ 6) ∧ ∀ s ∈ l, Good s) {t : Int} (t0 : 0 ≤ t) (t1 : t ≤ 1000000) : Evt (fun n => call T C n 117 (l, t, ())) ((l.map (lift · t), ()), ()) := by
  refine Evt.next ?_ (fun n => r117 n l t)
  refine loop_evt (fun (x : Int × List Int × List Sft × Int × Int × Unit) => x.1 = t ∧ x.2.2.1 = l ∧ x.2.2.2.1 = (l.length : Int) ∧ 0 ≤ x.2.2.2.2.1 ∧ x.2.2.2.2.1 ≤ (l.length : Int) ∧ x.2.1 = (l.take x.2.2.2.2.1.toNat).map (lift · t)) (fun (x : Int × List Int × List Sft × Int × Int × Unit) => ((l.length : Int) - x.2.2.2.2.1).toNat) (x := (t, [], l, (l.length : Int), 0, ())) ⟨rfl, rfl, rfl, Int.le_refl _, by simp, by simp⟩ ?_
  rintro ⟨tt, m, x1, mm, i, _⟩ ⟨h', h'', hmm, h0, h1, hm⟩
  simp only at h' h'' hmm h0 h1 hm
  subst h'; subst h''; subst hmm
  have hG1 := hG.1
  refine Round.ite (fun hlt => ?_) (fun hge => ?_)
  · have hlt : i < (x1.length : Int) := of_decide_eq_true hlt
    obtain ⟨v, hv, hv'⟩ := idx_at h0 hlt
    have hw : wr .i64 (i + 1) = i + 1 := wrap_id (by omega) (by omega)
    have hml : m.length ≤ 6 := by rw [hm]; simp; omega
    refine Round.at hv (Round.bind (e213_2 (hG.2 v (List.mem_of_getElem? hv')) t0 t1) (Round.chk (by simp; omega) (Round.again _ ⟨⟨rfl, rfl, rfl, ?_, ?_, ?_⟩, ?_⟩))) <;> simp only [hw]
    · omega
    · omega
    · rw [hm, show (i + 1).toNat = i.toNat + 1 by omega, List.take_add_one, hv']
      simp
    · omega
  · have hge : ¬ i < (x1.length : Int) := by simpa using hge
    have : m = x1.map (lift · tt) := by rw [hm, List.take_of_length_le (by omega)]
    rw [← this]
    exact Round.done (Evt.some _)
/- impl.LiftsOn -/
theorem e18 {l : List Sft} (hl : Small l) (h : okA l = true) {t : Int} (t0 : 0 ≤ t) (t1 : t ≤ 20000) : Evt (fun n => call T C n 18 (l, t, ())) ((l.map (lift · t), 0, ()), ()) := by
  have hv := e16 l hl
  rw [h] at hv
  have hR := e111 t 0 1000000
  rw [show inR t 0 1000000 = true from inR_iff.2 ⟨by omega, by omega⟩] at hR
  refine Evt.next (Evt.bind hv (Evt.bind (e116 false 1) (Evt.bind hR (Evt.bind (e116 false 2) (Evt.bind (e115 _ (by simp)) ?_))))) (fun n => r18 n l t)
  exact Evt.no (by simp [fst0]) (Evt.bind (e117 l (okA_good h) t0 t1) (Evt.some _))
theorem e18_2 {l : List Sft} (hl : Small l) (h : okA l = true) {t : Int} (t0 : 0 ≤ t) (t1 : t ≤ 1000000) : Evt (fun n => call T C n 18 (l, t, ())) ((l.map (lift · t), 0, ()), ()) := by
  have hv := e16 l hl
  rw [h] at hv
  have hR := e111 t 0 1000000
  rw [show inR t 0 1000000 = true from inR_iff.2 ⟨by omega, by omega⟩] at hR
  refine Evt.next (Evt.bind hv (Evt.bind (e116 false 1) (Evt.bind hR (Evt.bind (e116 false 2) (Evt.bind (e115 _ (by simp)) ?_))))) (fun n => r18 n l t)
  exact Evt.no (by simp [fst0]) (Evt.bind (e117_2 l (okA_good h) t0 t1) (Evt.some _))
/- impl.SumOfLifts -/
theorem e19 (l : List Sft) (hl : Small l) : Evt (fun n => call T C n 19 (l, ())) (sumR l, ()) := by
  refine Evt.next (Evt.bind (e105 l hl true) ?_) (fun n => r19 n l)
  unfold sumR
  refine Evt.ite (fun h => ?_) (fun h => ?_)
  · have h : ¬ (codeR l true).2.1 = (0 : Int) := by simpa using h
    rw [if_pos h]; exact Evt.some _
  · have h : (codeR l true).2.1 = (0 : Int) := by simpa using h
    rw [if_neg (by simpa using h)]
    obtain ⟨hok, hp0, hp1⟩ := code_ok h
    have hG := okA_good hok
    generalize (codeR l true).1 = p at hp0 hp1
    change Int at p
    have hp0 : (0 : Int) ≤ p := hp0
    have hp1 : p ≤ (20000 : Int) := hp1
    refine for_evt' 0 p (fun t (_ : Unit) => (l, sums l t.toNat, p, t, ())) (fun _ _ => True) (b0 := ()) rfl hp0 trivial ?_ ?_
    · intro t _ t0 t1 _
      refine Round.yes (decide_eq_true t1) (Round.bind (e117 l hG t0 (show t ≤ 20000 by omega)) ?_)
      refine for_round' 0 (l.length : Int) (fun i (_ : Unit) => (l, sums l t.toNat, sumL (l.take i.toNat) t, p, t, l.map (lift · t), (l.length : Int), i, ())) (fun _ _ => True) (b0 := ()) (by simp [sumL]) (by omega) trivial ?_ ?_
      · intro i _ h2 h3 _
        obtain ⟨s, hs⟩ := at_of h2 h3
        have hle := sumL_le (l := l.take i.toNat) (fun x hx => hG.2 x (List.mem_of_mem_take hx)) t0 (show t ≤ 20000 by omega)
        have hlf := (lift_eq (hG.2 s hs.mem) t0 (show t ≤ 20000 by omega)).2
        have htl : (l.take i.toNat).length ≤ 6 := by rw [List.length_take]; omega
        refine Round.yes (decide_eq_true h3) (Round.at (hs.map (lift · t)).idx (Round.inr _ ⟨(), ?_, trivial⟩))
        rw [hs.take, sumL_snoc, wr_succ h2 h3 (by omega), wrap_id (x := sumL (l.take i.toNat) t + lift s t) (by omega) (by omega)]
      · intro _ _
        refine Round.no (by simp) (Round.chk (by simp [sums_len]; omega) (Round.inl _ ⟨(), ?_, trivial⟩))
        rw [take_all, sums_succ l t0, wr_succ t0 t1 (by omega)]
    · intro _ _
      exact Round.no (by simp) (Round.done (Evt.some _))
/- spec.l00Same -/
theorem e118 (l : List Int) (hl : (l.length : Int) ≤ 1000000) : Evt (fun n => call T C n 118 (l, l, ())) ((true, ()), ()) := by
  refine Evt.next (Evt.no (by simp) ?_) (fun n => r118 n l l)
  refine for_evt' 0 (l.length : Int) (fun i (_ : Unit) => (l, l, i, ())) (fun _ _ => True) (b0 := ()) rfl (by omega) trivial ?_ ?_
  · intro i _ h2 h3 _
    obtain ⟨v, hv⟩ := at_of h2 h3
    exact Round.yes (decide_eq_true h3) (Round.at hv.idx (Round.at hv.idx (Round.no (by simp) (Round.again _ ⟨(), by rw [wr_succ h2 h3 (by omega)], trivial⟩))))
  · intro _ _
    exact Round.no (by simp) (Round.done (Evt.some _))
/- spec.A2Same -/
theorem e20 (l : List Int) (hl : (l.length : Int) ≤ 1000000) : Evt (fun n => call T C n 20 (l, l, ())) ((true, ()), ()) := Evt.next (Evt.bind (e118 l hl) (Evt.some _)) (fun n => r20 n l l)
/- impl.StepOn -/
theorem e21 {l : List Sft} (hS : Small l) (ok : okA l = true) {i : Int} {s : Sft} (hs : At l i s) (i0 : 0 ≤ i) (i1 : i < (l.length : Int)) {t : Int} (t0 : 0 ≤ t) (t1 : t ≤ 1000000) : Evt (fun n => call T C n 21 (l, i, t, ())) ((stp s t, 0, ()), ()) := by
  obtain ⟨hln, hG⟩ := okA_good ok
  have h := hG s hs.mem
  have hv := e16 l hS
  rw [ok] at hv
  have hp := e114 i (l.length : Int)
  rw [show inR i 0 (wr .i64 ((l.length : Int) - 1)) = true from by rw [wrap_id (by omega) (by omega)]; exact inR_iff.2 ⟨i0, by omega⟩] at hp
  have hR := e111 t 0 1000000
  rw [inR_iff.2 ⟨t0, t1⟩] at hR
  have hN1 := e116 false 1
  have hN2 := e116 false 2
  rw [if_neg (by simp)] at hN1 hN2
  have hF := e115 [0, 0] (by simp)
  rw [show fst0 [0, 0] = 0 from rfl] at hF
  have hT := e119 h t (p := wr .i64 s.2.2.1) h.ph.1 h.ph.2
  have hst : stp (withP s (wr .i64 s.2.2.1)) t = stp s t := by
    have hp := h.ph
    unfold stp Cams.withP
    simp only [wrap_id (x := wr .i64 s.2.2.1) (by omega) (by omega)]
  rw [hst] at hT
  refine Evt.next (Evt.bind hv (Evt.bind hN1 (Evt.bind hp (Evt.no (by simp) (Evt.bind hR (Evt.bind hN2 (Evt.bind hF (Evt.no (by simp) (Evt.at hs.idx (Evt.at hs.idx (Evt.bind hT ?_))))))))))) (fun n => r21 n l i t)
  exact Evt.some _
/- impl.PeriodOfShaft -/
theorem e22 {l : List Sft} (hS : Small l) (ok : okA l = true) {i : Int} {s : Sft} (hs : At l i s) (i0 : 0 ≤ i) (i1 : i < (l.length : Int)) : Evt (fun n => call T C n 22 (l, i, ())) ((own s, 0, ()), ()) := by
  obtain ⟨hln, hG⟩ := okA_good ok
  have hv := e16 l hS
  rw [ok] at hv
  have hp := e114 i (l.length : Int)
  rw [show inR i 0 (wr .i64 ((l.length : Int) - 1)) = true from by rw [wrap_id (by omega) (by omega)]; exact inR_iff.2 ⟨i0, by omega⟩] at hp
  have hN1 := e116 false 1
  have hN2 := e116 false 2
  rw [if_neg (by simp)] at hN1 hN2
  have hF := e115 [0, 0] (by simp)
  rw [show fst0 [0, 0] = 0 from rfl] at hF
  refine Evt.next (Evt.bind hv (Evt.bind hN1 (Evt.bind hp (Evt.bind hN2 (Evt.bind hF (Evt.no (by simp) (Evt.at hs.idx (Evt.bind (e120 (hG s hs.mem)) ?_)))))))) (fun n => r22 n l i)
  exact Evt.some _
/- spec.l04Index -/
theorem e122 (l : List Sft) (a : Int) : Evt (fun n => call T C n 122 (l, a, ())) ((inR a 0 (wr .i64 ((l.length : Int) - 1)), ()), ()) := Evt.next (Evt.bind (e182 _ _ _) (Evt.some _)) (fun n => r122 n l a)
/- spec.PeriodOfShaft -/
theorem e23 {l : List Sft} (hS : Small l) (ok : okA l = true) {i : Int} {s : Sft} (hs : At l i s) (i0 : 0 ≤ i) (i1 : i < (l.length : Int)) : Evt (fun n => call T C n 23 (l, i, ())) ((own s, 0, ()), ()) := by
  obtain ⟨hln, hG⟩ := okA_good ok
  have hv := e121 l hS
  rw [ok] at hv
  have hp := e122 l i
  rw [show inR i 0 (wr .i64 ((l.length : Int) - 1)) = true from by rw [wrap_id (by omega) (by omega)]; exact inR_iff.2 ⟨i0, by omega⟩] at hp
  refine Evt.next (Evt.bind hv (Evt.no (by simp) (Evt.bind hp (Evt.no (by simp) (Evt.at hs.idx (Evt.bind (e123 (hG s hs.mem)) ?_)))))) (fun n => r23 n l i)
  exact Evt.some _
/- laws.FnShafts -/
theorem e3 (x y : List Int) (hd : DomA (C 3).params (x, y, ())) : Evt (fun n => call T C n 3 (x, y, ())) ((true, ()), ()) := by
  have hx : ∀ v ∈ x, 0 ≤ v ∧ v ≤ 255 := byte_of hd.1
  have hy : ∀ v ∈ y, 0 ≤ v ∧ v ≤ 255 := byte_of hd.2.1
  refine Evt.next (Evt.bind (e8 x y) ?_) (fun n => r3 n x y)
  cases hlong : (decide ((x.length : Int) > 3000) || decide ((y.length : Int) > 3000)) with
  | true => exact Evt.yes rfl (Evt.some _)
  | false =>
    simp only [Bool.or_eq_false_iff, decide_eq_false_iff_not] at hlong
    obtain ⟨l, hQ, ⟨l1, l3⟩, hD⟩ := e9 hx (by omega)
    have ok := drA ⟨l1, l3⟩ hD
    have hr : ∀ s ∈ l, RngSf s := fun s hs => (hD s hs).rng
    have hsm : ∀ s ∈ l, s.2.2.2.1.length ≤ 16 := fun s hs => (hD s hs).l.2
    have hS : Small l := ⟨by omega, fun s hs => by have := hsm s hs; omega⟩
    have hG := okA_good ok
    have hT := e11 l hS hr
    rw [show shR l = tx (shT l) from if_pos ok] at hT
    have hlen : (shT l).length ≤ 1048576 := by have := drT_len hD; omega
    have hB := e10 (shT l) hlen
    rw [rdS_text hr ok] at hB
    have hPi := e12_2 hS ok
    have hPs := e13 l hS
    have hI := e14 l (by omega) (fun s hs => by have := hsm s hs; omega)
    have hE := e15 l (by omega) (fun s hs => by have := hsm s hs; omega)
    have hV := e16 l hS
    rw [ok] at hV
    have hsum := e19 l hS
    have ecode : codeR l true = allR l := by unfold codeR; rw [if_neg (by simp [ok]), if_neg (by simp)]
    unfold sumR at hsum
    rw [ecode] at hPi hPs hsum
    refine Evt.no (by simp) (Evt.bind hQ (Evt.bind hT (Evt.bind hB (Evt.bind hPi (Evt.bind hPs (Evt.no (by simp) (Evt.bind hI (Evt.no (by simp) (Evt.bind hE (Evt.no (by simp) (Evt.bind hV (Evt.no (by simp) (Evt.no (by simp) (Evt.no (by simp) ?_))))))))))))))
    cases hper : per l 1 with
    | none =>
      have ea : allR l = (0, 3, ()) := by unfold allR; rw [hper]
      rw [ea]
      exact Evt.yes rfl (Evt.some _)
    | some p =>
      have ea : allR l = (p, 0, ()) := by unfold allR; rw [hper]
      obtain ⟨_, hdv⟩ := per_dvd (t := 1) hG.2 (by omega) (by omega) hper
      obtain ⟨p0, p1⟩ := per_le hG.2 (by omega) (by omega) hper
      obtain ⟨p, rfl⟩ := Int.eq_ofNat_of_zero_le (show 0 ≤ p by omega)
      rw [Int.toNat_natCast] at hdv
      rw [ea] at hsum ⊢
      rw [if_neg (by simp)] at hsum
      simp only [Int.toNat_natCast] at hsum
      obtain ⟨t, hA, t0, t1⟩ := e17 hy (i := 0) (m := 200) (by omega) (by omega)
      obtain ⟨t, rfl⟩ := Int.eq_ofNat_of_zero_le t0
      have hw : wr .i64 ((t : Int) + (p : Int)) = ((t + p : Nat) : Int) := by rw [wrap_id (by omega) (by omega)]; omega
      have hL1 := e18_2 hS ok (t := (t : Int)) (by omega) (by omega)
      have hL2 := e18_2 hS ok (t := ((t + p : Nat) : Int)) (by omega) (by omega)
      have hper2 : l.map (lift · ((t + p : Nat) : Int)) = l.map (lift · (t : Int)) := List.map_congr_left fun s hs => lift_per (hG.2 s hs) (hdv s hs) (by omega)
      rw [hper2] at hL2
      refine Evt.no (by simp) (Evt.bind hA (Evt.bind hL1 ?_))
      dsimp only
      rw [hw]
      refine Evt.bind hL2 (Evt.bind hsum (Evt.no (by simp) (Evt.no (by simp) (Evt.no (by simp) (Evt.bind (e20 (l.map (lift · (t : Int))) (by rw [List.length_map]; omega)) (Evt.no (by simp) (Evt.no (by simp) (Evt.no (by simp [sums_len]) ?_))))))))
      refine for_evt' 0 (l.length : Int) (fun i (_ : Unit) => (l, (p : Int), (t : Int), l.map (lift · (t : Int)), sums l p, sumL (l.take i.toNat) (t : Int), i, ())) (fun _ _ => True) (b0 := ()) rfl (by omega) trivial ?_ ?_
      · intro i _ i0 i1 _
        obtain ⟨s, hs⟩ := at_of i0 i1
        have G := hG.2 s hs.mem
        obtain ⟨⟨v, hv, hv'⟩, v0, v1⟩ := lift_eq2 G (t := (t : Int)) (by omega) (by omega)
        obtain ⟨eo, o1, o2⟩ := own_nat G
        have hst := stp_nat G (t := t) (by omega)
        have hnn := G.nn
        have hlt := Nat.mod_lt (nP s + t * nN s / nD s) (show 0 < nL s by omega)
        have hle := sumL_le (l := l.take i.toNat) (fun x hx => hG.2 x (List.mem_of_mem_take hx)) (show (0 : Int) ≤ (t : Int) by omega) (show (t : Int) ≤ 20000 by omega)
        have htl : (l.take i.toNat).length ≤ 3 := by rw [List.length_take]; omega
        have hdo := hdv s hs.mem
        dsimp only
        refine Round.yes (decide_eq_true i1) (Round.bind (e21 hS ok hs i0 i1 (t := (t : Int)) (by omega) (by omega)) (Round.bind (e22 hS ok hs i0 i1) (Round.bind (e23 hS ok hs i0 i1) ?_)))
        refine Round.no (by simp) (Round.no (by rw [hst]; show ¬ (decide ((((nP s + t * nN s / nD s) % nL s : Nat) : Int) < 0) = true); rw [decide_eq_true_eq]; exact Int.not_lt.2 (Int.natCast_nonneg _)) (Round.at hs.idx (Round.no ?_ (Round.at (hs.map (lift · (t : Int))).idx (Round.at hs.idx (Round.at hv (Round.no ?_ (Round.no (by simp) (Round.no (by simp) (Round.no (by simp) (Round.chk ?_ (Round.no ?_ (Round.at hs.idx (Round.at hs.idx ?_))))))))))))))
        · rw [hst]
          show ¬ (decide ((((nP s + t * nN s / nD s) % nL s : Nat) : Int) ≥ ((nL s : Nat) : Int)) = true)
          rw [decide_eq_true_eq]
          omega
        · rw [hv']; simp
        · rw [eo]; simp; omega
        · rw [eo, ← Int.ofNat_tmod, Nat.mod_eq_zero_of_dvd hdo]; simp
        refine for_round' 1 ((ownN s : Int) + 1) (fun k (_ : Unit) => (l, (p : Int), (t : Int), l.map (lift · (t : Int)), sums l p, sumL (l.take i.toNat) (t : Int), i, own s, wr .i64 ((s.2.2.2.1.length : Int) * wr .i64 s.2.1), k, ())) (fun _ _ => True) (b0 := ()) rfl (by omega) trivial ?_ ?_
        · intro k _ k0 k1 _
          obtain ⟨k, rfl⟩ := Int.eq_ofNat_of_zero_le (show 0 ≤ k by omega)
          have hf := own_first G (k := k) (by omega) (by omega)
          have hwn : (wr .i64 ((s.2.2.2.1.length : Int) * wr .i64 s.2.1) != 0) = true := by
            have := dl_nat G
            unfold dl at this
            rw [Int.mul_comm, this.1]
            simp; omega
          dsimp only
          refine Round.yes (decide_eq_true (by rw [eo]; omega)) (Round.at hs.idx (Round.chk hwn (Round.no (by rw [hf]; simp) (Round.inr _ ⟨(), ?_, trivial⟩))))
          rw [wrap_id (x := (k : Int) + 1) (by omega) (by omega)]
        · intro _ _
          dsimp only
          refine Round.no (by rw [eo]; simp; omega) (Round.at (hs.map (lift · (t : Int))).idx (Round.inl _ ⟨(), ?_, trivial⟩))
          rw [hs.take, sumL_snoc, wr_succ i0 i1 (by omega), wrap_id (x := sumL (l.take i.toNat) (t : Int) + lift s (t : Int)) (by omega) (by omega)]
      · intro _ _
        dsimp only
        rw [take_all]
        have hm : Int.tmod (t : Int) (p : Int) = ((t % p : Nat) : Int) := (Int.ofNat_tmod t p).symm
        have hlt := Nat.mod_lt t (show 0 < p by omega)
        have hi : idx (sums l p) ((t % p : Nat) : Int) = some (sumL l ((t % p : Nat) : Int)) := by
          unfold idx sums
          rw [if_pos (by omega), Int.toNat_natCast, List.getElem?_map, List.getElem?_range hlt]
          rfl
        rw [hm]
        refine Round.no (by simp) (Round.chk (by simp; omega) (Round.at hi (Round.done ?_)))
        rw [sumL_per hG.2 hdv (by omega)]
        refine (Evt.some _).of_eq fun n => ?_
        simp
        rfl

end Go.Cams.YtphcammdpmmlpaaGreatDoorLSh
