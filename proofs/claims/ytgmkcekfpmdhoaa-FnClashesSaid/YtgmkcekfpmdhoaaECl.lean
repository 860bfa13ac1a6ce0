/- What the functions that the law reaches come to. -/
import Derived.Test.YtgmkcekfpmdhoaaRCl
import Derived.Test.YtgmkcekfpmdhoaaPuAll
namespace Go.Cams.YtgmkcekfpmdhoaaLCl
open Go Go.Fw Go.Proofs Go.Proofs.Ytgmkcekfpmdhoaa.LCl
/- laws.a2Long -/
theorem e14 (a b : List Int) : Evt (fun n => call T C n 14 (a, b, ())) ((decide ((a.length : Int) > 3000) || decide ((b.length : Int) > 3000), ()), ()) := by
  refine Evt.next ?_ (fun n => r14 n a b)
  cases decide ((a.length : Int) > 3000) with
  | true => exact Evt.yes rfl (Evt.some _)
  | false => exact Evt.no (by simp) (Evt.some _)
/- spec.l00From -/
theorem e39 (a : List Int) : Evt (fun n => call T C n 39 (a, ())) (((a, 0, 0, ()), ()), ()) := Evt.next (Evt.some _) (fun n => r39 n a)
/- (*spec.l00Src).next -/
theorem e75 {k : Int} {s : Src} (h : SrcAt k s) (hk : k ≤ 1000000000000) : ∃ (v : Int) (s' : Src), Evt (fun n => call T C n 75 (s, ())) ((v, ()), (s', ())) ∧ 0 ≤ v ∧ v ≤ 255 ∧ SrcAt (k + 1) s' := by
  obtain ⟨h1, h2, h3, h4⟩ := h
  have hw : wr .i64 (s.2.1 + 1) = s.2.1 + 1 := wrap_id (by omega) (by omega)
  by_cases hp : s.2.1 < (s.1.length : Int)
  · obtain ⟨v, hv⟩ := at_of h3 hp
    have hb := h1 v hv.mem
    have ev : wr .i64 v = v := wrap_id (by omega) (by omega)
    obtain ⟨z, hz⟩ : ∃ z, z = wr .u64 ((wr .u64 ((wr .u64 (s.2.2.1 * (6364136223846793005 : Int))) + (wr .u64 (wr .i64 v)))) + (1442695040888963407 : Int)) := ⟨_, rfl⟩
    refine ⟨v, (s.1, s.2.1 + 1, z, ()), Evt.next (Evt.yes (decide_eq_true hp) (Evt.at hv.idx (Evt.yes (decide_eq_true (by rw [hw]; omega)) ((Evt.some _).of_eq fun n => ?_)))) (fun n => r75 n s), hb.1, hb.2, h1, h2, by show 0 ≤ s.2.1 + 1; omega, by show s.2.1 + 1 ≤ k + 1; omega⟩
    rw [← hz, hw, ev]
    rfl
  · obtain ⟨z, hz⟩ : ∃ z, z = wr .u64 ((wr .u64 ((wr .u64 (s.2.2.1 * (6364136223846793005 : Int))) + (wr .u64 (0 : Int)))) + (1442695040888963407 : Int)) := ⟨_, rfl⟩
    have hzb : 0 ≤ z ∧ z < 18446744073709551616 := by rw [hz]; exact wrap_u64 _
    obtain ⟨y, rfl⟩ : ∃ y : Nat, z = y := ⟨z.toNat, by omega⟩
    have hval : wr .i64 (bitsI .and .u64 (shr_ .u64 (y : Int) (40 : Int)) (255 : Int)) = ((y / 2 ^ 40 % 256 : Nat) : Int) := by
      rw [show (40 : Int) = ((40 : Nat) : Int) from rfl, shr_nat (by omega), and_255 (Nat.lt_of_le_of_lt (Nat.div_le_self _ _) (by omega))]
      have := Nat.mod_lt (y / 2 ^ 40) (show 0 < 256 by omega)
      exact wrap_id (by omega) (by omega)
    have hm := Nat.mod_lt (y / 2 ^ 40) (show 0 < 256 by omega)
    refine ⟨((y / 2 ^ 40 % 256 : Nat) : Int), (s.1, s.2.1 + 1, (y : Int), ()), Evt.next (Evt.no (by simpa using hp) (Evt.no (by rw [hw]; simp; omega) (Evt.chk rfl ((Evt.some _).of_eq fun n => ?_)))) (fun n => r75 n s), by omega, by omega, h1, h2, by show 0 ≤ s.2.1 + 1; omega, by show s.2.1 + 1 ≤ k + 1; omega⟩
    rw [← hz, hw, hval]
    rfl
/- (*spec.l00Src).pick -/
theorem e61 {k : Int} {s : Src} (h : SrcAt k s) (hk : k ≤ 999999999000) {m : Int} (m1 : 1 ≤ m) (m2 : m ≤ 1000000) : ∃ (v : Int) (s' : Src), Evt (fun n => call T C n 61 (s, m, ())) ((v, ()), (s', ())) ∧ 0 ≤ v ∧ v < m ∧ SrcAt (k + 2) s' := by
  by_cases hm : m ≤ 1
  · exact ⟨0, s, Evt.next (Evt.yes (decide_eq_true hm) (Evt.some _)) (fun n => r61 n s m), by omega, by omega, h.mono (by omega)⟩
  · obtain ⟨v, s1, hE, v0, v1, hs1⟩ := e75 h (by omega)
    by_cases hb : m > 200
    · obtain ⟨u, s2, hE2, u0, u1, hs2⟩ := e75 hs1 (by omega)
      have hx : wr .i64 (wr .i64 (v * 256) + u) = v * 256 + u := by rw [wrap_id (x := v * 256) (by omega) (by omega), wrap_id (by omega) (by omega)]
      have ht0 := Int.tmod_nonneg m (show 0 ≤ v * 256 + u by omega)
      have ht1 := Int.tmod_lt_of_pos (v * 256 + u) (show 0 < m by omega)
      refine ⟨Int.tmod (v * 256 + u) m, s2, Evt.next (Evt.no (by simpa using hm) (Evt.bind hE (Evt.yes (decide_eq_true hb) (Evt.bind hE2 (Evt.chk (bne_pos (by omega)) ((Evt.some _).of_eq fun n => ?_)))))) (fun n => r61 n s m), ht0, ht1, hs2.mono (by omega)⟩
      rw [hx]
      rfl
    · have ht0 := Int.tmod_nonneg m v0
      have ht1 := Int.tmod_lt_of_pos v (show 0 < m by omega)
      exact ⟨Int.tmod v m, s1, Evt.next (Evt.no (by simpa using hm) (Evt.bind hE (Evt.no (by simpa using hb) (Evt.chk (bne_pos (by omega)) (Evt.some _))))) (fun n => r61 n s m), ht0, ht1, hs1.mono (by omega)⟩
/- (*spec.l00Src).among -/
theorem e76 {k : Int} {s : Src} (h : SrcAt k s) (hk : k ≤ 999999999000) {l : List Int} (l1 : 1 ≤ (l.length : Int)) (l2 : (l.length : Int) ≤ 1000000) : ∃ (v : Int) (s' : Src), Evt (fun n => call T C n 76 (s, l, ())) ((v, ()), (s', ())) ∧ v ∈ l ∧ SrcAt (k + 2) s' := by
  obtain ⟨i, s1, hE, i0, i1, hs1⟩ := e61 h hk l1 l2
  obtain ⟨v, hv⟩ := at_of i0 i1
  refine ⟨v, s1, Evt.next ?_ (fun n => r76 n s l), hv.mem, hs1⟩
  exact Evt.bind hE (Evt.at hv.idx (Evt.some _))
/- (*spec.l00Src).one -/
theorem e77 {k : Int} {s : Src} (h : SrcAt k s) (hk : k ≤ 999999999000) {m : Int} (m1 : 1 ≤ m) (m2 : m ≤ 1000000) : ∃ (b : Bool) (s' : Src), Evt (fun n => call T C n 77 (s, m, ())) ((b, ()), (s', ())) ∧ SrcAt (k + 2) s' := by
  obtain ⟨v, s1, hE, v0, v1, hs1⟩ := e61 h hk m1 m2
  exact ⟨v == 0, s1, Evt.next (Evt.bind hE (Evt.some _)) (fun n => r77 n s m), hs1⟩
/- spec.l04Cam -/
theorem e62 {k : Int} {s : Src} (h : SrcAt k s) (hk : k ≤ 999999990000) : ∃ (c : List Int) (s' : Src), Evt (fun n => call T C n 62 (s, ())) ((c, ()), (s', ())) ∧ ((8 ≤ c.length ∧ c.length ≤ 16) ∧ ∀ v ∈ c, 0 ≤ v ∧ v ≤ 9) ∧ SrcAt (k + 100) s' := by
  obtain ⟨t, s1, hE1, ht, hs1⟩ := e76 h (by omega) (l := [8, 8, 9, 10, 12, 16]) (by simp) (by simp)
  have ht : 8 ≤ t ∧ t ≤ 16 := by simp at ht; omega
  have key : EvtX (fun n => call T C n 62 (s, ())) (fun y => ((8 ≤ y.1.1.length ∧ y.1.1.length ≤ 16) ∧ ∀ v ∈ y.1.1, 0 ≤ v ∧ v ≤ 9) ∧ SrcAt (k + 100) y.2.1) := by
    refine EvtX.next (EvtX.bind hE1 ?_) (fun n => r62 n s)
    refine EvtX.loop (fun x => ∃ (src : Src) (L : List Int) (j : Nat), x = (src, L, (j : Int), ()) ∧ SrcAt (k + 2 + 4 * (16 - j)) src ∧ (∀ v ∈ L, 0 ≤ v ∧ v ≤ 9) ∧ L.length + j ≤ 16 ∧ 8 ≤ L.length + j) (fun x => x.2.2.1.toNat)
      ⟨s1, [], t.toNat, ?_, hs1.mono (by omega), by simp, by simp; omega, by simp; omega⟩ ?_
    · show (s1, _, t, ()) = _
      rw [Int.toNat_of_nonneg (by omega)]
    · rintro _ ⟨src, L, j, rfl, hs, hL, hj, hj8⟩
      dsimp only
      by_cases h0 : 0 < j
      · right
        have hw : wr .i64 ((j : Int) - 1) = ((j - 1 : Nat) : Int) := by rw [wrap_id (by omega) (by omega)]; omega
        obtain ⟨o, s2, hE2, hs2⟩ := e77 hs (by omega) (m := 3) (by omega) (by omega)
        cases o with
        | true =>
          obtain ⟨w, s3, hE3, w0, w1, hs3⟩ := e61 hs2 (by omega) (m := 10) (by omega) (by omega)
          refine ⟨_, ⟨s3, L ++ [wr .i16 w], j - 1, rfl, hs3.mono (by omega), ?_, by simp; omega, by simp; omega⟩, ?_, ?_⟩
          · intro v hv
            rcases List.mem_append.1 hv with hv | hv
            · exact hL v hv
            · rw [List.mem_singleton.1 hv, wrap16 (x := w) (by omega) (by omega)]; omega
          · show (((j - 1 : Nat) : Int)).toNat < ((j : Int)).toNat
            omega
          · intro _
            refine Round.yes (decide_eq_true (by omega)) (Round.bind hE2 (Round.yes rfl (Round.bind hE3 (Round.chk (decide_eq_true (by simp only [List.length_singleton]; omega)) (Round.again _ ?_)))))
            rw [hw]
        | false =>
          refine ⟨_, ⟨s2, L ++ [0], j - 1, rfl, hs2.mono (by omega), ?_, by simp; omega, by simp; omega⟩, ?_, ?_⟩
          · intro v hv
            rcases List.mem_append.1 hv with hv | hv
            · exact hL v hv
            · rw [List.mem_singleton.1 hv]; omega
          · show (((j - 1 : Nat) : Int)).toNat < ((j : Int)).toNat
            omega
          · intro _
            refine Round.yes (decide_eq_true (by omega)) (Round.bind hE2 (Round.no (by simp) (Round.chk (decide_eq_true (by simp only [List.length_singleton]; omega)) (Round.again _ ?_))))
            rw [hw]
      · left
        refine ⟨((L, ()), (src, ())), ⟨⟨⟨by show 8 ≤ L.length; omega, by show L.length ≤ 16; omega⟩, hL⟩, hs.mono (by omega)⟩, ?_⟩
        exact Round.no (by simp; omega) (Round.done (Evt.some _))
  obtain ⟨⟨⟨c, _⟩, s', _⟩, ⟨h1, h2⟩, hE⟩ := key
  exact ⟨c, s', hE, h1, h2⟩
/- spec.l04Drawn -/
theorem e38 {k : Int} {s : Src} (h : SrcAt k s) (hk : k ≤ 999999980000) : ∃ (l : List Sft) (s' : Src), Evt (fun n => call T C n 38 (s, ())) ((l, ()), (s', ())) ∧ ((1 ≤ l.length ∧ l.length ≤ 3) ∧ ∀ v ∈ l, DrS v) := by
  obtain ⟨t, s1, hE1, t0, t1, hs1⟩ := e61 h (by omega) (m := 3) (by omega) (by omega)
  have key : EvtX (fun n => call T C n 38 (s, ())) (fun y => (1 ≤ y.1.1.length ∧ y.1.1.length ≤ 3) ∧ ∀ v ∈ y.1.1, DrS v) := by
    refine EvtX.next (EvtX.bind hE1 ?_) (fun n => r38 n s)
    refine EvtX.loop (fun x => ∃ (src : Src) (L : List Sft) (j : Nat), x = (src, L, (j : Int), ()) ∧ SrcAt (k + 2 + 120 * (3 - j)) src ∧ (∀ v ∈ L, DrS v) ∧ L.length + j ≤ 3 ∧ 1 ≤ L.length + j) (fun x => x.2.2.1.toNat)
      ⟨s1, [], (1 + t).toNat, ?_, hs1.mono (by omega), by simp, by simp; omega, by simp; omega⟩ ?_
    · show (s1, _, wr .i64 (1 + t), ()) = _
      rw [wrap_id (x := 1 + t) (by omega) (by omega), Int.toNat_of_nonneg (by omega)]
    · rintro _ ⟨src, L, j, rfl, hs, hL, hj, hj8⟩
      dsimp only
      by_cases h0 : 0 < j
      · right
        have hw : wr .i64 ((j : Int) - 1) = ((j - 1 : Nat) : Int) := by rw [wrap_id (by omega) (by omega)]; omega
        obtain ⟨a, s2, hA, a0, a1, hs2⟩ := e61 hs (by omega) (m := 3) (by omega) (by omega)
        obtain ⟨b, s3, hB, b0, b1, hs3⟩ := e61 hs2 (by omega) (m := 3) (by omega) (by omega)
        obtain ⟨c, s4, hC, ⟨⟨c0, c1⟩, cE⟩, hs4⟩ := e62 hs3 (by omega)
        obtain ⟨p, s5, hP, p0, p1, hs5⟩ := e61 hs4 (by omega) (m := (c.length : Int)) (by omega) (by omega)
        refine ⟨_, ⟨s5, L ++ [(wr .i16 (wr .i64 (1 + a)), wr .i16 (wr .i64 (1 + b)), wr .i16 p, c, ())], j - 1, rfl, hs5.mono (by omega), ?_, by simp; omega, by simp; omega⟩, ?_, ?_⟩
        · intro v hv
          rcases List.mem_append.1 hv with hv | hv
          · exact hL v hv
          · rw [List.mem_singleton.1 hv, wrap_id (x := 1 + a) (by omega) (by omega), wrap_id (x := 1 + b) (by omega) (by omega), wrap16 (x := 1 + a) (by omega) (by omega), wrap16 (x := 1 + b) (by omega) (by omega), wrap16 (x := p) (by omega) (by omega)]
            exact ⟨⟨by show 1 ≤ 1 + a; omega, by show 1 + a ≤ 3; omega⟩, ⟨by show 1 ≤ 1 + b; omega, by show 1 + b ≤ 3; omega⟩, ⟨c0, c1⟩, cE, ⟨p0, p1⟩⟩
        · show (((j - 1 : Nat) : Int)).toNat < ((j : Int)).toNat
          omega
        · intro _
          refine Round.yes (decide_eq_true (by omega)) (Round.bind hA (Round.bind hB (Round.bind hC (Round.bind hP (Round.chk (decide_eq_true (by simp only [List.length_singleton]; omega)) (Round.again _ ?_))))))
          rw [hw]
      · left
        refine ⟨((L, ()), (src, ())), ⟨⟨by show 1 ≤ L.length; omega, by show L.length ≤ 3; omega⟩, hL⟩, ?_⟩
        exact Round.no (by simp; omega) (Round.done (Evt.some _))
  obtain ⟨⟨⟨l, _⟩, s', _⟩, h1, hE⟩ := key
  exact ⟨l, s', hE, h1⟩
/- spec.A2Shafts -/
theorem e15 {b : List Int} (hb : ∀ v ∈ b, 0 ≤ v ∧ v ≤ 255) (hl : (b.length : Int) ≤ 4000) : ∃ l : List Sft, Evt (fun n => call T C n 15 (b, ())) ((l, ()), ()) ∧ (1 ≤ l.length ∧ l.length ≤ 3) ∧ ∀ v ∈ l, DrS v := by
  obtain ⟨c, s', hE, S⟩ := e38 (k := 0) (s := (b, 0, 0, ())) ⟨hb, by show (b.length : Int) ≤ _; omega, by show (0 : Int) ≤ 0; omega, by show (0 : Int) ≤ 0; omega⟩ (by omega)
  exact ⟨c, Evt.next (Evt.bind (e39 b) (Evt.bind hE (Evt.some ((c, ()), ())))) (fun n => r15 n b), S⟩
/- laws.a2At -/
theorem e16 {b : List Int} (hb : ∀ v ∈ b, 0 ≤ v ∧ v ≤ 255) {i m : Int} (i0 : 0 ≤ i) (m1 : 1 ≤ m) : ∃ v : Int, Evt (fun n => call T C n 16 (b, i, m, ())) ((v, ()), ()) ∧ 0 ≤ v ∧ v < m := by
  by_cases h : i < (b.length : Int)
  · obtain ⟨v, hv⟩ := at_of i0 h
    have hvb := hb v hv.mem
    have ev : wr .i64 v = v := wrap_id (by omega) (by omega)
    refine ⟨Int.tmod v m, Evt.next (Evt.no (by simp; omega) (Evt.no (by simp; omega) (Evt.at hv.idx (Evt.chk (bne_pos (by omega)) ((Evt.some _).of_eq fun n => ?_))))) (fun n => r16 n b i m), Int.tmod_nonneg m hvb.1, Int.tmod_lt_of_pos v (by omega)⟩
    rw [ev]
    rfl
  · exact ⟨0, Evt.next (Evt.yes (decide_eq_true (by omega)) (Evt.some _)) (fun n => r16 n b i m), by omega, by omega⟩
/- spec.l00In -/
theorem e28 (a b c : Int) : Evt (fun n => call T C n 28 (a, b, c, ())) ((inR a b c, ()), ()) := by
  refine Evt.next ?_ (fun n => r28 n a b c)
  refine Evt.ite (fun h => ?_) (fun h => ?_)
  · refine (Evt.some _).of_eq fun n => ?_
    have h : b ≤ a := of_decide_eq_true h
    simp [inR, h]
    rfl
  · refine (Evt.some _).of_eq fun n => ?_
    have h : ¬ b ≤ a := by simpa using h
    simp [inR, h]
    rfl
/- spec.l01Steps -/
theorem e71 (a : Int) : Evt (fun n => call T C n 71 (a, ())) ((inR a 8 360, ()), ()) := Evt.next (Evt.bind (e28 a 8 360) (Evt.some _)) (fun n => r71 n a)
/- spec.l01Lift -/
theorem e72 (a : Int) : Evt (fun n => call T C n 72 (a, ())) ((inR a 0 10000, ()), ()) := Evt.next (Evt.bind (e28 a 0 10000) (Evt.some _)) (fun n => r72 n a)
/- spec.l01Ok -/
theorem e54 (l : List Int) (hl : (l.length : Int) ≤ 140737488351232) : Evt (fun n => call T C n 54 (l, ())) ((okC l, ()), ()) := by
  refine Evt.next ?_ (fun n => r54 n l)
  refine Evt.bind (e71 _) ?_
  refine Evt.ite (fun h => ?_) (fun h => ?_)
  · refine (Evt.some _).of_eq fun n => ?_
    have h : inR (l.length : Int) 8 360 = false := by simpa using h
    simp [okC, h]
    rfl
  · have h : inR (l.length : Int) 8 360 = true := by simpa using h
    have he : okC l = l.all okV := by simp [okC, h]
    rw [he]
    refine loop_evt (fun (x : List Int × Int × Unit) => x.1 = l ∧ 0 ≤ x.2.1 ∧ x.2.1 ≤ (l.length : Int) ∧ l.all okV = (l.drop x.2.1.toNat).all okV) (fun (x : List Int × Int × Unit) => ((l.length : Int) - x.2.1).toNat) (x := (l, 0, ())) ⟨rfl, Int.le_refl _, by simp, by simp⟩ ?_
    rintro ⟨x1, i, _⟩ ⟨h', h0, h1, h2⟩
    simp only at h' h0 h1 h2
    subst h'
    refine Round.ite (fun hlt => ?_) (fun hge => ?_)
    · have hlt : i < (x1.length : Int) := of_decide_eq_true hlt
      obtain ⟨v, hv, hv'⟩ := idx_at h0 hlt
      have hd := drop_cons hv'
      refine Round.at hv (Round.bind (e72 _) (Round.ite (fun hb => ?_) (fun hb => ?_)))
      · have hb : okV v = false := by simpa [okV] using hb
        have h3 : x1.all okV = false := by rw [h2, hd]; simp [hb]
        rw [h3]
        exact Round.done (Evt.some _)
      · have hb : okV v = true := by simpa [okV] using hb
        have hw : wr .i64 (i + 1) = i + 1 := wrap_id (by omega) (by omega)
        refine Round.again _ ⟨⟨rfl, ?_, ?_, ?_⟩, ?_⟩ <;> simp only [hw]
        · omega
        · omega
        · rw [h2, hd, show (i + 1).toNat = i.toNat + 1 by omega]
          simp [hb]
        · omega
    · have hge : ¬ i < (x1.length : Int) := by simpa using hge
      have : x1.drop i.toNat = [] := List.drop_of_length_le (by omega)
      rw [h2, this]
      exact Round.done (Evt.some _)
/- spec.l04Ok -/
theorem e27 (l : List Sft) (hl : Small l) : Evt (fun n => call T C n 27 (l, ())) ((okA l, ()), ()) := by
  refine Evt.next ?_ (fun n => r27 n l)
  refine Evt.bind (e28 _ _ _) ?_
  refine Evt.ite (fun h => ?_) (fun h => ?_)
  · refine (Evt.some _).of_eq fun n => ?_
    have h : inR (l.length : Int) 1 6 = false := by simpa using h
    simp [okA, h]
    rfl
  · have h : inR (l.length : Int) 1 6 = true := by simpa using h
    have he : okA l = l.all okS := by simp [okA, h]
    rw [he]
    have hl1 := hl.1
    refine loop_evt (fun (x : List Sft × Int × Unit) => x.1 = l ∧ 0 ≤ x.2.1 ∧ x.2.1 ≤ (l.length : Int) ∧ l.all okS = (l.drop x.2.1.toNat).all okS) (fun (x : List Sft × Int × Unit) => ((l.length : Int) - x.2.1).toNat) (x := (l, 0, ())) ⟨rfl, Int.le_refl _, by simp, by simp⟩ ?_
    rintro ⟨x1, i, _⟩ ⟨h', h0, h1, h2⟩
    simp only at h' h0 h1 h2
    subst h'
    refine Round.ite (fun hlt => ?_) (fun hge => ?_)
    · have hlt : i < (x1.length : Int) := of_decide_eq_true hlt
      obtain ⟨v, hv, hv'⟩ := idx_at h0 hlt
      have hd := drop_cons hv'
      have bad : okS v = false → x1.all okS = false := fun hb => by rw [h2, hd]; simp [hb]
      refine Round.at hv (Round.bind (e28 _ _ _) (Round.ite (fun hb => ?_) (fun hb1 => ?_)))
      · have hb : inR (wr .i64 v.1) 1 60 = false := by simpa using hb
        rw [bad (by simp [okS, hb])]
        exact Round.done (Evt.some _)
      refine Round.bind (e28 _ _ _) (Round.ite (fun hb => ?_) (fun hb2 => ?_))
      · have hb : inR (wr .i64 v.2.1) 1 60 = false := by simpa using hb
        rw [bad (by simp [okS, hb])]
        exact Round.done (Evt.some _)
      refine Round.bind (e54 _ (hl.get hv')) (Round.ite (fun hb => ?_) (fun hb3 => ?_))
      · have hb : okC v.2.2.2.1 = false := by simpa using hb
        rw [bad (by simp [okS, hb])]
        exact Round.done (Evt.some _)
      refine Round.bind (e28 _ _ _) (Round.ite (fun hb => ?_) (fun hb4 => ?_))
      · have hb : inR (wr .i64 v.2.2.1) 0 (wr .i64 ((v.2.2.2.1.length : Int) - 1)) = false := by simpa using hb
        rw [bad (by simp [okS, hb])]
        exact Round.done (Evt.some _)
      have hb : okS v = true := by
        simp only [Bool.not_eq_true', Bool.not_eq_false, cond_false] at hb1 hb2 hb3 hb4
        simp [okS, hb1, hb2, hb3, hb4]
      have hw : wr .i64 (i + 1) = i + 1 := wrap_id (by omega) (by omega)
      refine Round.again _ ⟨⟨rfl, ?_, ?_, ?_⟩, ?_⟩ <;> simp only [hw]
      · omega
      · omega
      · rw [h2, hd, show (i + 1).toNat = i.toNat + 1 by omega]
        simp [hb]
      · omega
    · have hge : ¬ i < (x1.length : Int) := by simpa using hge
      have : x1.drop i.toNat = [] := List.drop_of_length_le (by omega)
      rw [h2, this]
      exact Round.done (Evt.some _)
/- spec.l04Gcd -/
theorem e64 : ∀ (b a : Nat), Evt (fun n => call T C n 64 ((a : Int), (b : Int), ())) ((((Nat.gcd a b : Nat) : Int), ()), ()) := by
  intro b
  induction b using Nat.strongRecOn with
  | ind b ih =>
    intro a
    refine Evt.next ?_ (fun n => r64 n a b)
    refine Evt.ite (fun h => ?_) (fun h => ?_)
    · have h : b = 0 := by simpa using h
      subst h
      rw [Nat.gcd_zero_right]
      exact Evt.some _
    · have h : b ≠ 0 := by simpa using h
      refine Evt.chk (by simpa using h) ?_
      rw [← Int.ofNat_tmod]
      have := ih (a % b) (Nat.mod_lt _ (by omega)) b
      rw [show Nat.gcd a b = Nat.gcd b (a % b) by rw [Nat.gcd_comm a b, Nat.gcd_rec b a, Nat.gcd_comm]]
      exact Evt.bind this (Evt.some _)
theorem e64' {a b : Int} (ha : 0 ≤ a) (hb : 0 ≤ b) : Evt (fun n => call T C n 64 (a, b, ())) ((gg a b, ()), ()) := by
  have := e64 b.toNat a.toNat
  rw [show ((a.toNat : Nat) : Int) = a by omega, show ((b.toNat : Nat) : Int) = b by omega] at this
  exact this
/- spec.l04Own -/
theorem e63 {s : Sft} (h : Good s) : Evt (fun n => call T C n 63 (s, ())) ((own s, ()), ()) := by
  have h1 := dl_eq h
  have hg := gg_pos (a := dl s) (b := wr .i64 s.1) (by omega)
  refine Evt.next (Evt.bind (e64' (a := dl s) (by omega) (by have := h.num; omega)) (Evt.chk ?_ (Evt.some _))) (fun n => r63 n s)
  exact bne_pos hg
/- spec.l04All -/
theorem e40 (l : List Sft) (hl : Small l) (hok : okA l = true) : Evt (fun n => call T C n 40 (l, ())) (allR l, ()) := by
  have hG := okA_good hok
  refine Evt.next (Evt.bind (e27 l hl) ?_) (fun n => r40 n l)
  refine Evt.no (by simp [hok]) ?_
  refine loop_evt (fun (x : List Sft × Int × Int × Unit) => x.1 = l ∧ 1 ≤ x.2.1 ∧ x.2.1 ≤ 20000 ∧ 0 ≤ x.2.2.1 ∧ x.2.2.1 ≤ (l.length : Int) ∧ per l 1 = per (l.drop x.2.2.1.toNat) x.2.1) (fun (x : List Sft × Int × Int × Unit) => ((l.length : Int) - x.2.2.1).toNat) (x := (l, 1, 0, ())) ⟨rfl, by simp, by simp, by simp, by simp, by simp⟩ ?_
  rintro ⟨x1, t, i, _⟩ ⟨h', t0, t1, h0, h1, h2⟩
  simp only at h' t0 t1 h0 h1 h2
  subst h'
  refine Round.ite (fun hlt => ?_) (fun hge => ?_)
  · have hlt : i < (x1.length : Int) := of_decide_eq_true hlt
    obtain ⟨v, hv, hv'⟩ := idx_at h0 hlt
    have hd := drop_cons hv'
    have hgv := hG.2 v (List.mem_of_getElem? hv')
    have ho := own_eq hgv
    have hg := gg_pos (a := t) (b := own v) (by omega)
    refine Round.at hv (Round.bind (e63 hgv) (Round.bind (e64' (a := t) (b := own v) (by omega) (by omega)) (Round.chk (bne_pos hg) ?_)))
    refine Round.ite (fun hb => ?_) (fun hb => ?_)
    · have hb : nxt t v > 20000 := of_decide_eq_true hb
      have h3 : per x1 1 = none := by rw [h2, hd]; simp [per, hb]
      unfold allR
      rw [h3]
      exact Round.done (Evt.some _)
    · have hb : ¬ nxt t v > 20000 := by simpa [nxt] using hb
      have hw : wr .i64 (i + 1) = i + 1 := wrap_id (by omega) (by omega)
      have hp := nxt_pos hgv t0 t1
      refine Round.again _ ⟨⟨rfl, hp, by show nxt t v ≤ 20000; omega, ?_, ?_, ?_⟩, ?_⟩ <;> simp only [hw]
      · omega
      · omega
      · rw [h2, hd, show (i + 1).toNat = i.toNat + 1 by omega]
        simp only [per]
        rw [if_neg hb]
        rfl
      · omega
  · have hge : ¬ i < (x1.length : Int) := by simpa using hge
    have : x1.drop i.toNat = [] := List.drop_of_length_le (by omega)
    have h3 : per x1 1 = some t := by rw [h2, this]; rfl
    unfold allR
    rw [h3]
    exact Round.done (Evt.some _)
theorem e40' (l : List Sft) (hl : Small l) : Evt (fun n => call T C n 40 (l, ())) (codeR l true, ()) := by
  cases hok : okA l with
  | true =>
    have h := e40 l hl hok
    unfold codeR
    rw [if_neg (by simp [hok]), if_neg (by simp)]
    exact h
  | false =>
    unfold codeR
    rw [if_pos hok]
    refine Evt.next (Evt.bind (e27 l hl) ?_) (fun n => r40 n l)
    exact Evt.yes (by simp [hok]) (Evt.some _)
/- spec.PeriodOfAll -/
theorem e17 (l : List Sft) (hl : Small l) : Evt (fun n => call T C n 17 (l, ())) (codeR l true, ()) := Evt.next (Evt.bind (e40' l hl) (Evt.some _)) (fun n => r17 n l)
/- impl.inRange -/
theorem e34 (a b c : Int) : Evt (fun n => call T C n 34 (a, b, c, ())) ((inR a b c, ()), ()) := by
  refine Evt.next ?_ (fun n => r34 n a b c)
  refine Evt.ite (fun h => ?_) (fun h => ?_)
  · refine (Evt.some _).of_eq fun n => ?_
    have h : b ≤ a := of_decide_eq_true h
    simp [inR, h]
    rfl
  · refine (Evt.some _).of_eq fun n => ?_
    have h : ¬ b ≤ a := by simpa using h
    simp [inR, h]
    rfl
/- impl.isRoom -/
theorem e33 (a : Int) : Evt (fun n => call T C n 33 (a, ())) ((inR a 0 20000, ()), ()) := Evt.next (Evt.bind (e34 a 0 20000) (Evt.some _)) (fun n => r33 n a)
/- (impl.Cam).steps -/
theorem e48 (a : List Int) : Evt (fun n => call T C n 48 (a, ())) (((a.length : Int), ()), ()) := Evt.next (Evt.some _) (fun n => r48 n a)
/- impl.isSteps -/
theorem e80 (a : Int) : Evt (fun n => call T C n 80 (a, ())) ((inR a 8 360, ()), ()) := Evt.next (Evt.bind (e34 a 8 360) (Evt.some _)) (fun n => r80 n a)
/- impl.isLift -/
theorem e83 (a : Int) : Evt (fun n => call T C n 83 (a, ())) ((inR a 0 10000, ()), ()) := Evt.next (Evt.bind (e34 a 0 10000) (Evt.some _)) (fun n => r83 n a)
/- impl.ValidCam$1 -/
theorem e82 (v : Int) : Evt (fun n => call T C n 82 (v, ())) ((!okV v, ()), ()) := Evt.next (Evt.bind (e83 _) (Evt.some _)) (fun n => r82 n v)
/- slices.IndexFunc[impl.Cam,int16]{impl.ValidCam$1} -/
theorem e85 (l : List Int) (hl : (l.length : Int) ≤ 140737488351232) : Evt (fun n => call T C n 85 (l, ((), ()), ())) ((fi (fun v => !okV v) l 0, ()), ()) := by
  refine Evt.next ?_ (fun n => r85 n l ((), ()))
  refine loop_evt (fun (x : List Int × (Unit × Unit) × Int × Int × Unit) => x.1 = l ∧ x.2.2.1 = (l.length : Int) ∧ 0 ≤ x.2.2.2.1 ∧ x.2.2.2.1 ≤ (l.length : Int) ∧ fi (fun v => !okV v) l 0 = fi (fun v => !okV v) (l.drop x.2.2.2.1.toNat) x.2.2.2.1) (fun (x : List Int × (Unit × Unit) × Int × Int × Unit) => ((l.length : Int) - x.2.2.2.1).toNat) (x := (l, ((), ()), (l.length : Int), 0, ())) ⟨rfl, rfl, Int.le_refl _, by simp, by simp⟩ ?_
  rintro ⟨x1, u, m, i, _⟩ ⟨h', hm, h0, h1, h2⟩
  simp only at h' hm h0 h1 h2
  subst h'; subst hm
  refine Round.ite (fun hlt => ?_) (fun hge => ?_)
  · have hlt : i < (x1.length : Int) := of_decide_eq_true hlt
    obtain ⟨v, hv, hv'⟩ := idx_at h0 hlt
    have hd := drop_cons hv'
    refine Round.at hv (Round.bind (e82 _) (Round.ite (fun hb => ?_) (fun hb => ?_)))
    · have hb : okV v = false := by simpa using hb
      have h3 : fi (fun v => !okV v) x1 0 = i := by rw [h2, hd]; simp [fi, hb]
      rw [h3]
      exact Round.done (Evt.some _)
    · have hb : okV v = true := by simpa using hb
      have hw : wr .i64 (i + 1) = i + 1 := wrap_id (by omega) (by omega)
      refine Round.again _ ⟨⟨rfl, rfl, ?_, ?_, ?_⟩, ?_⟩ <;> simp only [hw]
      · omega
      · omega
      · rw [h2, hd, show (i + 1).toNat = i.toNat + 1 by omega]
        simp [fi, hb]
      · omega
  · have hge : ¬ i < (x1.length : Int) := by simpa using hge
    have : x1.drop i.toNat = [] := List.drop_of_length_le (by omega)
    rw [h2, this]
    exact Round.done (Evt.some _)
/- slices.ContainsFunc[impl.Cam,int16]{impl.ValidCam$1} -/
theorem e81 (l : List Int) (hl : (l.length : Int) ≤ 140737488351232) : Evt (fun n => call T C n 81 (l, ((), ()), ())) ((l.any (fun v => !okV v), ()), ()) := by
  refine Evt.next (Evt.bind (e85 l hl) ((Evt.some _).of_eq fun n => ?_)) (fun n => r81 n l ((), ()))
  simp only [fi_any _ l 0 (Int.le_refl _)]
  rfl
/- impl.ValidCam -/
theorem e69 (l : List Int) (hl : (l.length : Int) ≤ 140737488351232) : Evt (fun n => call T C n 69 (l, ())) ((okC l, ()), ()) := by
  refine Evt.next (Evt.bind (e48 l) (Evt.bind (e80 _) ?_)) (fun n => r69 n l)
  refine Evt.ite (fun h => ?_) (fun h => ?_)
  · refine Evt.bind (e81 l hl) ((Evt.some _).of_eq fun n => ?_)
    have h : inR (l.length : Int) 8 360 = true := h
    have : okC l = !l.any (fun v => !okV v) := by simp [okC, h, List.any_eq_not_all_not]
    rw [this]
    rfl
  · refine (Evt.some _).of_eq fun n => ?_
    have h : inR (l.length : Int) 8 360 = false := by simpa using h
    simp [okC, h]
    rfl
/- impl.isPlace -/
theorem e51 (a b : Int) : Evt (fun n => call T C n 51 (a, b, ())) ((inR a 0 (wr .i64 (b - 1)), ()), ()) := Evt.next (Evt.bind (e34 _ _ _) (Evt.some _)) (fun n => r51 n a b)
/- impl.ValidShafts$1 -/
theorem e68 (s : Sft) (hl : (s.2.2.2.1.length : Int) ≤ 140737488351232) : Evt (fun n => call T C n 68 (s, ())) ((!okS s, ()), ()) := by
  refine Evt.next (Evt.bind (e34 _ _ _) ?_) (fun n => r68 n s)
  refine Evt.ite (fun h => ?_) (fun h => ?_)
  · have h : inR (wr .i64 s.1) 1 60 = false := by simpa using h
    have : okS s = false := by simp [okS, h]
    rw [this]; exact Evt.some _
  · have h1 : inR (wr .i64 s.1) 1 60 = true := by simpa using h
    refine Evt.bind (e34 _ _ _) (Evt.ite (fun h => ?_) (fun h => ?_))
    · have h : inR (wr .i64 s.2.1) 1 60 = false := by simpa using h
      have : okS s = false := by simp [okS, h]
      rw [this]; exact Evt.some _
    · have h2 : inR (wr .i64 s.2.1) 1 60 = true := by simpa using h
      refine Evt.bind (e69 _ hl) (Evt.ite (fun h => ?_) (fun h => ?_))
      · have h : okC s.2.2.2.1 = false := by simpa using h
        have : okS s = false := by simp [okS, h]
        rw [this]; exact Evt.some _
      · have h3 : okC s.2.2.2.1 = true := by simpa using h
        refine Evt.bind (e51 _ _) ((Evt.some _).of_eq fun n => ?_)
        have : okS s = inR (wr .i64 s.2.2.1) 0 (wr .i64 ((s.2.2.2.1.length : Int) - 1)) := by simp [okS, h1, h2, h3]
        rw [this]
        rfl
/- slices.IndexFunc[[]impl.Shaft,impl.Shaft]{impl.ValidShafts$1} -/
theorem e79 (l : List Sft) (hl : Small l) : Evt (fun n => call T C n 79 (l, ((), ()), ())) ((fi (fun v => !okS v) l 0, ()), ()) := by
  refine Evt.next ?_ (fun n => r79 n l ((), ()))
  refine loop_evt (fun (x : List Sft × (Unit × Unit) × Int × Int × Unit) => x.1 = l ∧ x.2.2.1 = (l.length : Int) ∧ 0 ≤ x.2.2.2.1 ∧ x.2.2.2.1 ≤ (l.length : Int) ∧ fi (fun v => !okS v) l 0 = fi (fun v => !okS v) (l.drop x.2.2.2.1.toNat) x.2.2.2.1) (fun (x : List Sft × (Unit × Unit) × Int × Int × Unit) => ((l.length : Int) - x.2.2.2.1).toNat) (x := (l, ((), ()), (l.length : Int), 0, ())) ⟨rfl, rfl, Int.le_refl _, by simp, by simp⟩ ?_
  rintro ⟨x1, u, m, i, _⟩ ⟨h', hm, h0, h1, h2⟩
  simp only at h' hm h0 h1 h2
  subst h'; subst hm
  have hl1 := hl.1
  refine Round.ite (fun hlt => ?_) (fun hge => ?_)
  · have hlt : i < (x1.length : Int) := of_decide_eq_true hlt
    obtain ⟨v, hv, hv'⟩ := idx_at h0 hlt
    have hd := drop_cons hv'
    refine Round.at hv (Round.bind (e68 _ (hl.get hv')) (Round.ite (fun hb => ?_) (fun hb => ?_)))
    · have hb : okS v = false := by simpa using hb
      have h3 : fi (fun v => !okS v) x1 0 = i := by rw [h2, hd]; simp [fi, hb]
      rw [h3]
      exact Round.done (Evt.some _)
    · have hb : okS v = true := by simpa using hb
      have hw : wr .i64 (i + 1) = i + 1 := wrap_id (by omega) (by omega)
      refine Round.again _ ⟨⟨rfl, rfl, ?_, ?_, ?_⟩, ?_⟩ <;> simp only [hw]
      · omega
      · omega
      · rw [h2, hd, show (i + 1).toNat = i.toNat + 1 by omega]
        simp [fi, hb]
      · omega
  · have hge : ¬ i < (x1.length : Int) := by simpa using hge
    have : x1.drop i.toNat = [] := List.drop_of_length_le (by omega)
    rw [h2, this]
    exact Round.done (Evt.some _)
/- slices.ContainsFunc[[]impl.Shaft,impl.Shaft]{impl.ValidShafts$1} -/
theorem e67 (l : List Sft) (hl : Small l) : Evt (fun n => call T C n 67 (l, ((), ()), ())) ((l.any (fun v => !okS v), ()), ()) := by
  refine Evt.next (Evt.bind (e79 l hl) ((Evt.some _).of_eq fun n => ?_)) (fun n => r67 n l ((), ()))
  simp only [fi_any _ l 0 (Int.le_refl _)]
  rfl
/- impl.ValidShafts -/
theorem e45 (l : List Sft) (hl : Small l) : Evt (fun n => call T C n 45 (l, ())) ((okA l, ()), ()) := by
  refine Evt.next (Evt.bind (e34 _ _ _) ?_) (fun n => r45 n l)
  refine Evt.ite (fun h => ?_) (fun h => ?_)
  · refine Evt.bind (e67 l hl) ((Evt.some _).of_eq fun n => ?_)
    have h : inR (l.length : Int) 1 6 = true := h
    have : okA l = !l.any (fun v => !okS v) := by simp [okA, h, List.any_eq_not_all_not]
    rw [this]
    rfl
  · refine (Evt.some _).of_eq fun n => ?_
    have h : inR (l.length : Int) 1 6 = false := by simpa using h
    simp [okA, h]
    rfl
/- impl.codeIf -/
theorem e44 (c : Bool) (v : Int) : Evt (fun n => call T C n 44 (c, v, ())) (((if c = true then v else 0), ()), ()) := by
  refine Evt.next ?_ (fun n => r44 n c v)
  cases c with
  | true => exact Evt.yes rfl (Evt.some _)
  | false => exact Evt.no (by simp) (Evt.some _)
/- impl.firstCode -/
theorem e43 (l : List Int) (hl : (l.length : Int) ≤ 140737488351232) : Evt (fun n => call T C n 43 (l, ())) ((fst0 l, ()), ()) := by
  refine Evt.next ?_ (fun n => r43 n l)
  refine loop_evt (fun (x : List Int × Int × Int × Unit) => x.1 = l ∧ x.2.1 = (l.length : Int) ∧ 0 ≤ x.2.2.1 ∧ x.2.2.1 ≤ (l.length : Int) ∧ fst0 l = fst0 (l.drop x.2.2.1.toNat)) (fun (x : List Int × Int × Int × Unit) => ((l.length : Int) - x.2.2.1).toNat) (x := (l, (l.length : Int), 0, ())) ⟨rfl, rfl, Int.le_refl _, by simp, by simp⟩ ?_
  rintro ⟨x1, m, i, _⟩ ⟨h', hm, h0, h1, h2⟩
  simp only at h' hm h0 h1 h2
  subst h'; subst hm
  refine Round.ite (fun hlt => ?_) (fun hge => ?_)
  · have hlt : i < (x1.length : Int) := of_decide_eq_true hlt
    obtain ⟨v, hv, hv'⟩ := idx_at h0 hlt
    have hd := drop_cons hv'
    refine Round.at hv (Round.ite (fun hb => ?_) (fun hb => ?_))
    · have hb : v ≠ 0 := by simpa using hb
      have h3 : fst0 x1 = v := by rw [h2, hd]; simp [fst0, hb]
      rw [h3]
      exact Round.done (Evt.some _)
    · have hb : v = 0 := by simpa using hb
      have hw : wr .i64 (i + 1) = i + 1 := wrap_id (by omega) (by omega)
      refine Round.again _ ⟨⟨rfl, rfl, ?_, ?_, ?_⟩, ?_⟩ <;> simp only [hw]
      · omega
      · omega
      · rw [h2, hd, show (i + 1).toNat = i.toNat + 1 by omega]
        simp [fst0, hb]
      · omega
  · have hge : ¬ i < (x1.length : Int) := by simpa using hge
    have : x1.drop i.toNat = [] := List.drop_of_length_le (by omega)
    rw [h2, this]
    exact Round.done (Evt.some _)
/- impl.common -/
theorem e74 (a b : Nat) : Evt (fun n => call T C n 74 ((a : Int), (b : Int), ())) ((((Nat.gcd a b : Nat) : Int), ()), ()) := by
  refine Evt.next ?_ (fun n => r74 n a b)
  refine loop_evt (fun (x : Int × Int × Unit) => ∃ p q : Nat, x = ((p : Int), (q : Int), ()) ∧ Nat.gcd p q = Nat.gcd a b) (fun (x : Int × Int × Unit) => x.2.1.toNat) (x := ((a : Int), (b : Int), ())) ⟨a, b, rfl, rfl⟩ ?_
  rintro x ⟨p, q, rfl, hg⟩
  refine Round.ite (fun h => ?_) (fun h => ?_)
  · have h : q ≠ 0 := by simpa using h
    refine Round.chk (by simpa using h) ?_
    refine Round.again _ ⟨⟨q, p % q, ?_, ?_⟩, ?_⟩
    · simp only [Int.ofNat_tmod]
    · rw [← hg, Nat.gcd_comm p q, Nat.gcd_rec q p, Nat.gcd_comm]
    · show (Int.tmod (p : Int) (q : Int)).toNat < ((q : Int)).toNat
      rw [← Int.ofNat_tmod]
      have := Nat.mod_lt p (show q > 0 by omega)
      omega
  · have h : q = 0 := by simpa using h
    subst h
    rw [← hg, Nat.gcd_zero_right]
    exact Round.done (Evt.some _)
theorem e74' {a b : Int} (ha : 0 ≤ a) (hb : 0 ≤ b) : Evt (fun n => call T C n 74 (a, b, ())) ((gg a b, ()), ()) := by
  have := e74 a.toNat b.toNat
  rw [show ((a.toNat : Nat) : Int) = a by omega, show ((b.toNat : Nat) : Int) = b by omega] at this
  exact this
/- (impl.Shaft).period -/
theorem e73 {s : Sft} (h : Good s) : Evt (fun n => call T C n 73 (s, ())) ((own s, ()), ()) := by
  have h1 := dl_eq h
  have hg := gg_pos (a := dl s) (b := wr .i64 s.1) (by omega)
  refine Evt.next (Evt.bind (e48 _) (Evt.bind (e74' (a := dl s) (by omega) (by have := h.num; omega)) (Evt.chk ?_ (Evt.some _)))) (fun n => r73 n s)
  exact bne_pos hg
/- impl.periodOf -/
theorem e58 (l : List Sft) (hok : okA l = true) : Evt (fun n => call T C n 58 (l, ())) (perR l, ()) := by
  have hG := okA_good hok
  refine Evt.next ?_ (fun n => r58 n l)
  refine loop_evt (fun (x : Int × List Sft × Int × Int × Unit) => x.2.1 = l ∧ x.2.2.1 = (l.length : Int) ∧ 1 ≤ x.1 ∧ x.1 ≤ 20000 ∧ 0 ≤ x.2.2.2.1 ∧ x.2.2.2.1 ≤ (l.length : Int) ∧ per l 1 = per (l.drop x.2.2.2.1.toNat) x.1) (fun (x : Int × List Sft × Int × Int × Unit) => ((l.length : Int) - x.2.2.2.1).toNat) (x := (1, l, (l.length : Int), 0, ())) ⟨rfl, rfl, by simp, by simp, by simp, by simp, by simp⟩ ?_
  rintro ⟨t, x1, m, i, _⟩ ⟨h', hm, t0, t1, h0, h1, h2⟩
  simp only at h' hm t0 t1 h0 h1 h2
  subst h'; subst hm
  refine Round.ite (fun hlt => ?_) (fun hge => ?_)
  · have hlt : i < (x1.length : Int) := of_decide_eq_true hlt
    obtain ⟨v, hv, hv'⟩ := idx_at h0 hlt
    have hd := drop_cons hv'
    have hgv := hG.2 v (List.mem_of_getElem? hv')
    have ho := own_eq hgv
    have hg := gg_pos (a := t) (b := own v) (by omega)
    refine Round.at hv (Round.bind (e73 hgv) (Round.bind (e74' (a := t) (b := own v) (by omega) (by omega)) (Round.chk (bne_pos hg) ?_)))
    refine Round.ite (fun hb => ?_) (fun hb => ?_)
    · have hb : nxt t v > 20000 := of_decide_eq_true hb
      have h3 : per x1 1 = none := by rw [h2, hd]; simp [per, hb]
      unfold perR
      rw [h3]
      exact Round.done (Evt.some _)
    · have hb : ¬ nxt t v > 20000 := by simpa [nxt] using hb
      have hw : wr .i64 (i + 1) = i + 1 := wrap_id (by omega) (by omega)
      have hp := nxt_pos hgv t0 t1
      refine Round.again _ ⟨⟨rfl, rfl, hp, by show nxt t v ≤ 20000; omega, ?_, ?_, ?_⟩, ?_⟩ <;> simp only [hw]
      · omega
      · omega
      · rw [h2, hd, show (i + 1).toNat = i.toNat + 1 by omega]
        simp only [per]
        rw [if_neg hb]
        rfl
      · omega
  · have hge : ¬ i < (x1.length : Int) := by simpa using hge
    have : x1.drop i.toNat = [] := List.drop_of_length_le (by omega)
    have h3 : per x1 1 = some t := by rw [h2, this]; rfl
    unfold perR
    rw [h3]
    exact Round.done (Evt.some _)
/- impl.shaftsCode -/
theorem e32 (l : List Sft) (hl : Small l) (room : Bool) : Evt (fun n => call T C n 32 (l, room, ())) (codeR l room, ()) := by
  refine Evt.next (Evt.bind (e45 l hl) (Evt.bind (e44 _ _) (Evt.bind (e44 _ _) (Evt.bind (e43 _ (by simp)) ?_)))) (fun n => r32 n l room)
  unfold codeR
  cases hok : okA l with
  | false =>
    refine Evt.yes (by simp [fst0]) ((Evt.some _).of_eq fun n => ?_)
    simp [fst0]
    rfl
  | true =>
    cases room with
    | false =>
      refine Evt.yes (by simp [fst0]) ((Evt.some _).of_eq fun n => ?_)
      simp [fst0]
      rfl
    | true =>
      refine Evt.no (by simp [fst0]) (Evt.bind (e58 l hok) (Evt.bind (e44 _ _) ((Evt.some _).of_eq fun n => ?_)))
      unfold perR allR
      cases per l 1 <;> rfl
/- (impl.Shaft).step -/
theorem e84 {s : Sft} (h : Good s) (t : Int) {p : Int} (h0 : 0 ≤ p) (h1 : p ≤ 360) : Evt (fun n => call T C n 84 (s, t, p, ())) ((stp (withP s p) t, ()), ()) := by
  refine Evt.next (Evt.chk (den_ne h) (Evt.bind (e48 _) (Evt.chk (len_ne h) ((Evt.some _).of_eq fun n => ?_)))) (fun n => r84 n s t p)
  unfold stp withP
  simp only [wrap_id (x := p) (by omega) (by omega)]
  rfl
/- (impl.Shaft).lift -/
theorem e70 {s : Sft} (h : Good s) {t : Int} (h0 : 0 ≤ t) (h1 : t ≤ 20000) {p : Int} (p0 : 0 ≤ p) (p1 : p ≤ 360) : Evt (fun n => call T C n 70 (s, t, p, ())) ((lift (withP s p) t, ()), ()) := by
  obtain ⟨⟨v, hv, he⟩, _⟩ := lift_eq (h.withP p0 p1) h0 h1
  rw [he]
  refine Evt.next (Evt.bind (e84 h t p0 p1) ?_) (fun n => r70 n s t p)
  exact Evt.at hv (Evt.some ((wr .i64 v, ()), ()))
theorem e70_2 {s : Sft} (h : Good s) {t : Int} (h0 : 0 ≤ t) (h1 : t ≤ 1000000) {p : Int} (p0 : 0 ≤ p) (p1 : p ≤ 360) : Evt (fun n => call T C n 70 (s, t, p, ())) ((lift (withP s p) t, ()), ()) := by
  obtain ⟨⟨v, hv, he⟩, _⟩ := lift_eq2 (h.withP p0 p1) h0 h1
  rw [he]
  refine Evt.next (Evt.bind (e84 h t p0 p1) ?_) (fun n => r70 n s t p)
  exact Evt.at hv (Evt.some ((wr .i64 v, ()), ()))
/- (impl.Shaft).now -/
theorem e65 {s : Sft} (h : Good s) {t : Int} (h0 : 0 ≤ t) (h1 : t ≤ 20000) : Evt (fun n => call T C n 65 (s, t, ())) ((lift s t, ()), ()) := by
  have e := e70 h h0 h1 (p := wr .i64 s.2.2.1) h.ph.1 h.ph.2
  rw [lift_wr h t] at e
  exact Evt.next (Evt.bind e (Evt.some _)) (fun n => r65 n s t)
theorem e65_2 {s : Sft} (h : Good s) {t : Int} (h0 : 0 ≤ t) (h1 : t ≤ 1000000) : Evt (fun n => call T C n 65 (s, t, ())) ((lift s t, ()), ()) := by
  have e := e70_2 h h0 h1 (p := wr .i64 s.2.2.1) h.ph.1 h.ph.2
  rw [lift_wr h t] at e
  exact Evt.next (Evt.bind e (Evt.some _)) (fun n => r65 n s t)
/- impl.liftsOn -/
theorem e41 (l : List Sft) (hG : (1 ≤ (l.length : Int) ∧ (l.length : Int) ≤ 6) ∧ ∀ s ∈ l, Good s) {t : Int} (t0 : 0 ≤ t) (t1 : t ≤ 20000) : Evt (fun n => call T C n 41 (l, t, ())) ((l.map (lift · t), ()), ()) := by
  refine Evt.next ?_ (fun n => r41 n l t)
  refine loop_evt (fun (x : Int × List Int × List Sft × Int × Int × Unit) => x.1 = t ∧ x.2.2.1 = l ∧ x.2.2.2.1 = (l.length : Int) ∧ 0 ≤ x.2.2.2.2.1 ∧ x.2.2.2.2.1 ≤ (l.length : Int) ∧ x.2.1 = (l.take x.2.2.2.2.1.toNat).map (lift · t)) (fun (x : Int × List Int × List Sft × Int × Int × Unit) => ((l.length : Int) - x.2.2.2.2.1).toNat) (x := (t, [], l, (l.length : Int), 0, ())) ⟨rfl, rfl, rfl, Int.le_refl _, by simp, by simp⟩ ?_
  rintro ⟨tt, m, x1, mm, i, _⟩ ⟨h', h'', hmm, h0, h1, hm⟩
  simp only at h' h'' hmm h0 h1 hm
  subst h'; subst h''; subst hmm
  have hG1 := hG.1
  refine Round.ite (fun hlt => ?_) (fun hge => ?_)
  · have hlt : i < (x1.length : Int) := of_decide_eq_true hlt
    obtain ⟨v, hv, hv'⟩ := idx_at h0 hlt
    have hw : wr .i64 (i + 1) = i + 1 := wrap_id (by omega) (by omega)
    have hml : m.length ≤ 6 := by rw [hm]; simp; omega
    refine Round.at hv (Round.bind (e65 (hG.2 v (List.mem_of_getElem? hv')) t0 t1) (Round.chk (by simp; omega) (Round.again _ ⟨⟨rfl, rfl, rfl, ?_, ?_, ?_⟩, ?_⟩))) <;> simp only [hw]
    · omega
    · omega
    · rw [hm, show (i + 1).toNat = i.toNat + 1 by omega, List.take_add_one, hv']
      simp
    · omega
  · have hge : ¬ i < (x1.length : Int) := by simpa using hge
    have : m = x1.map (lift · tt) := by rw [hm, List.take_of_length_le (by omega)]
    rw [← this]
    exact Round.done (Evt.some _)
theorem e41_2 (l : List Sft) (hG : (1 ≤ (l.length : Int) ∧ (l.length : Int) ≤ 6) ∧ ∀ s ∈ l, Good s) {t : Int} (t0 : 0 ≤ t) (t1 : t ≤ 1000000) : Evt (fun n => call T C n 41 (l, t, ())) ((l.map (lift · t), ()), ()) := by
  refine Evt.next ?_ (fun n => r41 n l t)
  refine loop_evt (fun (x : Int × List Int × List Sft × Int × Int × Unit) => x.1 = t ∧ x.2.2.1 = l ∧ x.2.2.2.1 = (l.length : Int) ∧ 0 ≤ x.2.2.2.2.1 ∧ x.2.2.2.2.1 ≤ (l.length : Int) ∧ x.2.1 = (l.take x.2.2.2.2.1.toNat).map (lift · t)) (fun (x : Int × List Int × List Sft × Int × Int × Unit) => ((l.length : Int) - x.2.2.2.2.1).toNat) (x := (t, [], l, (l.length : Int), 0, ())) ⟨rfl, rfl, rfl, Int.le_refl _, by simp, by simp⟩ ?_
  rintro ⟨tt, m, x1, mm, i, _⟩ ⟨h', h'', hmm, h0, h1, hm⟩
  simp only at h' h'' hmm h0 h1 hm
  subst h'; subst h''; subst hmm
  have hG1 := hG.1
  refine Round.ite (fun hlt => ?_) (fun hge => ?_)
  · have hlt : i < (x1.length : Int) := of_decide_eq_true hlt
    obtain ⟨v, hv, hv'⟩ := idx_at h0 hlt
    have hw : wr .i64 (i + 1) = i + 1 := wrap_id (by omega) (by omega)
    have hml : m.length ≤ 6 := by rw [hm]; simp; omega
    refine Round.at hv (Round.bind (e65_2 (hG.2 v (List.mem_of_getElem? hv')) t0 t1) (Round.chk (by simp; omega) (Round.again _ ⟨⟨rfl, rfl, rfl, ?_, ?_, ?_⟩, ?_⟩))) <;> simp only [hw]
    · omega
    · omega
    · rw [hm, show (i + 1).toNat = i.toNat + 1 by omega, List.take_add_one, hv']
      simp
    · omega
  · have hge : ¬ i < (x1.length : Int) := by simpa using hge
    have : m = x1.map (lift · tt) := by rw [hm, List.take_of_length_le (by omega)]
    rw [← this]
    exact Round.done (Evt.some _)
/- impl.FirstClash -/
theorem e18 (l : List Sft) (hl : Small l) (a : Int) : Evt (fun n => call T C n 18 (l, a, ())) (ans l a, ()) := by
  refine Evt.next (Evt.bind (e33 a) (Evt.bind (e32 l hl _) ?_)) (fun n => r18 n l a)
  unfold ans
  refine Evt.ite (fun h => ?_) (fun h => ?_)
  · rw [if_pos (by simpa using h)]; exact Evt.some _
  · have h : (codeR l (inR a 0 20000)).2.1 = (0 : Int) := by simpa using h
    rw [if_neg (by simpa using h)]
    obtain ⟨hok, hp0, hp1⟩ := code_ok h
    have hG := okA_good hok
    simp only
    generalize (codeR l (inR a 0 20000)).1 = p at hp0 hp1
    change Int at p
    have hp0 : (0 : Int) ≤ p := hp0
    have hp1 : p ≤ (20000 : Int) := hp1
    refine loop_evt (fun (x : List Sft × Int × Int × Int × Unit) => x.1 = l ∧ x.2.1 = a ∧ x.2.2.1 = p ∧ 0 ≤ x.2.2.2.1 ∧ x.2.2.2.1 ≤ p ∧ fc l a p.toNat 0 = fc l a (p - x.2.2.2.1).toNat x.2.2.2.1) (fun (x : List Sft × Int × Int × Int × Unit) => (p - x.2.2.2.1).toNat) (x := (l, a, p, 0, ())) ⟨rfl, rfl, rfl, Int.le_refl _, hp0, by simp⟩ ?_
    rintro ⟨x1, x2, x3, t, _⟩ ⟨h1, h2, h3, t0, t1, hf⟩
    simp only at h1 h2 h3 t0 t1 hf
    subst h1; subst h2; subst h3
    refine Round.ite (fun hlt => ?_) (fun hge => ?_)
    · have hlt : t < x3 := of_decide_eq_true hlt
      have hd : (x3 - t).toNat = (x3 - (t + 1)).toNat + 1 := by omega
      have hw : wr .i64 (t + 1) = t + 1 := wrap_id (by omega) (by omega)
      have hlen := hG.1
      refine Round.bind (e41 x1 hG (t := t) t0 (by omega)) ?_
      refine loop_round (fun (y : List Sft × Int × Int × List Int × Int × Int × Int × Unit) => ∃ i : Int, y = (x1, x2, t, x1.map (lift · t), i + 1, x3, t, ()) ∧ 0 ≤ i ∧ i < (x1.length : Int) ∧ sc x2 t x1 0 = sc x2 t (x1.drop i.toNat) i) (fun y => ((x1.length : Int) - y.2.2.2.2.1).toNat) (x := (x1, x2, t, x1.map (lift · t), 1, x3, t, ())) ⟨0, rfl, Int.le_refl _, by omega, by simp⟩ ?_
      rintro y ⟨i, rfl, i0, i1, hs⟩
      have hwi : wr .i64 (i + 1 - 1) = i := by rw [show i + 1 - 1 = i by omega]; exact wrap_id (by omega) (by omega)
      have hwj : wr .i64 (i + 1 + 1) = i + 1 + 1 := wrap_id (by omega) (by omega)
      obtain ⟨v, hv, hv'⟩ := idx_at i0 i1
      have hd1 := drop_cons hv'
      simp only [List.length_map, hwi, hwj, hw]
      refine Round.ite (fun hb => ?_) (fun hb => ?_)
      · have hb : i + 1 < (x1.length : Int) := of_decide_eq_true hb
        obtain ⟨u, hu, hu'⟩ := idx_at (show 0 ≤ i + 1 by omega) hb
        have hd2 := drop_cons hu'
        have ei : (i + 1).toNat = i.toNat + 1 := by omega
        rw [ei] at hd2
        have l1 := (lift_eq (hG.2 v (List.mem_of_getElem? hv')) t0 (show t ≤ 20000 by omega)).2
        have l2 := (lift_eq (hG.2 u (List.mem_of_getElem? hu')) t0 (show t ≤ 20000 by omega)).2
        have hwl : wr .i64 (lift v t + lift u t) = lift v t + lift u t := wrap_id (by omega) (by omega)
        refine Round.at (idx_map hv) (Round.at (idx_map hu) ?_)
        simp only [hwl]
        refine Round.ite (fun hc => ?_) (fun hc => ?_)
        · have hc : lift v t + lift u t > x2 := of_decide_eq_true hc
          have hsc : sc x2 t x1 0 = some i := by rw [hs, hd1, hd2]; simp [sc, hc]
          have : fc x1 x2 x3.toNat 0 = (t, i, i + 1, 0, ()) := by rw [hf, hd]; simp [fc, hsc]
          rw [this]
          exact Round.done (Evt.some _)
        · have hc : ¬ lift v t + lift u t > x2 := by simpa using hc
          refine Round.again (σ := (List Sft × Int × Int × Int × Unit) ⊕ (List Sft × Int × Int × List Int × Int × Int × Int × Unit)) (.inr (x1, x2, t, x1.map (lift · t), i + 1 + 1, x3, t, ())) ⟨⟨i + 1, rfl, by omega, hb, ?_⟩, ?_⟩
          · rw [hs, hd1, hd2, ei, hd2]
            simp only [sc]
            rw [if_neg hc]
          · simp only
            omega
      · have hb : ¬ i + 1 < (x1.length : Int) := by simpa using hb
        have hsc : sc x2 t x1 0 = none := by
          rw [hs, hd1, show x1.drop (i.toNat + 1) = [] from List.drop_of_length_le (by omega)]
          rfl
        refine Round.again (σ := (List Sft × Int × Int × Int × Unit) ⊕ (List Sft × Int × Int × List Int × Int × Int × Int × Unit)) (.inl (x1, x2, x3, t + 1, ())) ⟨⟨rfl, rfl, rfl, by simp only; omega, by simp only; omega, ?_⟩, by simp only; omega⟩
        rw [hf, hd]
        simp [fc, hsc]
    · have hge : ¬ t < x3 := by simpa using hge
      have : fc x1 x2 x3.toNat 0 = (0, 0, 0, 6, ()) := by rw [hf, show (x3 - t).toNat = 0 by omega]; rfl
      rw [this]
      exact Round.done (Evt.some _)
/- spec.l04Index -/
theorem e55 (l : List Sft) (a : Int) : Evt (fun n => call T C n 55 (l, a, ())) ((inR a 0 (wr .i64 ((l.length : Int) - 1)), ()), ()) := Evt.next (Evt.bind (e28 _ _ _) (Evt.some _)) (fun n => r55 n l a)
/- spec.l04Asked -/
theorem e29 (l : List Sft) (hl : Small l) (i k a : Int) : Evt (fun n => call T C n 29 (l, i, k, a, ())) (codeR l (isAt l i && isAt l k && inR a 0 20000), ()) := by
  refine Evt.next (Evt.bind (e27 l hl) ?_) (fun n => r29 n l i k a)
  unfold codeR
  cases hok : okA l with
  | false => exact Evt.yes rfl (Evt.some _)
  | true =>
    refine Evt.no (by simp) (Evt.bind (e55 l i) ?_)
    show Evt (fun n => if (!isAt l i) = true then _ else _) _
    cases isAt l i with
    | false => exact Evt.yes rfl (Evt.some _)
    | true =>
      refine Evt.no (by simp) (Evt.bind (e55 l k) ?_)
      show Evt (fun n => if (bif false then true else (!isAt l k)) = true then _ else _) _
      cases isAt l k with
      | false => exact Evt.yes rfl (Evt.some _)
      | true =>
        refine Evt.no (by simp) (Evt.bind (e28 _ _ _) ?_)
        cases inR a 0 20000 with
        | false => exact Evt.yes rfl (Evt.some _)
        | true => exact Evt.no (by simp) (Evt.bind (e40 l hl hok) (Evt.some _))
theorem e29' (l : List Sft) (hl : Small l) (a : Int) : Evt (fun n => call T C n 29 (l, 0, 0, a, ())) (codeR l (inR a 0 20000), ()) := by
  have h := e29 l hl 0 0 a
  have e : codeR l (isAt l 0 && isAt l 0 && inR a 0 20000) = codeR l (inR a 0 20000) := by
    unfold codeR
    cases hok : okA l with
    | false => rfl
    | true =>
      have := (okA_good hok).1
      rw [(isAt_iff hok).2 (by omega)]
      rfl
  rw [e] at h
  exact h
/- spec.l04Step -/
theorem e78 {s : Sft} (h : Good s) (t : Int) : Evt (fun n => call T C n 78 (s, t, ())) ((stp s t, ()), ()) := Evt.next (Evt.chk (den_ne h) (Evt.chk (len_ne h) (Evt.some _))) (fun n => r78 n s t)
/- spec.l04Lift -/
theorem e66 {s : Sft} (h : Good s) {t : Int} (h0 : 0 ≤ t) (h1 : t ≤ 20000) : Evt (fun n => call T C n 66 (s, t, ())) ((lift s t, ()), ()) := by
  obtain ⟨⟨v, hv, he⟩, _⟩ := lift_eq h h0 h1
  rw [he]
  refine Evt.next (Evt.bind (e78 h t) ?_) (fun n => r66 n s t)
  exact Evt.at hv (Evt.some ((wr .i64 v, ()), ()))
/- spec.l04Clash -/
theorem e42 {s u : Sft} (h : Good s) (k : Good u) {t : Int} (h0 : 0 ≤ t) (h1 : t ≤ 20000) (a : Int) : Evt (fun n => call T C n 42 (s, u, t, a, ())) ((decide (lift s t + lift u t > a), ()), ()) := by
  have e1 := (lift_eq h h0 h1).2
  have e2 := (lift_eq k h0 h1).2
  have hw : wr .i64 (lift s t + lift u t) = lift s t + lift u t := wrap_id (by omega) (by omega)
  refine Evt.next (Evt.bind (e66 h h0 h1) (Evt.bind (e66 k h0 h1) ((Evt.some _).of_eq fun n => ?_))) (fun n => r42 n s u t a)
  simp only [hw]
  rfl
/- spec.FirstClash -/
theorem e19 (l : List Sft) (hl : Small l) (a : Int) : Evt (fun n => call T C n 19 (l, a, ())) (ans l a, ()) := by
  refine Evt.next (Evt.bind (e29' l hl a) ?_) (fun n => r19 n l a)
  unfold ans
  refine Evt.ite (fun h => ?_) (fun h => ?_)
  · rw [if_pos (by simpa using h)]; exact Evt.some _
  · have h : (codeR l (inR a 0 20000)).2.1 = (0 : Int) := by simpa using h
    rw [if_neg (by simpa using h)]
    obtain ⟨hok, hp0, hp1⟩ := code_ok h
    have hG := okA_good hok
    generalize (codeR l (inR a 0 20000)).1 = p at hp0 hp1
    change Int at p
    have hp0 : (0 : Int) ≤ p := hp0
    have hp1 : p ≤ (20000 : Int) := hp1
    refine loop_evt (fun (x : List Sft × Int × Int × Int × Unit) => x.1 = l ∧ x.2.1 = a ∧ x.2.2.1 = p ∧ 0 ≤ x.2.2.2.1 ∧ x.2.2.2.1 ≤ p ∧ fc l a p.toNat 0 = fc l a (p - x.2.2.2.1).toNat x.2.2.2.1) (fun (x : List Sft × Int × Int × Int × Unit) => (p - x.2.2.2.1).toNat) (x := (l, a, p, 0, ())) ⟨rfl, rfl, rfl, Int.le_refl _, hp0, by simp⟩ ?_
    rintro ⟨x1, x2, x3, t, _⟩ ⟨h1, h2, h3, t0, t1, hf⟩
    simp only at h1 h2 h3 t0 t1 hf
    subst h1; subst h2; subst h3
    refine Round.ite (fun hlt => ?_) (fun hge => ?_)
    · have hlt : t < x3 := of_decide_eq_true hlt
      have hd : (x3 - t).toNat = (x3 - (t + 1)).toNat + 1 := by omega
      have hw : wr .i64 (t + 1) = t + 1 := wrap_id (by omega) (by omega)
      have hlen := hG.1
      refine loop_round (fun (y : List Sft × Int × Int × Int × Int × Unit) => ∃ i : Int, y = (x1, x2, x3, t, i, ()) ∧ 0 ≤ i ∧ i < (x1.length : Int) ∧ sc x2 t x1 0 = sc x2 t (x1.drop i.toNat) i) (fun y => ((x1.length : Int) - y.2.2.2.2.1).toNat) (x := (x1, x2, x3, t, 0, ())) ⟨0, rfl, Int.le_refl _, by omega, by simp⟩ ?_
      rintro y ⟨i, rfl, i0, i1, hs⟩
      have hwi : wr .i64 (i + 1) = i + 1 := wrap_id (by omega) (by omega)
      obtain ⟨v, hv, hv'⟩ := idx_at i0 i1
      have hd1 := drop_cons hv'
      refine Round.ite (fun hb => ?_) (fun hb => ?_)
      · have hb : i + 1 < (x1.length : Int) := by rw [← hwi]; exact of_decide_eq_true hb
        obtain ⟨u, hu, hu'⟩ := idx_at (show 0 ≤ i + 1 by omega) hb
        have hd2 := drop_cons hu'
        have ei : (i + 1).toNat = i.toNat + 1 := by omega
        rw [ei] at hd2
        refine Round.at hv ?_
        simp only [hwi]
        refine Round.at hu (Round.bind (e42 (hG.2 v (List.mem_of_getElem? hv')) (hG.2 u (List.mem_of_getElem? hu')) t0 (by omega) x2) (Round.ite (fun hc => ?_) (fun hc => ?_)))
        · have hc : lift v t + lift u t > x2 := of_decide_eq_true hc
          have hsc : sc x2 t x1 0 = some i := by rw [hs, hd1, hd2]; simp [sc, hc]
          have : fc x1 x2 x3.toNat 0 = (t, i, i + 1, 0, ()) := by rw [hf, hd]; simp [fc, hsc]
          rw [this]
          exact Round.done (Evt.some _)
        · have hc : ¬ lift v t + lift u t > x2 := by simpa using hc
          refine Round.again (σ := (List Sft × Int × Int × Int × Unit) ⊕ (List Sft × Int × Int × Int × Int × Unit)) (.inr (x1, x2, x3, t, i + 1, ())) ⟨⟨i + 1, rfl, by omega, hb, ?_⟩, ?_⟩
          · rw [hs, hd1, hd2, ei, hd2]
            simp only [sc]
            rw [if_neg hc]
          · simp only
            omega
      · have hb : ¬ i + 1 < (x1.length : Int) := by simpa [hwi] using hb
        have hsc : sc x2 t x1 0 = none := by
          rw [hs, hd1, show x1.drop (i.toNat + 1) = [] from List.drop_of_length_le (by omega)]
          rfl
        simp only [hw]
        refine Round.again (σ := (List Sft × Int × Int × Int × Unit) ⊕ (List Sft × Int × Int × Int × Int × Unit)) (.inl (x1, x2, x3, t + 1, ())) ⟨⟨rfl, rfl, rfl, by simp only; omega, by simp only; omega, ?_⟩, by simp only; omega⟩
        rw [hf, hd]
        simp [fc, hsc]
    · have hge : ¬ t < x3 := by simpa using hge
      have : fc x1 x2 x3.toNat 0 = (0, 0, 0, 6, ()) := by rw [hf, show (x3 - t).toNat = 0 by omega]; rfl
      rw [this]
      exact Round.done (Evt.some _)
/- impl.LiftsOn -/
theorem e20 {l : List Sft} (hl : Small l) (h : okA l = true) {t : Int} (t0 : 0 ≤ t) (t1 : t ≤ 20000) : Evt (fun n => call T C n 20 (l, t, ())) ((l.map (lift · t), 0, ()), ()) := by
  have hv := e45 l hl
  rw [h] at hv
  have hR := e34 t 0 1000000
  rw [show inR t 0 1000000 = true from inR_iff.2 ⟨by omega, by omega⟩] at hR
  refine Evt.next (Evt.bind hv (Evt.bind (e44 false 1) (Evt.bind hR (Evt.bind (e44 false 2) (Evt.bind (e43 _ (by simp)) ?_))))) (fun n => r20 n l t)
  exact Evt.no (by simp [fst0]) (Evt.bind (e41 l (okA_good h) t0 t1) (Evt.some _))
theorem e20_2 {l : List Sft} (hl : Small l) (h : okA l = true) {t : Int} (t0 : 0 ≤ t) (t1 : t ≤ 1000000) : Evt (fun n => call T C n 20 (l, t, ())) ((l.map (lift · t), 0, ()), ()) := by
  have hv := e45 l hl
  rw [h] at hv
  have hR := e34 t 0 1000000
  rw [show inR t 0 1000000 = true from inR_iff.2 ⟨by omega, by omega⟩] at hR
  refine Evt.next (Evt.bind hv (Evt.bind (e44 false 1) (Evt.bind hR (Evt.bind (e44 false 2) (Evt.bind (e43 _ (by simp)) ?_))))) (fun n => r20 n l t)
  exact Evt.no (by simp [fst0]) (Evt.bind (e41_2 l (okA_good h) t0 t1) (Evt.some _))
/- impl.pairCodeOn -/
theorem e46 (l : List Sft) (hl : Small l) (i k a : Int) : Evt (fun n => call T C n 46 (l, i, k, a, ())) (((codeR l (isAt l i && isAt l k && inR a 0 20000)).1, (if (codeR l (isAt l i && isAt l k && inR a 0 20000)).2.1 ≠ (0 : Int) then (codeR l (isAt l i && isAt l k && inR a 0 20000)).2.1 else if i = k then 4 else 0), ()), ()) := by
  have rest : ∀ b : Bool, Evt (fun n => (call T C n 32 (l, b, ())).bind fun r => (call T C n 44 ((i == k), 4, ())).bind fun r' => (call T C n 43 ([r.1.2.1, r'.1.1], ())).bind fun r'' => some ((r.1.1, r''.1.1, ()), ())) (((codeR l b).1, (if (codeR l b).2.1 ≠ (0 : Int) then (codeR l b).2.1 else if i = k then 4 else 0), ()), ()) := by
    intro b
    refine Evt.bind (e32 l hl b) (Evt.bind (e44 _ _) (Evt.bind (e43 _ (by simp)) ((Evt.some _).of_eq fun n => ?_)))
    simp only [fst0, beq_iff_eq]
    by_cases h : (codeR l b).2.1 = (0 : Int) <;> by_cases e : i = k <;> simp [h, e] <;> rfl
  refine Evt.next (Evt.bind (e51 _ _) ?_) (fun n => r46 n l i k a)
  show Evt (fun n => if isAt l i = true then _ else _) _
  cases isAt l i with
  | false => exact Evt.no (by simp) (rest false)
  | true =>
    refine Evt.yes rfl (Evt.bind (e51 _ _) ?_)
    show Evt (fun n => if isAt l k = true then _ else _) _
    cases isAt l k with
    | false => exact Evt.no (by simp) (rest false)
    | true => exact Evt.yes rfl (Evt.bind (e33 _) (rest (inR a 0 20000)))
/- impl.clashes -/
theorem e47 {s u : Sft} (hs : Good s) (hu : Good u) {p : Int} (p0 : 0 ≤ p) (p1 : p ≤ 360) {t : Int} (t0 : 0 ≤ t) (t1 : t ≤ 20000) (a : Int) : Evt (fun n => call T C n 47 (s, u, p, a, t, ())) ((cnt s (withP u p) a t.toNat, ()), ()) := by
  refine Evt.next ?_ (fun n => r47 n s u p a t)
  refine for_evt 0 t (fun i (_ : Unit) => (p, a, s, u, cnt s (withP u p) a i.toNat, t, i, ())) (fun _ _ => True) (b0 := ()) t0 trivial ?_ ?_
  · intro i _ h0 h1 _
    have hc := cnt_le s (withP u p) a i.toNat
    have l1 := (lift_eq hs h0 (show i ≤ 20000 by omega)).2
    have l2 := (lift_eq (hu.withP p0 p1) h0 (show i ≤ 20000 by omega)).2
    refine Round.yes (by simp [h1]) (Round.bind (e65 hs h0 (show i ≤ 20000 by omega)) (Round.bind (e70 hu h0 (show i ≤ 20000 by omega) p0 p1) ?_))
    simp only [wrap_id (x := lift s i + lift (withP u p) i) (by omega) (by omega)]
    refine Round.ite (fun h => ?_) (fun h => ?_)
    · have h : lift s i + lift (withP u p) i > a := of_decide_eq_true h
      refine Round.again _ ⟨(), ?_, trivial⟩
      rw [cnt_step s (withP u p) a h0, if_pos h, wr_succ h0 h1 (by omega), wrap_id (x := cnt s (withP u p) a i.toNat + 1) (by omega) (by omega)]
    · have h : ¬ lift s i + lift (withP u p) i > a := by simpa using h
      refine Round.again _ ⟨(), ?_, trivial⟩
      rw [cnt_step s (withP u p) a h0, if_neg h, wr_succ h0 h1 (by omega)]
  · intro _ _
    exact Round.no (by simp) (Round.done (Evt.some _))
/- impl.ClashesOf -/
theorem e21 (l : List Sft) (hl : Small l) (i k a : Int) : Evt (fun n => call T C n 21 (l, i, k, a, ())) (clashR l i k a, ()) := by
  refine Evt.next (Evt.bind (e46 l hl i k a) ?_) (fun n => r21 n l i k a)
  unfold clashR
  by_cases h : (codeR l (isAt l i && isAt l k && inR a 0 20000)).2.1 = (0 : Int)
  · have h' : ¬ (codeR l (isAt l i && isAt l k && inR a 0 20000)).2.1 ≠ (0 : Int) := by simpa using h
    simp only [if_neg h']
    by_cases e : i = k
    · simp only [if_pos e]
      exact Evt.yes (by decide) (Evt.some _)
    · simp only [if_neg e]
      obtain ⟨hok, hp0, hp1⟩ := code_ok h
      have hb := codeR_room h
      simp only [Bool.and_eq_true, isAt_iff hok] at hb
      obtain ⟨s, hs⟩ := at_of hb.1.1.1 hb.1.1.2
      obtain ⟨u, hu⟩ := at_of hb.1.2.1 hb.1.2.2
      have hG := (okA_good hok).2
      have hgu := hG u hu.mem
      rw [hs.idx, hu.idx]
      have e := e47 (hG s hs.mem) hgu hgu.ph.1 hgu.ph.2 hp0 hp1 a
      rw [cnt_wr hgu] at e
      exact Evt.no (by decide) (Evt.at rfl (Evt.at rfl (Evt.at rfl (Evt.bind e (Evt.some _)))))
  · simp only [if_pos h]
    exact Evt.yes (by simpa using h) (Evt.some _)
/- impl.BestPhase -/
theorem e22 (l : List Sft) (hl : Small l) (i k a : Int) : Evt (fun n => call T C n 22 (l, i, k, a, ())) (bestR l i k a, ()) := by
  refine Evt.next (Evt.bind (e46 l hl i k a) ?_) (fun n => r22 n l i k a)
  unfold bestR
  by_cases h : (codeR l (isAt l i && isAt l k && inR a 0 20000)).2.1 = (0 : Int)
  · have h' : ¬ (codeR l (isAt l i && isAt l k && inR a 0 20000)).2.1 ≠ (0 : Int) := by simpa using h
    simp only [if_neg h']
    by_cases e : i = k
    · simp only [if_pos e]
      exact Evt.yes (by decide) (Evt.some _)
    · simp only [if_neg e]
      obtain ⟨hok, hp0, hp1⟩ := code_ok h
      have hb := codeR_room h
      simp only [Bool.and_eq_true, isAt_iff hok] at hb
      obtain ⟨s, hs⟩ := at_of hb.1.1.1 hb.1.1.2
      obtain ⟨u, hu⟩ := at_of hb.1.2.1 hb.1.2.2
      have hG := (okA_good hok).2
      have hul := (hG u hu.mem).len
      refine Evt.no (by decide) ?_
      generalize (codeR l (isAt l i && isAt l k && inR a 0 20000)).1 = p at hp0 hp1
      change Int at p
      have hp0 : (0 : Int) ≤ p := hp0
      have hp1 : p ≤ (20000 : Int) := hp1
      rw [hs.idx, hu.idx]
      refine Evt.at rfl (Evt.bind (e48 _) ?_)
      refine for_evt' 0 (u.2.2.2.1.length : Int) (fun j (_ : Unit) => (l, i, k, a, p, (bst s u a p j.toNat).1, (bst s u a p j.toNat).2, (u.2.2.2.1.length : Int), j, ())) (fun _ _ => True) (b0 := ()) (by rw [wrap_id (by omega) (by omega)]; rfl) (by omega) trivial ?_ ?_
      · intro j _ h2 h3 _
        have hc := cnt_le s (withP u j) a p.toNat
        simp only [wr_succ h2 h3 (by omega)]
        refine Round.yes (decide_eq_true h3) (Round.at hs.idx (Round.at hu.idx (Round.bind (e47 (hG s hs.mem) (hG u hu.mem) h2 (by omega) hp0 hp1 a) ?_)))
        refine Round.ite (fun hb => ?_) (fun hb => ?_)
        · have hb : cnt s (withP u j) a p.toNat < (bst s u a p j.toNat).2 := of_decide_eq_true hb
          refine Round.again _ ⟨(), ?_, trivial⟩
          rw [bst_step s u a p h2, if_pos hb]
        · have hb : ¬ cnt s (withP u j) a p.toNat < (bst s u a p j.toNat).2 := by simpa using hb
          refine Round.again _ ⟨(), ?_, trivial⟩
          rw [bst_step s u a p h2, if_neg hb]
      · intro _ _
        exact Round.no (by simp) (Round.done (Evt.some _))
  · simp only [if_pos h]
    exact Evt.yes (by simpa using h) (Evt.some _)
/- spec.l04Count -/
theorem e49 {s u : Sft} (hs : Good s) (hu : Good u) {t : Int} (t0 : 0 ≤ t) (t1 : t ≤ 20000) (a : Int) : Evt (fun n => call T C n 49 (s, u, t, a, ())) ((cnt s u a t.toNat, ()), ()) := by
  refine Evt.next ?_ (fun n => r49 n s u t a)
  refine for_evt 0 t (fun i (_ : Unit) => (s, u, t, a, cnt s u a i.toNat, i, ())) (fun _ _ => True) (b0 := ()) t0 trivial ?_ ?_
  · intro i _ h0 h1 _
    have hc := cnt_le s u a i.toNat
    refine Round.yes (by simp [h1]) (Round.bind (e42 hs hu h0 (by omega) a) (Round.ite (fun h => ?_) (fun h => ?_)))
    · have h : lift s i + lift u i > a := of_decide_eq_true h
      refine Round.again _ ⟨(), ?_, trivial⟩
      rw [cnt_step s u a h0, if_pos h, wr_succ h0 h1 (by omega), wrap_id (x := cnt s u a i.toNat + 1) (by omega) (by omega)]
    · have h : ¬ lift s i + lift u i > a := by simpa using h
      refine Round.again _ ⟨(), ?_, trivial⟩
      rw [cnt_step s u a h0, if_neg h, wr_succ h0 h1 (by omega)]
  · intro _ _
    exact Round.no (by simp) (Round.done (Evt.some _))
/- spec.BestPhase -/
theorem e23 (l : List Sft) (hl : Small l) (i k a : Int) : Evt (fun n => call T C n 23 (l, i, k, a, ())) (bestR l i k a, ()) := by
  refine Evt.next (Evt.bind (e29 l hl i k a) ?_) (fun n => r23 n l i k a)
  unfold bestR
  refine Evt.ite (fun h => ?_) (fun h => ?_)
  · have h : (codeR l (isAt l i && isAt l k && inR a 0 20000)).2.1 = (0 : Int) := by simpa using h
    rw [if_neg (by simpa using h)]
    refine Evt.ite (fun e => ?_) (fun e => ?_)
    · have e : i = k := by simpa using e
      rw [if_pos e]
      exact Evt.yes (by simp) (Evt.some _)
    · have e : ¬ i = k := by simpa using e
      rw [if_neg e]
      obtain ⟨hok, hp0, hp1⟩ := code_ok h
      have hb := codeR_room h
      simp only [Bool.and_eq_true, isAt_iff hok] at hb
      obtain ⟨s, hs⟩ := at_of hb.1.1.1 hb.1.1.2
      obtain ⟨u, hu⟩ := at_of hb.1.2.1 hb.1.2.2
      have hG := (okA_good hok).2
      have hul := (hG u hu.mem).len
      refine Evt.no (by simp only [h]; decide) ?_
      simp only
      generalize (codeR l (isAt l i && isAt l k && inR a 0 20000)).1 = p at hp0 hp1
      change Int at p
      have hp0 : (0 : Int) ≤ p := hp0
      have hp1 : p ≤ (20000 : Int) := hp1
      rw [hs.idx, hu.idx]
      refine for_evt' 0 (u.2.2.2.1.length : Int) (fun j (_ : Unit) => (l, i, k, a, p, (bst s u a p j.toNat).1, (bst s u a p j.toNat).2, j, ())) (fun _ _ => True) (b0 := ()) (by rw [wrap_id (by omega) (by omega)]; rfl) (by omega) trivial ?_ ?_
      · intro j _ h2 h3 _
        have hc := cnt_le s (withP u j) a p.toNat
        have w16 : wr .i16 j = j := wrap16 (by omega) (by omega)
        simp only [w16, wr_succ h2 h3 (by omega)]
        refine Round.at hu.idx (Round.yes (decide_eq_true h3) (Round.at hu.idx (Round.at hs.idx (Round.bind (e49 (u := withP u j) (hG s hs.mem) ((hG u hu.mem).withP h2 (by omega)) hp0 hp1 a) ?_))))
        refine Round.ite (fun hb => ?_) (fun hb => ?_)
        · have hb : cnt s (withP u j) a p.toNat < (bst s u a p j.toNat).2 := of_decide_eq_true hb
          refine Round.again _ ⟨(), ?_, trivial⟩
          rw [bst_step s u a p h2, if_pos hb]
        · have hb : ¬ cnt s (withP u j) a p.toNat < (bst s u a p j.toNat).2 := by simpa using hb
          refine Round.again _ ⟨(), ?_, trivial⟩
          rw [bst_step s u a p h2, if_neg hb]
      · intro _ _
        exact Round.at hu.idx (Round.no (by simp) (Round.done (Evt.some _)))
  · have h : ¬ (codeR l (isAt l i && isAt l k && inR a 0 20000)).2.1 = (0 : Int) := by simpa using h
    rw [if_pos h]
    exact Evt.yes (by simpa using h) (Evt.some _)
/- impl.PhasesFor -/
theorem e8 (S : List Sft) (hS : Small S) (a b : Int) : Evt (fun n => call T C n 8 (S, a, b, ())) (pfI S a b, ()) := by
  refine Evt.next ?_ (fun n => r8 n S a b)
  dsimp only
  rw [if_pos (smallB_iff.2 hS)]
  exact Evt.some _
/- spec.l04Free -/
theorem e56 {s u : Sft} (hs : Good s) (hu : Good u) {t : Int} (t0 : 0 ≤ t) (t1 : t ≤ 20000) (a : Int) : Evt (fun n => call T C n 56 (s, u, t, a, ())) ((!ck2 s u t a, ()), ()) := by
  refine Evt.next ?_ (fun n => r56 n s u t a)
  refine for_evt 0 t (fun i (_ : Unit) => (s, u, t, a, i, ())) (fun i _ => ∀ j : Nat, j < i.toNat → ¬ lift s (j : Nat) + lift u (j : Nat) > a) (b0 := ()) t0 (fun j hj => by simp at hj) ?_ ?_
  · intro i _ h0 h1 hp
    refine Round.yes (decide_eq_true h1) (Round.bind (e42 hs hu h0 (by omega) a) (Round.ite (fun h => ?_) (fun h => ?_)))
    · have h : lift s i + lift u i > a := of_decide_eq_true h
      have hc : ck2 s u t a = true := ck2_of (i := i.toNat) (by omega) (by rw [show ((i.toNat : Nat) : Int) = i by omega]; exact h)
      rw [hc]
      exact Round.done (Evt.some _)
    · have h : ¬ lift s i + lift u i > a := by simpa using h
      refine Round.again _ ⟨(), by rw [wr_succ h0 h1 (by omega)], fun j hj => ?_⟩
      by_cases hji : j < i.toNat
      · exact hp j hji
      · have : j = i.toNat := by omega
        rw [this, show ((i.toNat : Nat) : Int) = i by omega]
        exact h
  · intro _ hp
    have hc : ck2 s u t a = false := ck2_no hp
    rw [hc]
    exact Round.no (by simp) (Round.done (Evt.some _))
/- spec.l04Look -/
theorem e30 {S0 : List Sft} (hG : ∀ s ∈ S0, Good s) (h6 : S0.length ≤ 6) {t : Int} (t0 : 0 ≤ t) (t1 : t ≤ 20000) (a : Int) {bud : Int} (b1 : bud ≤ 100000) :
    ∀ (d k : Nat) (S : List Sft) (ps : List Int) (l : Int), 1 ≤ k → k + d = S0.length → RelS S0 k S ps → 0 ≤ l → l ≤ bud →
    EvtX (fun n => call T C n 30 (S, (k : Int), t, a, bud, bud - l, ())) (fun y => y.1.1 = (skP S0 t a d k ps l).1 ∧ y.2.2.1 = bud - (skP S0 t a d k ps l).2.2 ∧ 0 ≤ (skP S0 t a d k ps l).2.2 ∧ (skP S0 t a d k ps l).2.2 ≤ bud ∧ RelS S0 k y.2.1 (skP S0 t a d k ps l).2.1 ∧ (y.1.1 = (0 : Int) → RelS S0 S0.length y.2.1 (skP S0 t a d k ps l).2.1)) := by
  intro d
  induction d with
  | zero =>
    intro k S ps l hk hkd hr l0 l1
    have hkl : k = S0.length := by omega
    refine EvtX.next (EvtX.yes (by rw [hr.len]; simp [hkl]) ⟨_, ⟨rfl, rfl, l0, l1, hr, fun _ => hkl ▸ hr⟩, Evt.some _⟩) (fun n => r30 n S k t a bud (bud - l))
  | succ d ih =>
    intro k S ps l hk hkd hr l0 l1
    refine EvtX.next (EvtX.no (by rw [hr.len]; simp; omega) ?_) (fun n => r30 n S k t a bud (bud - l))
    have hkl : k < S0.length := by omega
    have hgk := gSf_good hG hkl
    have hlen := hgk.len
    have hR : skP S0 t a (d + 1) k ps l = skL (skP S0 t a d (k + 1)) (ckB S0 t a k) k (gSf S0 k).2.2.2.1.length 0 ps l := rfl
    generalize skP S0 t a (d + 1) k ps l = R at hR
    generalize hn : (gSf S0 k).2.2.2.1.length = N at hR hlen
    refine EvtX.loop (fun x => ∃ (i : Nat) (S' : List Sft) (ps' : List Int) (l' : Int), x = (S', (k : Int), t, a, bud, bud - l', (i : Int), ()) ∧ i ≤ N ∧ RelS S0 k S' ps' ∧ 0 ≤ l' ∧ l' ≤ bud ∧ skL (skP S0 t a d (k + 1)) (ckB S0 t a k) k (N - i) i ps' l' = R) (fun x => N - x.2.2.2.2.2.2.1.toNat) ⟨0, S, ps, l, rfl, Nat.zero_le _, hr, l0, l1, hR.symm⟩ ?_
    rintro x ⟨i, S', ps', l', rfl, hi, hr', l0', l1', hR'⟩
    obtain ⟨q, q0, q1, hv, _⟩ := hr'.at' k hkl
    have hlen' := hr'.len
    have hc1 : decide ((0 : Int) ≤ (k : Int) ∧ (k : Int) < (S'.length : Int)) = true := decide_eq_true (by omega)
    have hv' : S'[((k : Int)).toNat]? = some (withP (gSf S0 k) q) := by rw [Int.toNat_natCast]; exact hv
    by_cases hlt : i < N
    · have hc2 : decide ((i : Int) < (((withP (gSf S0 k) q).2.2.2.1.length : Nat) : Int)) = true := decide_eq_true (by show (i : Int) < (((gSf S0 k).2.2.2.1.length : Nat) : Int); rw [hn]; omega)
      obtain ⟨m, hm⟩ : ∃ m, N - i = m + 1 := ⟨N - i - 1, by omega⟩
      rw [hm, skL_succ] at hR'
      by_cases hl0 : l' = 0
      · subst hl0
        rw [if_pos rfl] at hR'
        subst hR'
        refine .inl ⟨((7, ()), (S', bud - 0, ())), ⟨rfl, rfl, Int.le_refl _, l1', hr', fun h => absurd h (show ¬ ((7 : Int) = 0) by decide)⟩, ?_⟩
        refine Round.chk hc1 (Round.at hv' (Round.yes hc2 (Round.yes (by simp) (Round.done (Evt.some _)))))
      · rw [if_neg hl0] at hR'
        have hw16 : wr .i16 (i : Int) = (i : Int) := wrap16 (by omega) (by omega)
        have hw64 : wr .i64 (i : Int) = (i : Int) := wrap_id (by omega) (by omega)
        have hwk : wr .i64 ((k : Int) - 1) = ((k - 1 : Nat) : Int) := by rw [wrap_id (by omega) (by omega)]; omega
        have hwk1 : wr .i64 ((k : Int) + 1) = ((k + 1 : Nat) : Int) := by rw [wrap_id (by omega) (by omega)]; omega
        have hwt : wr .i64 (bud - l' + 1) = bud - (l' - 1) := by rw [wrap_id (by omega) (by omega)]; omega
        have hwi : wr .i64 ((i : Int) + 1) = ((i + 1 : Nat) : Int) := by rw [wrap_id (by omega) (by omega)]; omega
        have hne : ¬ ((bud - l' == bud) = true) := by simp; omega
        have hr1 := hr'.put (p := (i : Int)) (by rw [hw64]; omega) (by rw [hw64]; omega)
        have hr2 := hr'.put2 (p := (i : Int)) (by omega) (by omega)
        obtain ⟨v, hv1, hvg, hck⟩ := hr1.ck hG hk hkl i t a
        have hset : S'.set ((k : Int)).toNat ((withP (gSf S0 k) q).1, ((withP (gSf S0 k) q).2.1, (wr .i16 (i : Int), (withP (gSf S0 k) q).2.2.2))) = S'.set k (withP (gSf S0 k) i) := by rw [hw16, Int.toNat_natCast]; rfl
        have hvk : (S'.set k (withP (gSf S0 k) i))[((k : Int)).toNat]? = some (withP (gSf S0 k) i) := by rw [Int.toNat_natCast, List.getElem?_set_self (by omega)]
        have hv1' : (S'.set k (withP (gSf S0 k) i))[(((k - 1 : Nat) : Int)).toNat]? = some v := by rw [Int.toNat_natCast]; exact hv1
        have hc3 : decide ((0 : Int) ≤ (k : Int) ∧ (k : Int) < ((S'.set k (withP (gSf S0 k) i)).length : Int)) = true := decide_eq_true (by rw [List.length_set]; omega)
        have hc4 : decide ((0 : Int) ≤ ((k - 1 : Nat) : Int) ∧ ((k - 1 : Nat) : Int) < ((S'.set k (withP (gSf S0 k) i)).length : Int)) = true := decide_eq_true (by rw [List.length_set]; omega)
        have hgi : Good (withP (gSf S0 k) i) := hgk.withW (by rw [hw64]; omega) (by rw [hw64]; omega)
        have hfree := e56 hvg hgi t0 t1 a
        rw [hck] at hfree
        have hic : (i : Int) + 1 = ((i + 1 : Nat) : Int) := by omega
        have hm1 : N - (i + 1) = m := by omega
        by_cases hcl : ckB S0 t a k i (ps'.getD (k - 1) 0) = true
        · rw [if_pos hcl] at hR'
          rw [hcl] at hfree
          refine .inr ⟨(S'.set k (withP (gSf S0 k) i), (k : Int), t, a, bud, bud - (l' - 1), ((i + 1 : Nat) : Int), ()), ⟨i + 1, _, ps', l' - 1, rfl, by omega, hr1, by omega, by omega, by rw [hm1, ← hic]; exact hR'⟩, by simp; omega, fun y => ?_⟩
          refine Round.chk hc1 (Round.at hv' (Round.yes hc2 (Round.no hne (Round.chk hc1 (Round.at hv' ?_)))))
          simp only [hset, hwk, hwk1, hwt, hwi]
          exact Round.chk hc4 (Round.chk hc3 (Round.at hv1' (Round.at hvk (Round.bind hfree (Round.yes rfl (Round.again _ rfl))))))
        · rw [if_neg hcl] at hR'
          have hcl : ckB S0 t a k i (ps'.getD (k - 1) 0) = false := by simpa using hcl
          rw [hcl] at hfree
          obtain ⟨y1, ⟨g1, g2, g3, g4, g5, g6⟩, hE⟩ := ih (k + 1) (S'.set k (withP (gSf S0 k) i)) (ps'.set k i) (l' - 1) (by omega) (by omega) hr2 (by omega) (by omega)
          generalize hr0 : skP S0 t a d (k + 1) (ps'.set k i) (l' - 1) = r at hR' g1 g2 g3 g4 g5 g6
          obtain ⟨r1, r2, r3⟩ := r
          obtain ⟨⟨c, cu⟩, S2, tr, tu⟩ := y1
          have g1 : c = r1 := g1
          have g2 : tr = bud - r3 := g2
          subst g1; subst g2
          by_cases hc6 : c = 6
          · rw [if_neg (by simpa using hc6)] at hR'
            refine .inr ⟨(S2, (k : Int), t, a, bud, bud - r3, ((i + 1 : Nat) : Int), ()), ⟨i + 1, S2, r2, r3, rfl, by omega, g5.mono (by omega), g3, g4, by rw [hm1, ← hic]; exact hR'⟩, by simp; omega, fun y => ?_⟩
            refine Round.chk hc1 (Round.at hv' (Round.yes hc2 (Round.no hne (Round.chk hc1 (Round.at hv' ?_)))))
            simp only [hset, hwk, hwk1, hwt, hwi]
            exact Round.chk hc4 (Round.chk hc3 (Round.at hv1' (Round.at hvk (Round.bind hfree (Round.no (by simp) (Round.bind hE (Round.no (by simp [hc6]) (Round.again _ rfl))))))))
          · rw [if_pos (by simpa using hc6)] at hR'
            subst hR'
            refine .inl ⟨((c, ()), (S2, bud - r3, ())), ⟨rfl, rfl, g3, g4, g5.mono (by omega), g6⟩, ?_⟩
            refine Round.chk hc1 (Round.at hv' (Round.yes hc2 (Round.no hne (Round.chk hc1 (Round.at hv' ?_)))))
            simp only [hset, hwk, hwk1, hwt, hwi]
            exact Round.chk hc4 (Round.chk hc3 (Round.at hv1' (Round.at hvk (Round.bind hfree (Round.no (by simp) (Round.bind hE (Round.yes (by simp [hc6]) (Round.done (Evt.some _)))))))))
    · have h0 : N - i = 0 := by omega
      rw [h0] at hR'
      have hR' : (6, ps', l') = R := hR'
      subst hR'
      have hc2 : ¬ (decide ((i : Int) < (((withP (gSf S0 k) q).2.2.2.1.length : Nat) : Int)) = true) := by
        show ¬ (decide ((i : Int) < (((gSf S0 k).2.2.2.1.length : Nat) : Int)) = true)
        rw [hn]; simp; omega
      exact .inl ⟨((6, ()), (S', bud - l', ())), ⟨rfl, rfl, l0', l1', hr', fun h => absurd h (show ¬ ((6 : Int) = 0) by decide)⟩, Round.chk hc1 (Round.at hv' (Round.no hc2 (Round.done (Evt.some _))))⟩
/- spec.PhasesFor -/
theorem e6 (S : List Sft) (hS : Small S) (a b : Int) : Evt (fun n => call T C n 6 (S, a, b, ())) (pfI S a b, ()) := by
  refine Evt.next (Evt.bind (e27 S hS) ?_) (fun n => r6 n S a b)
  cases hok : okA S with
  | false =>
    rw [pfI_code (codeR_bad hok _) (by decide)]
    exact Evt.yes rfl (Evt.some _)
  | true =>
    refine Evt.no (by simp) (Evt.bind (e28 _ _ _) ?_)
    cases hb : inR b 0 100000 with
    | false =>
      rw [pfI_code (t := 0) (c := 2) (by rw [hb, Bool.and_false]; exact codeR_out hok) (by decide)]
      exact Evt.yes rfl (Evt.some _)
    | true =>
      refine Evt.no (by simp) (Evt.bind (e29' S hS a) ?_)
      have hpf : pfI S a b = if (codeR S (inR a 0 20000)).2.1 = (0 : Int) then
          (if (skP S (codeR S (inR a 0 20000)).1 a (S.length - 1) 1 (psI S) b).1 = 0 then ((skP S (codeR S (inR a 0 20000)).1 a (S.length - 1) 1 (psI S) b).2.1, b - (skP S (codeR S (inR a 0 20000)).1 a (S.length - 1) 1 (psI S) b).2.2, 0, ()) else ([], 0, (skP S (codeR S (inR a 0 20000)).1 a (S.length - 1) 1 (psI S) b).1, ()))
        else ([], 0, (codeR S (inR a 0 20000)).2.1, ()) := by
        unfold pfI
        rw [hb, Bool.and_true]
      rw [hpf]
      clear hpf
      refine Evt.ite (fun h => ?_) (fun h => ?_)
      · rw [if_neg (by simpa using h)]
        exact Evt.some _
      · have h : (codeR S (inR a 0 20000)).2.1 = (0 : Int) := by simpa using h
        rw [if_pos h]
        obtain ⟨_, hp0, hp1⟩ := code_ok h
        obtain ⟨hn, hG⟩ := okA_good hok
        have hb := inR_iff.1 hb
        generalize (codeR S (inR a 0 20000)).1 = t at hp0 hp1
        change Int at t
        have hp0 : (0 : Int) ≤ t := hp0
        have hp1 : t ≤ (20000 : Int) := hp1
        refine Evt.chk (by simp; omega) ?_
        obtain ⟨y, ⟨g1, g2, g3, g4, g5, g6⟩, hE⟩ := e30 hG (by omega) hp0 hp1 a hb.2 (S.length - 1) 1 S (psI S) b (by omega) (by omega) (relS_start hG (by omega)) hb.1 (Int.le_refl _)
        generalize skP S t a (S.length - 1) 1 (psI S) b = r at g1 g2 g3 g4 g5 g6
        obtain ⟨r1, r2, r3⟩ := r
        obtain ⟨⟨c, cu⟩, S2, tr, tu⟩ := y
        have g1 : c = r1 := g1
        have g2 : tr = b - r3 := g2
        subst g1; subst g2
        have hE' : Evt (fun n => call T C n 30 ([] ++ S, 1, t, a, b, 0, ())) ((c, cu), (S2, b - r3, tu)) := by
          have e : b - b = 0 := by omega
          rw [e] at hE
          exact hE
        refine Evt.bind hE' ?_
        refine Evt.ite (fun h => ?_) (fun h => ?_)
        · have h : ¬ c = 0 := by simpa using h
          rw [if_neg h]
          exact Evt.some _
        · have h : c = 0 := by simpa using h
          subst h
          rw [if_pos rfl]
          have g7 := g6 rfl
          have hout := g7.out
          have hl2 : S2.length = S.length := g7.len
          refine for_evt' 0 (S2.length : Int) (fun i (_ : Unit) => (S2, b - r3, (S2.map (fun s => wr .i64 s.2.2.1)).take i.toNat, i, ())) (fun _ _ => True) (b0 := ()) rfl (by omega) trivial ?_ ?_
          · intro i _ h0 h1 _
            obtain ⟨v, hv⟩ := at_of h0 h1
            have hv1 : S2[i.toNat]? = some v := hv.get
            have hlt : i.toNat < S2.length := by omega
            have hlm : (S2.map (fun s => wr .i64 s.2.2.1)).length = S2.length := List.length_map _
            refine Round.yes (decide_eq_true h1) (Round.chk (decide_eq_true ⟨h0, h1⟩) (Round.at hv1 (Round.chk (by simp; omega) (Round.again _ ⟨(), ?_, trivial⟩))))
            have htk : (S2.map (fun s => wr .i64 s.2.2.1)).take (i + 1).toNat = (S2.map (fun s => wr .i64 s.2.2.1)).take i.toNat ++ [wr .i64 v.2.2.1] := by
              rw [show (i + 1).toNat = i.toNat + 1 by omega, List.take_add_one, List.getElem?_map, hv1]
              rfl
            rw [htk, wr_succ h0 h1 (by omega)]
          · intro _ _
            have hlm : (S2.map (fun s => wr .i64 s.2.2.1)).length = S2.length := List.length_map _
            rw [Int.toNat_natCast, List.take_of_length_le (by omega), hout]
            exact Round.no (by simp) (Round.done (Evt.some _))
/- spec.l00Same -/
theorem e50 (l : List Int) (hl : (l.length : Int) ≤ 1000000) : Evt (fun n => call T C n 50 (l, l, ())) ((true, ()), ()) := by
  refine Evt.next (Evt.no (by simp) ?_) (fun n => r50 n l l)
  refine for_evt' 0 (l.length : Int) (fun i (_ : Unit) => (l, l, i, ())) (fun _ _ => True) (b0 := ()) rfl (by omega) trivial ?_ ?_
  · intro i _ h2 h3 _
    obtain ⟨v, hv⟩ := at_of h2 h3
    exact Round.yes (decide_eq_true h3) (Round.at hv.idx (Round.at hv.idx (Round.no (by simp) (Round.again _ ⟨(), by rw [wr_succ h2 h3 (by omega)], trivial⟩))))
  · intro _ _
    exact Round.no (by simp) (Round.done (Evt.some _))
/- spec.A2Same -/
theorem e24 (l : List Int) (hl : (l.length : Int) ≤ 1000000) : Evt (fun n => call T C n 24 (l, l, ())) ((true, ()), ()) := Evt.next (Evt.bind (e50 l hl) (Evt.some _)) (fun n => r24 n l l)
/- slices.Clone[impl.Cam,int16] -/
theorem e52 (l : List Int) (h0 : l.length ≠ 0) (hl : (l.length : Int) ≤ 1000000) : Evt (fun n => call T C n 52 (l, ())) ((l, ()), ()) :=
  Evt.next (Evt.yes (decide_eq_true h0) (Evt.chk (by simp; omega) (Evt.some _))) (fun n => r52 n l)
/- impl.WithPhases -/
theorem e25 (l : List Sft) (hl : Small l) (p : List Int) : Evt (fun n => call T C n 25 (l, p, ())) (phR l p, ()) := by
  refine Evt.next (Evt.bind (e45 l hl) ?_) (fun n => r25 n l p)
  unfold phR
  cases hok : okA l with
  | false => exact Evt.yes rfl (Evt.some _)
  | true =>
    have hG := okA_good hok
    refine Evt.no (by simp) (Evt.ite (fun h => ?_) (fun h => ?_))
    · rw [if_neg (by simp), if_pos (by simpa using h)]; exact Evt.some _
    · have hlen : (p.length : Int) = l.length := by simpa using h
      rw [if_neg (by simp), if_neg (by simpa using h)]
      refine for_evt 0 (l.length : Int) (fun i (b : List Sft) => (p, b, l, (l.length : Int), i, ())) (fun i b => b.length = i.toNat ∧ phs l p [] = phs (l.drop i.toNat) (p.drop i.toNat) b) (b0 := []) (by omega) ⟨rfl, by simp⟩ ?_ ?_
      · intro i b h2 h3 ⟨hb, hp⟩
        obtain ⟨s, hs⟩ := at_of h2 h3
        obtain ⟨q, hq⟩ := at_of (l := p) h2 (by omega)
        have hg := hG.2 s hs.mem
        rw [hp, hs.drop, hq.drop]
        refine Round.yes (decide_eq_true h3) (Round.at hs.idx (Round.at hq.idx (Round.bind (e51 _ _) ?_)))
        refine Round.ite (fun hb1 => ?_) (fun hb1 => ?_)
        · have hb1 : inR q 0 (wr .i64 ((s.2.2.2.1.length : Int) - 1)) = false := by simpa using hb1
          simp only [phs, hb1]
          exact Round.done (Evt.some _)
        · have hb1 : inR q 0 (wr .i64 ((s.2.2.2.1.length : Int) - 1)) = true := by simpa using hb1
          have hgl := hg.len
          refine Round.at hq.idx (Round.bind (e52 _ (by omega) (by omega)) (Round.chk (by simp; omega) (Round.again _ ⟨b ++ [withP s (wr .i16 q)], ?_, by simp [hb]; omega, ?_⟩)))
          · rw [wr_succ h2 h3 (by omega)]; rfl
          · simp only [phs, hb1]; rfl
      · intro b ⟨_, hp⟩
        rw [hp, drop_all]
        exact Round.no (by simp) (Round.done (Evt.some _))
/- laws.FnClashes -/
theorem tailCl {l : List Sft} (hS : Small l) (hA : okA l = true) {a : Int} (ha : inR a 0 20000 = true) {p : Int} (hp : per l 1 = some p) (hph : ∀ s ∈ l, wr .i64 s.2.2.1 = s.2.2.1 ∧ 0 ≤ s.2.2.1 ∧ s.2.2.1 < (s.2.2.2.1.length : Int)) : Evt (fun n => ( call T C n 8 (l, a, (500 : Int), ())).bind fun r51 => ( call T C n 6 (l, a, (500 : Int), ())).bind fun r53 => (if (r51.1.2.2.1 != r53.1.2.2.1) = true then some ((false, ()), (())) else ( call T C n 24 (r51.1.1, r53.1.1, ())).bind fun r55 => (if (bif false then true else (!r55.1.1)) = true then some ((false, ()), (())) else (if (bif false then true else (r51.1.2.1 != r53.1.2.1)) = true then some ((false, ()), (())) else (if (r51.1.2.2.1 != (0 : Int)) = true then (if (r51.1.2.2.1 == (6 : Int)) = true then some ((true, ()), (())) else some (((bif false then true else (r51.1.2.2.1 == (7 : Int))), ()), (()))) else ( call T C n 25 (l, r53.1.1, ())).bind fun r56 => ( call T C n 18 (r56.1.1, a, ())).bind fun r58 => (if (r56.1.2.1 == (0 : Int)) = true then (if (bif true then (r58.1.2.2.2.1 == (6 : Int)) else false) = true then (if (bif true then (decide (r53.1.2.1 ≤ (500 : Int))) else false) = true then (if (bif true then ((r53.1.1.length : Int) == (l.length : Int)) else false) = true then chk (decide (0 ≤ (0 : Int) ∧ (0 : Int) < (r53.1.1.length : Int))) ((r53.1.1[(Int.toNat (0 : Int))]?).bind fun v59 => (idx l (0 : Int)).bind fun v60 => some (((bif true then (v59 == (wr .i64 v60.2.2.1)) else false), ()), (()))) else some ((false, ()), (()))) else some ((false, ()), (()))) else some ((false, ()), (()))) else some ((false, ()), (())))))))) ((true, ()), ()) := by
  have im := e8 l hS a 500
  have sp := e6 l hS a 500
  have hcode : codeR l (inR a 0 20000 && inR 500 0 100000) = (p, 0, ()) := by
    unfold codeR
    rw [if_neg (by simp [hA]), if_neg (by rw [ha]; decide)]
    unfold allR
    rw [hp]
  obtain ⟨hn, hG⟩ := okA_good hA
  have hpf : pfI l a 500 = if (skP l p a (l.length - 1) 1 (psI l) 500).1 = 0 then ((skP l p a (l.length - 1) 1 (psI l) 500).2.1, 500 - (skP l p a (l.length - 1) 1 (psI l) 500).2.2, 0, ()) else ([], 0, (skP l p a (l.length - 1) 1 (psI l) 500).1, ()) := by
    unfold pfI
    rw [hcode]
    rw [if_pos rfl]
  have hcd := skP_code l p a (l.length - 1) 1 (psI l) 500
  have hlf := skP_left l p a (l.length - 1) 1 (psI l) 500 (by omega)
  have hpl : (psI l).length = l.length := by unfold psI; simp; omega
  have hln := skP_len l p a (l.length - 1) 1 (psI l) 500
  have hpr := skP_pre l p a (l.length - 1) 1 (psI l) 500 0 (by omega)
  have hok := skP_ok (S := l) (t := p) (a := a) (l.length - 1) 1 (psI l) 500 (by omega) (by omega) hpl
  generalize skP l p a (l.length - 1) 1 (psI l) 500 = r at hpf hcd hlf hln hpr hok
  obtain ⟨c, ps, lf⟩ := r
  have hps0 : (psI l)[0]? = some (wr .i64 (gSf l 0).2.2.1) := rfl
  have hpr2 : ps[0]? = some (wr .i64 (gSf l 0).2.2.1) := hpr.trans hps0
  have hm0 := gSf_mem (S := l) (i := 0) (by omega)
  have hlf2 : 0 ≤ lf ∧ lf ≤ 500 := hlf
  have hln2 : ps.length = l.length := by have h : ps.length = (psI l).length := hln; omega
  rcases hcd with h | h | h
  · have h : c = 0 := h
    subst h
    have hpf : pfI l a 500 = (ps, 500 - lf, 0, ()) := hpf
    rw [hpf] at im sp
    have hb := hph _ (List.mem_of_getElem? hm0)
    obtain ⟨h1, h2, h3⟩ := free_set hA hp ha hln2 ⟨_, hpr2, by rw [hb.1]; exact hb.2.1, by rw [hb.1]; exact hb.2.2⟩ (hok rfl)
    have wp := e25 l hS ps
    rw [h1] at wp
    have fE := e18 (zipP l ps) h2 a
    rw [h3] at fE
    have hi0 : idx l (0 : Int) = some (gSf l 0) := by
      unfold idx
      rw [if_pos (Int.le_refl _)]
      exact hm0
    have hle : (bif true then (decide ((500 : Int) - lf ≤ (500 : Int))) else false) = true := decide_eq_true (by omega)
    have hc0 : decide ((0 : Int) ≤ (0 : Int) ∧ (0 : Int) < (ps.length : Int)) = true := decide_eq_true (by omega)
    refine Evt.bind im (Evt.bind sp (Evt.no (by simp) (Evt.bind (e24 ps (by omega)) (Evt.no (by simp) (Evt.no (by simp) (Evt.no (by simp) (Evt.bind wp (Evt.bind fE (Evt.yes rfl (Evt.yes rfl (Evt.yes hle (Evt.yes (by simp [hln2]) (Evt.chk hc0 (Evt.at hpr2 (Evt.at hi0 ?_)))))))))))))))
    refine (Evt.some _).of_eq fun n => ?_
    simp
  · have h : c = 6 := h
    subst h
    have hpf : pfI l a 500 = ([], 0, 6, ()) := hpf
    rw [hpf] at im sp
    exact Evt.bind im (Evt.bind sp (Evt.no (by simp) (Evt.bind (e24 [] (by simp)) (Evt.no (by simp) (Evt.no (by simp) (Evt.yes (by simp) (Evt.yes (by simp) (Evt.some _))))))))
  · have h : c = 7 := h
    subst h
    have hpf : pfI l a 500 = ([], 0, 7, ()) := hpf
    rw [hpf] at im sp
    exact Evt.bind im (Evt.bind sp (Evt.no (by simp) (Evt.bind (e24 [] (by simp)) (Evt.no (by simp) (Evt.no (by simp) (Evt.yes (by simp) (Evt.no (by simp) (Evt.some _))))))))
theorem midCl {l : List Sft} (hS : Small l) (hA : okA l = true) {a : Int} (ha : inR a 0 20000 = true) {p : Int} (hp : per l 1 = some p) (hph : ∀ s ∈ l, wr .i64 s.2.2.1 = s.2.2.1 ∧ 0 ≤ s.2.2.1 ∧ s.2.2.1 < (s.2.2.2.1.length : Int)) : Evt (fun n => (if (decide ((l.length : Int) > (1 : Int))) = true then ( call T C n 21 (l, (0 : Int), (1 : Int), a, ())).bind fun r36 => ( call T C n 22 (l, (0 : Int), (1 : Int), a, ())).bind fun r37 => ( call T C n 23 (l, (0 : Int), (1 : Int), a, ())).bind fun r38 => chk (decide ((([] : List Sft).length + l.length) * 32 ≤ 140737488355328)) ( (if (r36.1.2.1 != (0 : Int)) = true then some ((false, ()), (())) else (if (bif false then true else (r37.1.2.2.1 != r38.1.2.2.1)) = true then some ((false, ()), (())) else (if (bif false then true else (r37.1.2.2.1 != (0 : Int))) = true then some ((false, ()), (())) else (if (bif false then true else (r37.1.1 != r38.1.1)) = true then some ((false, ()), (())) else (if (bif false then true else (r37.1.2.1 != r38.1.2.1)) = true then some ((false, ()), (())) else (if (bif false then true else (decide (r38.1.2.1 > r36.1.1))) = true then some ((false, ()), (())) else chk (decide (0 ≤ (1 : Int) ∧ (1 : Int) < ((([] : List Sft) ++ l).length : Int))) (((([] : List Sft) ++ l)[(Int.toNat (1 : Int))]?).bind fun v39 => ( call T C n 21 (((([] : List Sft) ++ l).set (Int.toNat (1 : Int)) (v39.1, (v39.2.1, ((wr .i16 r38.1.1), v39.2.2.2)))), (0 : Int), (1 : Int), a, ())).bind fun r40 => (if (r40.1.2.1 != (0 : Int)) = true then some ((false, ()), (())) else (if (bif false then true else (r40.1.1 != r38.1.2.1)) = true then some ((false, ()), (())) else ( call T C n 8 (l, a, (500 : Int), ())).bind fun r41 => ( call T C n 6 (l, a, (500 : Int), ())).bind fun r43 => (if (r41.1.2.2.1 != r43.1.2.2.1) = true then some ((false, ()), (())) else ( call T C n 24 (r41.1.1, r43.1.1, ())).bind fun r45 => (if (bif false then true else (!r45.1.1)) = true then some ((false, ()), (())) else (if (bif false then true else (r41.1.2.1 != r43.1.2.1)) = true then some ((false, ()), (())) else (if (r41.1.2.2.1 != (0 : Int)) = true then (if (r41.1.2.2.1 == (6 : Int)) = true then some ((true, ()), (())) else some (((bif false then true else (r41.1.2.2.1 == (7 : Int))), ()), (()))) else ( call T C n 25 (l, r43.1.1, ())).bind fun r46 => ( call T C n 18 (r46.1.1, a, ())).bind fun r48 => (if (r46.1.2.1 == (0 : Int)) = true then (if (bif true then (r48.1.2.2.2.1 == (6 : Int)) else false) = true then (if (bif true then (decide (r43.1.2.1 ≤ (500 : Int))) else false) = true then (if (bif true then ((r43.1.1.length : Int) == (l.length : Int)) else false) = true then chk (decide (0 ≤ (0 : Int) ∧ (0 : Int) < (r43.1.1.length : Int))) ((r43.1.1[(Int.toNat (0 : Int))]?).bind fun v49 => (idx l (0 : Int)).bind fun v50 => some (((bif true then (v49 == (wr .i64 v50.2.2.1)) else false), ()), (()))) else some ((false, ()), (()))) else some ((false, ()), (()))) else some ((false, ()), (()))) else some ((false, ()), (()))))))))))))))))) else ( call T C n 8 (l, a, (500 : Int), ())).bind fun r51 => ( call T C n 6 (l, a, (500 : Int), ())).bind fun r53 => (if (r51.1.2.2.1 != r53.1.2.2.1) = true then some ((false, ()), (())) else ( call T C n 24 (r51.1.1, r53.1.1, ())).bind fun r55 => (if (bif false then true else (!r55.1.1)) = true then some ((false, ()), (())) else (if (bif false then true else (r51.1.2.1 != r53.1.2.1)) = true then some ((false, ()), (())) else (if (r51.1.2.2.1 != (0 : Int)) = true then (if (r51.1.2.2.1 == (6 : Int)) = true then some ((true, ()), (())) else some (((bif false then true else (r51.1.2.2.1 == (7 : Int))), ()), (()))) else ( call T C n 25 (l, r53.1.1, ())).bind fun r56 => ( call T C n 18 (r56.1.1, a, ())).bind fun r58 => (if (r56.1.2.1 == (0 : Int)) = true then (if (bif true then (r58.1.2.2.2.1 == (6 : Int)) else false) = true then (if (bif true then (decide (r53.1.2.1 ≤ (500 : Int))) else false) = true then (if (bif true then ((r53.1.1.length : Int) == (l.length : Int)) else false) = true then chk (decide (0 ≤ (0 : Int) ∧ (0 : Int) < (r53.1.1.length : Int))) ((r53.1.1[(Int.toNat (0 : Int))]?).bind fun v59 => (idx l (0 : Int)).bind fun v60 => some (((bif true then (v59 == (wr .i64 v60.2.2.1)) else false), ()), (()))) else some ((false, ()), (()))) else some ((false, ()), (()))) else some ((false, ()), (()))) else some ((false, ()), (()))))))))) ((true, ()), ()) := by
  have htail := tailCl hS hA ha hp hph
  obtain ⟨hn, hG⟩ := okA_good hA
  obtain ⟨p0, p1⟩ := per_le hG (by omega) (by omega) hp
  refine Evt.ite (fun h2 => ?_) (fun _ => htail)
  have h2 : (l.length : Int) > 1 := of_decide_eq_true h2
  obtain ⟨s, u, r, rfl⟩ := two_of h2
  have cl := e21 (s :: u :: r) hS 0 1 a
  have bi := e22 (s :: u :: r) hS 0 1 a
  have bs := e23 (s :: u :: r) hS 0 1 a
  have hat : ∀ L : List Sft, L.length = (s :: u :: r).length → (isAt L 0 && isAt L 1 && inR a 0 20000) = true := fun L hL => by
    have hL2 : (2 : Int) ≤ L.length := by rw [hL]; simp; omega
    have hL6 : (L.length : Int) ≤ 6 := by rw [hL]; exact hn.2
    have hw : wr .i64 ((L.length : Int) - 1) = (L.length : Int) - 1 := wrap_id (by omega) (by omega)
    have i0 : isAt L 0 = true := by unfold isAt; rw [hw]; exact inR_iff.2 (by omega)
    have i1 : isAt L 1 = true := by unfold isAt; rw [hw]; exact inR_iff.2 (by omega)
    rw [i0, i1, ha]
    rfl
  have hcode : codeR (s :: u :: r) (isAt (s :: u :: r) 0 && isAt (s :: u :: r) 1 && inR a 0 20000) = (p, 0, ()) := by
    rw [hat _ rfl]
    unfold codeR
    rw [if_neg (by simp [hA]), if_neg (by simp)]
    unfold allR
    rw [hp]
  have hcl : clashR (s :: u :: r) 0 1 a = (cnt s u a p.toNat, 0, ()) := by
    unfold clashR
    rw [hcode]
    rfl
  have hbe : bestR (s :: u :: r) 0 1 a = ((bst s u a p u.2.2.2.1.length).1, (bst s u a p u.2.2.2.1.length).2, 0, ()) := by
    unfold bestR
    rw [hcode]
    rfl
  have hu := hph u (by simp)
  have hgu := hG u (by simp)
  have hlu := hgu.len
  obtain ⟨g1, g2, g3, g4⟩ := bst_spec s u a (p := p) (by omega) u.2.2.2.1.length (by omega)
  have g5 := g4 u.2.2.1.toNat (by omega)
  rw [show ((u.2.2.1.toNat : Nat) : Int) = u.2.2.1 by omega, withP_self] at g5
  rw [hcl] at cl
  rw [hbe] at bi bs
  generalize bst s u a p u.2.2.2.1.length = b at bi bs g1 g2 g3 g5
  obtain ⟨bp, bn⟩ := b
  have g1 : 0 ≤ bp := g1
  have g2 : bp < (u.2.2.2.1.length : Int) := g2
  have g3 : bn = cnt s (withP u bp) a p.toNat := g3
  have g5 : bn ≤ cnt s u a p.toNat := g5
  have hw16 : wr .i16 bp = bp := wrap16 (by omega) (by omega)
  have hoku : okS u = true := by
    simp only [okA, Bool.and_eq_true, List.all_eq_true] at hA
    exact hA.2 u (by simp)
  have hoku2 := okS_with hoku (by omega) g1 g2
  rw [hw16] at hoku2
  have hA2 : okA (s :: withP u bp :: r) = true := by
    simp only [okA, Bool.and_eq_true, List.all_eq_true] at hA ⊢
    refine ⟨hA.1, fun x hx => ?_⟩
    rcases List.mem_cons.1 hx with rfl | hx
    · exact hA.2 _ (by simp)
    rcases List.mem_cons.1 hx with rfl | hx
    · exact hoku2
    · exact hA.2 x (by simp [hx])
  have hS2 : Small (s :: withP u bp :: r) := ⟨hS.1, fun x hx => by
    rcases List.mem_cons.1 hx with rfl | hx
    · exact hS.2 _ (by simp)
    rcases List.mem_cons.1 hx with rfl | hx
    · exact hS.2 u (by simp)
    · exact hS.2 x (by simp [hx])⟩
  have hp2 : per (s :: withP u bp :: r) 1 = some p := hp
  have hcode2 : codeR (s :: withP u bp :: r) (isAt (s :: withP u bp :: r) 0 && isAt (s :: withP u bp :: r) 1 && inR a 0 20000) = (p, 0, ()) := by
    rw [hat (s :: withP u bp :: r) rfl]
    unfold codeR
    rw [if_neg (by simp [hA2]), if_neg (by simp)]
    unfold allR
    rw [hp2]
  have cl2 := e21 (s :: withP u bp :: r) hS2 0 1 a
  have hcl2 : clashR (s :: withP u bp :: r) 0 1 a = (cnt s (withP u bp) a p.toNat, 0, ()) := by
    unfold clashR
    rw [hcode2]
    rfl
  rw [hcl2, ← g3] at cl2
  have hset : (([] : List Sft) ++ (s :: u :: r)).set (Int.toNat (1 : Int)) (u.1, (u.2.1, ((wr .i16 bp), u.2.2.2))) = s :: withP u bp :: r := by rw [hw16]; rfl
  refine Evt.bind cl (Evt.bind bi (Evt.bind bs (Evt.chk (by simp at hn ⊢; omega) (Evt.no (by simp) (Evt.no (by simp) (Evt.no (by simp) (Evt.no (by simp) (Evt.no (by simp) (Evt.no (by simp; omega) (Evt.chk (by simp; omega) (Evt.at (x := u) rfl ?_)))))))))))
  simp only [hset]
  exact Evt.bind cl2 (Evt.no (by simp) (Evt.no (by simp) htail))
theorem e4 (x y : List Int) (hd : DomA (C 4).params (x, y, ())) : Evt (fun n => call T C n 4 (x, y, ())) ((true, ()), ()) := by
  have hx : ∀ v ∈ x, 0 ≤ v ∧ v ≤ 255 := byte_of hd.1
  have hy : ∀ v ∈ y, 0 ≤ v ∧ v ≤ 255 := byte_of hd.2.1
  refine Evt.next (Evt.bind (e14 x y) ?_) (fun n => r4 n x y)
  cases hlong : (decide ((x.length : Int) > 3000) || decide ((y.length : Int) > 3000)) with
  | true => exact Evt.yes rfl (Evt.some _)
  | false =>
    simp only [Bool.or_eq_false_iff, decide_eq_false_iff_not] at hlong
    obtain ⟨l, hQ, ⟨l1, l3⟩, hD⟩ := e15 hx (by omega)
    have ok := drA ⟨l1, l3⟩ hD
    have hsm : ∀ s ∈ l, s.2.2.2.1.length ≤ 16 := fun s hs => (hD s hs).l.2
    have hS : Small l := ⟨by omega, fun s hs => by have := hsm s hs; omega⟩
    have hG := okA_good ok
    have hph : ∀ s ∈ l, wr .i64 s.2.2.1 = s.2.2.1 ∧ 0 ≤ s.2.2.1 ∧ s.2.2.1 < (s.2.2.2.1.length : Int) := fun s hs => by
      have h1 := (hD s hs).p
      have h2 := hsm s hs
      exact ⟨wrap_id (by omega) (by omega), h1⟩
    have hPs := e17 l hS
    have ecode : codeR l true = allR l := by unfold codeR; rw [if_neg (by simp [ok]), if_neg (by simp)]
    rw [ecode] at hPs
    obtain ⟨v, hA, v0, v1⟩ := e16 hy (i := 0) (m := 14) (by omega) (by omega)
    have hwa : wr .i64 (2 + v) = 2 + v := wrap_id (by omega) (by omega)
    have ha : inR (2 + v) 0 20000 = true := inR_iff.2 (by omega)
    have hFi := e18 l hS (2 + v)
    have hFs := e19 l hS (2 + v)
    have hans : ans l (2 + v) = if (allR l).2.1 ≠ (0 : Int) then (0, 0, 0, (allR l).2.1, ()) else fc l (2 + v) (Int.toNat (allR l).1) 0 := by
      unfold ans
      rw [ha, ecode]
    refine Evt.no (by simp) (Evt.bind hQ (Evt.bind hA ?_))
    dsimp only
    rw [hwa]
    cases hper : per l 1 with
    | none =>
      have ea : allR l = (0, 3, ()) := by unfold allR; rw [hper]
      rw [ea] at hPs hans
      have hans : ans l (2 + v) = (0, 0, 0, 3, ()) := hans
      rw [hans] at hFi hFs
      exact Evt.bind hPs (Evt.bind hFi (Evt.bind hFs (Evt.no (by simp) (Evt.no (by simp) (Evt.no (by simp) (Evt.no (by simp) (Evt.yes (by simp) (Evt.yes (by simp) (Evt.some _)))))))))
    | some p =>
      have ea : allR l = (p, 0, ()) := by unfold allR; rw [hper]
      rw [ea] at hPs hans
      have hans : ans l (2 + v) = fc l (2 + v) p.toNat 0 := hans
      obtain ⟨p0, p1⟩ := per_le hG.2 (by omega) (by omega) hper
      have hmid := midCl hS ok ha hper hph
      rcases fc_or l (2 + v) p.toNat 0 with h | ⟨t, m, s, u, h, t0, t1, hs, hu, hgt⟩
      · rw [hans, h] at hFi hFs
        exact Evt.bind hPs (Evt.bind hFi (Evt.bind hFs (Evt.no (by simp) (Evt.no (by simp) (Evt.no (by simp) (Evt.no (by simp) (Evt.no (by simp) (Evt.no (by simp) (Evt.no (by simp) hmid)))))))))
      · rw [hans, h] at hFi hFs
        have hml := (List.getElem?_eq_some_iff.1 hu).1
        have hL := e20 hS ok (t := t) t0 (by omega)
        have s1 := (lift_eq (hG.2 s (List.mem_of_getElem? hs)) t0 (by omega)).2
        have u1 := (lift_eq (hG.2 u (List.mem_of_getElem? hu)) t0 (by omega)).2
        have hw1 : wr .i64 ((m : Int) + 1) = (m : Int) + 1 := wrap_id (by omega) (by omega)
        have hw2 : wr .i64 (lift s t + lift u t) = lift s t + lift u t := wrap_id (by omega) (by omega)
        have e1 : (l.map (lift · t))[Int.toNat (m : Int)]? = some (lift s t) := by rw [Int.toNat_natCast, List.getElem?_map, hs]; rfl
        have e2 : (l.map (lift · t))[Int.toNat ((m : Int) + 1)]? = some (lift u t) := by rw [show Int.toNat ((m : Int) + 1) = m + 1 by omega, List.getElem?_map, hu]; rfl
        have hc1 : decide ((0 : Int) ≤ (m : Int) ∧ (m : Int) < ((l.map (lift · t)).length : Int)) = true := decide_eq_true (by rw [List.length_map]; omega)
        have hc2 : decide ((0 : Int) ≤ (m : Int) + 1 ∧ (m : Int) + 1 < ((l.map (lift · t)).length : Int)) = true := decide_eq_true (by rw [List.length_map]; omega)
        refine Evt.bind hPs (Evt.bind hFi (Evt.bind hFs (Evt.no (by simp) (Evt.no (by simp) (Evt.no (by simp) (Evt.no (by simp) (Evt.no (by simp) (Evt.yes (by simp) (Evt.bind hL (Evt.no (by simp) (Evt.no (by simp) (Evt.no (by simp; omega) (Evt.no (by simp [hw1]) (Evt.chk hc1 (Evt.at e1 (Evt.chk hc2 (Evt.at e2 (Evt.no (by simp [hw2]; omega) hmid))))))))))))))))))

end Go.Cams.YtgmkcekfpmdhoaaLCl
