/- What the functions that the law reaches come to. -/
import Derived.Test.YtgcncghbeplgnaaRMa
import Derived.Test.YtgcncghbeplgnaaPuAll
namespace Go.Cams.YtgcncghbeplgnaaLMa
open Go Go.Fw Go.Proofs Go.Proofs.Ytgcncghbeplgnaa.LMa
/- laws.f6big -/
theorem e8 (a : List Int) : Evt (fun n => call T C n 8 (a, ())) ((decide ((a.length : Int) > 4096), ()), ()) := Evt.next (Evt.some _) (fun n => r8 n a)
/- spec.l00From -/
theorem e75 (a : List Int) : Evt (fun n => call T C n 75 (a, ())) (((a, 0, 0, ()), ()), ()) := Evt.next (Evt.some _) (fun n => r75 n a)
/- (*spec.l00Src).next -/
theorem e165 {k : Int} {s : Src} (h : SrcAt k s) (hk : k ≤ 1000000000000) : ∃ (v : Int) (s' : Src), Evt (fun n => call T C n 165 (s, ())) ((v, ()), (s', ())) ∧ 0 ≤ v ∧ v ≤ 255 ∧ SrcAt (k + 1) s' := by
  obtain ⟨h1, h2, h3, h4⟩ := h
  have hw : wr .i64 (s.2.1 + 1) = s.2.1 + 1 := wrap_id (by omega) (by omega)
  by_cases hp : s.2.1 < (s.1.length : Int)
  · obtain ⟨v, hv⟩ := at_of h3 hp
    have hb := h1 v hv.mem
    have ev : wr .i64 v = v := wrap_id (by omega) (by omega)
    obtain ⟨z, hz⟩ : ∃ z, z = wr .u64 ((wr .u64 ((wr .u64 (s.2.2.1 * (6364136223846793005 : Int))) + (wr .u64 (wr .i64 v)))) + (1442695040888963407 : Int)) := ⟨_, rfl⟩
    refine ⟨v, (s.1, s.2.1 + 1, z, ()), Evt.next (Evt.yes (decide_eq_true hp) (Evt.at hv.idx (Evt.yes (decide_eq_true (by rw [hw]; omega)) ((Evt.some _).of_eq fun n => ?_)))) (fun n => r165 n s), hb.1, hb.2, h1, h2, by show 0 ≤ s.2.1 + 1; omega, by show s.2.1 + 1 ≤ k + 1; omega⟩
    rw [← hz, hw, ev]
    rfl
  · obtain ⟨z, hz⟩ : ∃ z, z = wr .u64 ((wr .u64 ((wr .u64 (s.2.2.1 * (6364136223846793005 : Int))) + (wr .u64 (0 : Int)))) + (1442695040888963407 : Int)) := ⟨_, rfl⟩
    have hzb : 0 ≤ z ∧ z < 18446744073709551616 := by rw [hz]; exact wrap_u64 _
    obtain ⟨y, rfl⟩ : ∃ y : Nat, z = y := ⟨z.toNat, by omega⟩
    have hval : wr .i64 (bitsI .and .u64 (shr_ .u64 (y : Int) (40 : Int)) (255 : Int)) = ((y / 2 ^ 40 % 256 : Nat) : Int) := by
      rw [show (40 : Int) = ((40 : Nat) : Int) from rfl, shr_nat (by omega), and_255 (Nat.lt_of_le_of_lt (Nat.div_le_self _ _) (by omega))]
      have := Nat.mod_lt (y / 2 ^ 40) (show 0 < 256 by omega)
      exact wrap_id (by omega) (by omega)
    have hm := Nat.mod_lt (y / 2 ^ 40) (show 0 < 256 by omega)
    refine ⟨((y / 2 ^ 40 % 256 : Nat) : Int), (s.1, s.2.1 + 1, (y : Int), ()), Evt.next (Evt.no (by simpa using hp) (Evt.no (by rw [hw]; simp; omega) (Evt.chk rfl ((Evt.some _).of_eq fun n => ?_)))) (fun n => r165 n s), by omega, by omega, h1, h2, by show 0 ≤ s.2.1 + 1; omega, by show s.2.1 + 1 ≤ k + 1; omega⟩
    rw [← hz, hw, hval]
    rfl
/- (*spec.l00Src).pick -/
theorem e76 {k : Int} {s : Src} (h : SrcAt k s) (hk : k ≤ 999999999000) {m : Int} (m1 : 1 ≤ m) (m2 : m ≤ 1000000) : ∃ (v : Int) (s' : Src), Evt (fun n => call T C n 76 (s, m, ())) ((v, ()), (s', ())) ∧ 0 ≤ v ∧ v < m ∧ SrcAt (k + 2) s' := by
  by_cases hm : m ≤ 1
  · exact ⟨0, s, Evt.next (Evt.yes (decide_eq_true hm) (Evt.some _)) (fun n => r76 n s m), by omega, by omega, h.mono (by omega)⟩
  · obtain ⟨v, s1, hE, v0, v1, hs1⟩ := e165 h (by omega)
    by_cases hb : m > 200
    · obtain ⟨u, s2, hE2, u0, u1, hs2⟩ := e165 hs1 (by omega)
      have hx : wr .i64 (wr .i64 (v * 256) + u) = v * 256 + u := by rw [wrap_id (x := v * 256) (by omega) (by omega), wrap_id (by omega) (by omega)]
      have ht0 := Int.tmod_nonneg m (show 0 ≤ v * 256 + u by omega)
      have ht1 := Int.tmod_lt_of_pos (v * 256 + u) (show 0 < m by omega)
      refine ⟨Int.tmod (v * 256 + u) m, s2, Evt.next (Evt.no (by simpa using hm) (Evt.bind hE (Evt.yes (decide_eq_true hb) (Evt.bind hE2 (Evt.chk (bne_pos (by omega)) ((Evt.some _).of_eq fun n => ?_)))))) (fun n => r76 n s m), ht0, ht1, hs2.mono (by omega)⟩
      rw [hx]
      rfl
    · have ht0 := Int.tmod_nonneg m v0
      have ht1 := Int.tmod_lt_of_pos v (show 0 < m by omega)
      exact ⟨Int.tmod v m, s1, Evt.next (Evt.no (by simpa using hm) (Evt.bind hE (Evt.no (by simpa using hb) (Evt.chk (bne_pos (by omega)) (Evt.some _))))) (fun n => r76 n s m), ht0, ht1, hs1.mono (by omega)⟩
/- (*spec.l00Src).among -/
theorem e162 {k : Int} {s : Src} (h : SrcAt k s) (hk : k ≤ 999999999000) {l : List Int} (l1 : 1 ≤ (l.length : Int)) (l2 : (l.length : Int) ≤ 1000000) : ∃ (v : Int) (s' : Src), Evt (fun n => call T C n 162 (s, l, ())) ((v, ()), (s', ())) ∧ v ∈ l ∧ SrcAt (k + 2) s' := by
  obtain ⟨i, s1, hE, i0, i1, hs1⟩ := e76 h hk l1 l2
  obtain ⟨v, hv⟩ := at_of i0 i1
  refine ⟨v, s1, Evt.next ?_ (fun n => r162 n s l), hv.mem, hs1⟩
  exact Evt.bind hE (Evt.at hv.idx (Evt.some _))
/- spec.l00Min -/
theorem e164 (a b : Int) : Evt (fun n => call T C n 164 (a, b, ())) ((min a b, ()), ()) := by
  refine Evt.next (Evt.ite (fun h => ?_) (fun h => ?_)) (fun n => r164 n a b)
  · have h : a < b := of_decide_eq_true h
    rw [show min a b = a by omega]; exact Evt.some _
  · have h : ¬ a < b := by simpa using h
    rw [show min a b = b by omega]; exact Evt.some _
/- spec.l00Max -/
theorem e163 (a b : Int) : Evt (fun n => call T C n 163 (a, b, ())) ((max a b, ()), ()) := by
  refine Evt.next (Evt.ite (fun h => ?_) (fun h => ?_)) (fun n => r163 n a b)
  · have h : a > b := of_decide_eq_true h
    rw [show max a b = a by omega]; exact Evt.some _
  · have h : ¬ a > b := by simpa using h
    rw [show max a b = b by omega]; exact Evt.some _
/- (*spec.l00Src).one -/
theorem e146 {k : Int} {s : Src} (h : SrcAt k s) (hk : k ≤ 999999999000) {m : Int} (m1 : 1 ≤ m) (m2 : m ≤ 1000000) : ∃ (b : Bool) (s' : Src), Evt (fun n => call T C n 146 (s, m, ())) ((b, ()), (s', ())) ∧ SrcAt (k + 2) s' := by
  obtain ⟨v, s1, hE, v0, v1, hs1⟩ := e76 h hk m1 m2
  exact ⟨v == 0, s1, Evt.next (Evt.bind hE (Evt.some _)) (fun n => r146 n s m), hs1⟩
/- spec.l01Drawn -/
theorem e74 {k : Int} {s : Src} (h : SrcAt k s) (hk : k ≤ 999999990000) : ∃ (c : List Int) (s' : Src), Evt (fun n => call T C n 74 (s, ())) ((c, ()), (s', ())) ∧ SmD c ∧ SrcAt (k + 200) s' := by
  obtain ⟨n0, s1, hE1, hn0, hs1⟩ := e162 h (by omega) (l := [8, 9, 12, 16, 24, 36]) (by simp) (by simp)
  have hn : 8 ≤ n0 ∧ n0 ≤ 36 := by simp at hn0; omega
  obtain ⟨nn, rfl⟩ : ∃ m : Nat, n0 = m := ⟨n0.toNat, by omega⟩
  obtain ⟨l0, s2, hE2, l00, l01, hs2⟩ := e76 hs1 (by omega) (m := 20) (by omega) (by omega)
  have key : EvtX (fun n => call T C n 74 (s, ())) (fun y => SmD y.1.1 ∧ SrcAt (k + 200) y.2.1) := by
    refine EvtX.next (EvtX.bind hE1 (EvtX.bind hE2 ?_)) (fun n => r74 n s)
    refine EvtX.loop (fun x => ∃ (src : Src) (o : List Int) (l : Int), x = (src, (nn : Int), o, l, ()) ∧ SrcAt (k + 4 + 4 * o.length) src ∧ GoodG2 nn (o, l)) (fun x => nn - x.2.2.1.length)
      ⟨s2, [], l0, rfl, hs2.mono (by simp; omega), ⟨fun v hv => (by cases hv), by show 0 ≤ l0 ∧ l0 ≤ 60; omega, by show 0 ≤ nn; omega⟩⟩ ?_
    rintro x ⟨src, out, l, rfl, hsrc, G⟩
    have hle : out.length ≤ nn := G.le
    by_cases hlt : out.length < nn
    · right
      obtain ⟨a, a1, hA, a0, al, hs3⟩ := e76 hsrc (by omega) (m := 7) (by omega) (by omega)
      obtain ⟨b, b1, hB, b0, bl, hs4⟩ := e76 hs3 (by omega) (m := 5) (by omega) (by omega)
      obtain ⟨m, hm⟩ : ∃ m : Nat, 1 + b = m := ⟨(1 + b).toNat, by omega⟩
      have G2 := grow_good (b := a - 3) m G
      have G3 := grow_more (b := a - 3) (k := m) G hlt (by omega)
      obtain ⟨R, eR⟩ : ∃ R, R = grow (a - 3) nn m (out, l) := ⟨_, rfl⟩
      rw [← eR] at G2 G3
      have G3 : out.length < R.1.length := G3
      have hRle : R.1.length ≤ nn := G2.1.le
      refine ⟨(b1, (nn : Int), R.1, R.2, ()), ⟨b1, R.1, R.2, rfl, hs4.mono (by omega), G2.1⟩, by show nn - R.1.length < nn - out.length; omega, fun y => ?_⟩
      refine Round.yes (decide_eq_true (show (out.length : Int) < (nn : Int) by omega)) (Round.bind hA (Round.bind hB ?_))
      simp only [wrap_id (x := a - 3) (by omega) (by omega), hm, wrap_id (x := (m : Int)) (by omega) (by omega)]
      refine for_round' 0 (m : Int) (fun i (s : List Int × Int) => (b1, (nn : Int), s.1, s.2, a - 3, (m : Int) - i, ())) (fun i s => GoodG2 nn s ∧ grow (a - 3) nn ((m : Int) - i).toNat s = R) (b0 := (out, l)) (by rw [Int.sub_zero]) (by omega) ⟨G, by rw [Int.sub_zero, Int.toNat_natCast, eR]⟩ ?_ ?_
      · intro i s h2 h3 ⟨hG, he⟩
        rw [show ((m : Int) - i).toNat = ((m : Int) - (i + 1)).toNat + 1 by omega, grow] at he
        refine Round.yes (decide_eq_true (show (m : Int) - i > 0 by omega)) ?_
        have hsle : s.1.length ≤ nn := hG.le
        have hlf := hG.lf
        by_cases hl : s.1.length < nn
        · rw [if_pos hl] at he
          have hone := grow_one (b := a - 3) hG hl
          refine Round.yes (show (bif true then decide ((s.1.length : Int) < (nn : Int)) else false) = true from decide_eq_true (by omega)) ?_
          simp only [wrap_id (x := s.2 + (a - 3)) (by omega) (by omega)]
          refine Round.bind (e164 60 _) (Round.bind (e163 0 _) (Round.chk (decide_eq_true (by simp only [List.length_cons, List.length_nil]; omega)) (Round.inr _ ⟨(s.1 ++ [max 0 (min 60 (s.2 + (a - 3)))], max 0 (min 60 (s.2 + (a - 3)))), ?_, hone, he⟩)))
          rw [wrap16 (x := max 0 (min 60 (s.2 + (a - 3)))) (by omega) (by omega), wrap_id (x := (m : Int) - i - 1) (by omega) (by omega), show (m : Int) - (i + 1) = (m : Int) - i - 1 by omega]
        · rw [if_neg hl] at he
          refine Round.no (show ¬ (bif true then decide ((s.1.length : Int) < (nn : Int)) else false) = true from fun h => by have := of_decide_eq_true (p := (s.1.length : Int) < (nn : Int)) h; omega) (Round.inl _ ?_)
          rw [← he]
      · intro s ⟨hG, he⟩
        rw [Int.sub_self] at he
        have he : s = R := he
        rw [he]
        exact Round.no (by simp) (Round.inl _ rfl)
    · left
      have hlen : out.length = nn := by omega
      obtain ⟨bo, s3, hO, hs3⟩ := e146 hsrc (by omega) (m := 8) (by omega) (by omega)
      have S0 : SmD out := ⟨by omega, G.el⟩
      have hs5 : SrcAt (k + 200) s3 := hs3.mono (by omega)
      cases bo with
      | false => exact ⟨((out, ()), (s3, ())), ⟨S0, hs5⟩, Round.no (by simp; omega) (Round.bind hO (Round.no (by simp) (Round.done (Evt.some _))))⟩
      | true =>
        have ht : wr .i64 (Int.tdiv (nn : Int) 2) = ((nn / 2 : Nat) : Int) := by
          rw [Int.tdiv_eq_ediv_of_nonneg (by omega), wrap_id (by omega) (by omega)]; omega
        by_cases he : nn % 2 = 0
        · obtain ⟨p, hp⟩ : ∃ p, p = (out.take (nn / 2)).drop 0 := ⟨_, rfl⟩
          have lp : p.length = nn / 2 := by rw [hp, List.drop_zero, List.length_take]; omega
          refine ⟨(((([] : List Int) ++ p) ++ p, ()), (s3, ())), ⟨⟨by show 8 ≤ (((([] : List Int) ++ p) ++ p).length : Int) ∧ (((([] : List Int) ++ p) ++ p).length : Int) ≤ 36; simp only [List.length_append, List.length_nil, lp]; omega, fun v hv => ?_⟩, hs5⟩, ?_⟩
          · have hv : v ∈ p := by simpa using hv
            rw [hp, List.drop_zero] at hv
            exact G.el v (List.mem_of_mem_take hv)
          · refine Round.no (by simp; omega) (Round.bind hO (Round.yes rfl (Round.chk rfl ?_)))
            simp only [ht, Int.toNat_natCast, show Int.toNat 0 = 0 from rfl, ← hp]
            refine Round.chk (decide_eq_true (by omega)) (Round.chk rfl (Round.yes (by rw [beq_iff_eq, Int.tmod_eq_emod_of_nonneg (by omega)]; omega) (Round.chk (decide_eq_true (by simp only [List.length_append, List.length_nil, lp]; omega)) (Round.chk (decide_eq_true (by simp only [List.length_append, List.length_nil, lp]; omega)) (Round.done (Evt.some _))))))
        · refine ⟨((out, ()), (s3, ())), ⟨S0, hs5⟩, Round.no (by simp; omega) (Round.bind hO (Round.yes rfl (Round.chk rfl ?_)))⟩
          simp only [ht]
          exact Round.chk (decide_eq_true (by omega)) (Round.chk rfl (Round.no (by rw [beq_iff_eq, Int.tmod_eq_emod_of_nonneg (by omega)]; omega) (Round.done (Evt.some _))))
  obtain ⟨⟨⟨c, _⟩, ⟨s', _⟩⟩, ⟨h1, h2⟩, hE⟩ := key
  exact ⟨c, s', hE, h1, h2⟩
/- spec.P6Cam -/
theorem e9 {b : List Int} (hb : ∀ v ∈ b, 0 ≤ v ∧ v ≤ 255) (hl : (b.length : Int) ≤ 4096) : ∃ c : List Int, Evt (fun n => call T C n 9 (b, ())) ((c, ()), ()) ∧ SmD c := by
  have h0 : SrcAt 0 ((b, 0, 0, ()) : Src) := ⟨hb, by show (b.length : Int) ≤ 1000000; omega, Int.le_refl _, Int.le_refl _⟩
  obtain ⟨c, s1, hE, S, _⟩ := e74 h0 (by omega)
  refine ⟨c, Evt.next ?_ (fun n => r9 n b), S⟩
  exact Evt.bind (e75 b) (Evt.bind hE (Evt.some _))
/- spec.P6Like -/
theorem e10 {b c : List Int} (hb : ∀ v ∈ b, 0 ≤ v ∧ v ≤ 255) (hl : (b.length : Int) ≤ 4096) (hc : c.length ≤ 1000) : ∃ d : List Int, Evt (fun n => call T C n 10 (b, c, ())) ((d, ()), ()) ∧ d.length = c.length ∧ ∀ v ∈ d, 0 ≤ v ∧ v ≤ 60 := by
  have h0 : SrcAt 0 ((b, 0, 0, ()) : Src) := ⟨hb, by show (b.length : Int) ≤ 1000000; omega, Int.le_refl _, Int.le_refl _⟩
  have key : EvtX (fun n => call T C n 10 (b, c, ())) (fun y => y.1.1.length = c.length ∧ ∀ v ∈ y.1.1, 0 ≤ v ∧ v ≤ 60) := by
    refine EvtX.next (EvtX.bind (e75 b) ?_) (fun n => r10 n b c)
    refine EvtX.loop (fun x => ∃ (src : Src) (d : List Int), x = (c, src, d, (d.length : Int), ()) ∧ SrcAt (2 * d.length) src ∧ (∀ v ∈ d, 0 ≤ v ∧ v ≤ 60) ∧ d.length ≤ c.length) (fun x => c.length - x.2.2.1.length)
      ⟨_, [], rfl, h0, by simp, by simp⟩ ?_
    rintro x ⟨src, d, rfl, hsrc, hd, hle⟩
    by_cases hlt : d.length < c.length
    · right
      obtain ⟨v, s1, hV, v0, v1, hs1⟩ := e76 hsrc (by omega) (m := 61) (by omega) (by omega)
      refine ⟨(c, s1, d ++ [v], ((d ++ [v]).length : Int), ()), ⟨s1, d ++ [v], rfl, hs1.mono (by simp; omega), fun u hu => ?_, by simp; omega⟩, by show c.length - (d ++ [v]).length < c.length - d.length; simp; omega, fun y => ?_⟩
      · rcases List.mem_append.1 hu with hu | hu
        · exact hd u hu
        · simp at hu; omega
      · refine Round.yes (decide_eq_true (show (d.length : Int) < (c.length : Int) by omega)) (Round.bind hV (Round.chk (decide_eq_true (by simp only [List.length_cons, List.length_nil]; omega)) (Round.again _ ?_)))
        rw [wrap16 (x := v) (by omega) (by omega), wrap_id (x := (d.length : Int) + 1) (by omega) (by omega), List.length_append]
        rfl
    · left
      exact ⟨((d, ()), ()), ⟨by show d.length = c.length; omega, hd⟩, Round.no (by simp; omega) (Round.done (Evt.some _))⟩
  obtain ⟨⟨⟨d, _⟩, _⟩, ⟨h1, h2⟩, hE⟩ := key
  exact ⟨d, hE, h1, h2⟩
/- (impl.Cam).steps -/
theorem e79 (a : List Int) : Evt (fun n => call T C n 79 (a, ())) (((a.length : Int), ()), ()) := Evt.next (Evt.some _) (fun n => r79 n a)
/- impl.inRange -/
theorem e84 (a b c : Int) : Evt (fun n => call T C n 84 (a, b, c, ())) ((inR a b c, ()), ()) := by
  refine Evt.next ?_ (fun n => r84 n a b c)
  refine Evt.ite (fun h => ?_) (fun h => ?_)
  · refine (Evt.some _).of_eq fun n => ?_
    have h : b ≤ a := of_decide_eq_true h
    simp [inR, h]
    rfl
  · refine (Evt.some _).of_eq fun n => ?_
    have h : ¬ b ≤ a := by simpa using h
    simp [inR, h]
    rfl
/- impl.isSteps -/
theorem e93 (a : Int) : Evt (fun n => call T C n 93 (a, ())) ((inR a 8 360, ()), ()) := Evt.next (Evt.bind (e84 a 8 360) (Evt.some _)) (fun n => r93 n a)
/- impl.isLift -/
theorem e114 (a : Int) : Evt (fun n => call T C n 114 (a, ())) ((inR a 0 10000, ()), ()) := Evt.next (Evt.bind (e84 a 0 10000) (Evt.some _)) (fun n => r114 n a)
/- impl.ValidCam$1 -/
theorem e169 (v : Int) : Evt (fun n => call T C n 169 (v, ())) ((!okV v, ()), ()) := Evt.next (Evt.bind (e114 _) (Evt.some _)) (fun n => r169 n v)
/- slices.IndexFunc[impl.Cam,int16]{impl.ValidCam$1} -/
theorem e196 (l : List Int) (hl : (l.length : Int) ≤ 140737488351232) : Evt (fun n => call T C n 196 (l, ((), ()), ())) ((fi (fun v => !okV v) l 0, ()), ()) := by
  refine Evt.next ?_ (fun n => r196 n l ((), ()))
  refine loop_evt (fun (x : List Int × (Unit × Unit) × Int × Int × Unit) => x.1 = l ∧ x.2.2.1 = (l.length : Int) ∧ 0 ≤ x.2.2.2.1 ∧ x.2.2.2.1 ≤ (l.length : Int) ∧ fi (fun v => !okV v) l 0 = fi (fun v => !okV v) (l.drop x.2.2.2.1.toNat) x.2.2.2.1) (fun (x : List Int × (Unit × Unit) × Int × Int × Unit) => ((l.length : Int) - x.2.2.2.1).toNat) (x := (l, ((), ()), (l.length : Int), 0, ())) ⟨rfl, rfl, Int.le_refl _, by simp, by simp⟩ ?_
  rintro ⟨x1, u, m, i, _⟩ ⟨h', hm, h0, h1, h2⟩
  simp only at h' hm h0 h1 h2
  subst h'; subst hm
  refine Round.ite (fun hlt => ?_) (fun hge => ?_)
  · have hlt : i < (x1.length : Int) := of_decide_eq_true hlt
    obtain ⟨v, hv, hv'⟩ := idx_at h0 hlt
    have hd := drop_cons hv'
    refine Round.at hv (Round.bind (e169 _) (Round.ite (fun hb => ?_) (fun hb => ?_)))
    · have hb : okV v = false := by simpa using hb
      have h3 : fi (fun v => !okV v) x1 0 = i := by rw [h2, hd]; simp [fi, hb]
      rw [h3]
      exact Round.done (Evt.some _)
    · have hb : okV v = true := by simpa using hb
      have hw : wr .i64 (i + 1) = i + 1 := wrap_id (by omega) (by omega)
      refine Round.again _ ⟨⟨rfl, rfl, ?_, ?_, ?_⟩, ?_⟩ <;> simp only [hw]
      · omega
      · omega
      · rw [h2, hd, show (i + 1).toNat = i.toNat + 1 by omega]
        simp [fi, hb]
      · omega
  · have hge : ¬ i < (x1.length : Int) := by simpa using hge
    have : x1.drop i.toNat = [] := List.drop_of_length_le (by omega)
    rw [h2, this]
    exact Round.done (Evt.some _)
/- slices.ContainsFunc[impl.Cam,int16]{impl.ValidCam$1} -/
theorem e168 (l : List Int) (hl : (l.length : Int) ≤ 140737488351232) : Evt (fun n => call T C n 168 (l, ((), ()), ())) ((l.any (fun v => !okV v), ()), ()) := by
  refine Evt.next (Evt.bind (e196 l hl) ((Evt.some _).of_eq fun n => ?_)) (fun n => r168 n l ((), ()))
  simp only [fi_any _ l 0 (Int.le_refl _)]
  rfl
/- impl.ValidCam -/
theorem e89 (l : List Int) (hl : (l.length : Int) ≤ 140737488351232) : Evt (fun n => call T C n 89 (l, ())) ((okC l, ()), ()) := by
  refine Evt.next (Evt.bind (e79 l) (Evt.bind (e93 _) ?_)) (fun n => r89 n l)
  refine Evt.ite (fun h => ?_) (fun h => ?_)
  · refine Evt.bind (e168 l hl) ((Evt.some _).of_eq fun n => ?_)
    have h : inR (l.length : Int) 8 360 = true := h
    have : okC l = !l.any (fun v => !okV v) := by simp [okC, h, List.any_eq_not_all_not]
    rw [this]
    rfl
  · refine (Evt.some _).of_eq fun n => ?_
    have h : inR (l.length : Int) 8 360 = false := by simpa using h
    simp [okC, h]
    rfl
/- impl.pairCode -/
theorem e77 {a b : List Int} (SA : SmD a) (SB : SmD b) (hab : a.length = b.length) : Evt (fun n => call T C n 77 (a, b, ())) ((0, ()), ()) := by
  have la := SA.len
  have ha := SA.el
  have hb := SB.el
  have h0 : 0 < a.length := by omega
  have h1 : a.length ≤ 1000 := by omega
  have hA : ∀ x, 0 ≤ cAt a x ∧ cAt a x ≤ 60 := fun x => ha _ (cAt_mem h0 x)
  have hB : ∀ x, 0 ≤ cAt b x ∧ cAt b x ≤ 60 := fun x => hb _ (cAt_mem (by omega) x)
  have hv := e89 a (by omega)
  rw [SA.ok] at hv
  have hw := e89 b (by omega)
  rw [SB.ok] at hw
  refine Evt.next ?_ (fun n => r77 n a b)
  exact Evt.bind hv (Evt.no (by simp) (Evt.bind hw (Evt.no (by simp) (Evt.no (by simp [hab]) (Evt.some _)))))
/- impl.floorDiv -/
theorem e167 {a b : Int} (hb : 0 < b) (h1 : -4500000000000000000 ≤ a) (h2 : a ≤ 4500000000000000000) : Evt (fun n => call T C n 167 (a, b, ())) ((a / b, ()), ()) := by
  have hbd := ediv_bd hb h1 h2 (by omega)
  have he := floorDiv_eq (a := a) hb
  refine Evt.next (Evt.chk (bne_pos hb) (Evt.chk (bne_pos hb) (Evt.ite (fun h => ?_) (fun h => ?_)))) (fun n => r167 n a b)
  · have h : Int.tmod a b < 0 := of_decide_eq_true h
    rw [if_pos h] at he
    refine (Evt.some _).of_eq fun n => ?_
    rw [wrap_id (x := Int.tdiv a b) (by omega) (by omega), wrap_id (by omega) (by omega), he]
    rfl
  · have h : ¬ Int.tmod a b < 0 := by simpa using h
    rw [if_neg h] at he
    refine (Evt.some _).of_eq fun n => ?_
    rw [wrap_id (x := Int.tdiv a b) (by omega) (by omega), he]
    rfl
/- impl.mod -/
theorem e154 {a b : Int} (hb : 0 < b) (hb' : b ≤ 1000000000000) (h1 : -1000000000000 ≤ a) (h2 : a ≤ 1000000000000) : Evt (fun n => call T C n 154 (a, b, ())) ((a % b, ()), ()) := by
  have hd := Int.emod_def a b
  have h3 := Int.emod_nonneg a (show b ≠ 0 by omega)
  have h4 := Int.emod_lt_of_pos a hb
  refine Evt.next (Evt.bind (e167 hb (by omega) (by omega)) ((Evt.some _).of_eq fun n => ?_)) (fun n => r154 n a b)
  simp only
  rw [wrap_id (x := b * (a / b)) (by omega) (by omega), ← hd, wrap_id (by omega) (by omega)]
  rfl
/- (impl.Cam).at -/
theorem e81 {l : List Int} (hr : Rng l) (h0 : 0 < (l.length : Int)) (h1 : (l.length : Int) ≤ 1000000) {x : Int} (hx : -4000000 ≤ x) (hx' : x ≤ 4000000) : Evt (fun n => call T C n 81 (l, x, ())) ((cAt l x, ()), ()) := by
  have hp := Int.emod_nonneg x (show (l.length : Int) ≠ 0 by omega)
  have hq := Int.emod_lt_of_pos x h0
  have hv := g_idx (l := l) hp hq
  refine Evt.next (Evt.bind (e79 l) (Evt.bind (e154 (a := x) h0 (by omega) (by omega) (by omega)) (Evt.at hv.idx ((Evt.some _).of_eq fun n => ?_)))) (fun n => r81 n l x)
  rw [hr.id hv.mem]
  rfl
/- impl.AddCams$1 -/
theorem e80 {a b : List Int} (SA : SmD a) (SB : SmD b) (hab : a.length = b.length) {i : Nat} (hi : i < a.length) : Evt (fun n => call T C n 80 ((i : Int), a, b, ())) ((cAt a (i : Nat) + cAt b (i : Nat), ()), (a, b, ())) := by
  have la := SA.len
  have ha := SA.el
  have hb := SB.el
  have h0 : 0 < a.length := by omega
  have h1 : a.length ≤ 1000 := by omega
  have hA : ∀ x, 0 ≤ cAt a x ∧ cAt a x ≤ 60 := fun x => ha _ (cAt_mem h0 x)
  have hB : ∀ x, 0 ≤ cAt b x ∧ cAt b x ≤ 60 := fun x => hb _ (cAt_mem (by omega) x)
  have h2 := hA (i : Nat)
  have h3 := hB (i : Nat)
  refine Evt.next ?_ (fun n => r80 n i a b)
  refine Evt.bind (e81 SA.rng (by omega) (by omega) (by omega) (by omega)) (Evt.bind (e81 SB.rng (by omega) (by omega) (by omega) (by omega)) ((Evt.some _).of_eq fun n => ?_))
  simp only [wrap_id (x := cAt a (i : Nat) + cAt b (i : Nat)) (by omega) (by omega)]
  rfl
/- impl.camOf{impl.AddCams$1} -/
theorem e78 {a b : List Int} (SA : SmD a) (SB : SmD b) (hab : a.length = b.length) : Evt (fun n => call T C n 78 (((a.length : Nat) : Int), ((), (a, (b, ()))), ())) ((tb (a.length) (fun i : Nat => cAt a (i : Nat) + cAt b (i : Nat)), 0, ()), (((), (a, (b, ()))), ())) := by
  have la := SA.len
  have ha := SA.el
  have hb := SB.el
  have h0 : 0 < a.length := by omega
  have h1 : a.length ≤ 1000 := by omega
  have hA : ∀ x, 0 ≤ cAt a x ∧ cAt a x ≤ 60 := fun x => ha _ (cAt_mem h0 x)
  have hB : ∀ x, 0 ≤ cAt b x ∧ cAt b x ≤ 60 := fun x => hb _ (cAt_mem (by omega) x)
  refine Evt.next ?_ (fun n => r78 n ((a.length : Nat) : Int) ((), (a, (b, ()))))
  have hB : ∀ i : Nat, i < a.length → 0 ≤ cAt a (i : Nat) + cAt b (i : Nat) ∧ cAt a (i : Nat) + cAt b (i : Nat) ≤ 10000 := fun i hi => by have := hA (i : Nat); have := hB (i : Nat); omega
  have hE : ∀ i : Nat, i < a.length → Evt (fun n => call T C n 80 ((i : Int), a, b, ())) ((cAt a (i : Nat) + cAt b (i : Nat), ()), (a, b, ())) := fun i hi => e80 SA SB hab hi
  obtain ⟨F, eF⟩ : ∃ F : Nat → Int, F = (fun i : Nat => cAt a (i : Nat) + cAt b (i : Nat)) := ⟨_, rfl⟩
  rw [← eF]
  refine for_evt' 0 ((a.length : Nat) : Int) (fun i (_ : Unit) => (((), (a, (b, ()))), tb i.toNat F, ((a.length : Nat) : Int), i, ())) (fun _ _ => True) (b0 := ()) rfl (by omega) trivial ?_ ?_
  · intro i' _ h2 h3 _
    obtain ⟨i, rfl⟩ : ∃ i : Nat, i' = i := ⟨i'.toNat, by omega⟩
    have hi : i < a.length := by omega
    have hb := hB i hi
    have hc := hE i hi
    have hl := e114 (cAt a (i : Nat) + cAt b (i : Nat))
    rw [inR_iff.2 hb] at hl
    have eFi : F i = cAt a (i : Nat) + cAt b (i : Nat) := by rw [eF]
    have lT : (tb i F).length = i := tb_len _ _
    rw [Int.toNat_natCast, show ((i : Int) + 1).toNat = i + 1 by omega]
    refine Round.yes (decide_eq_true h3) (Round.bind hc (Round.bind hl (Round.no (by simp) (Round.chk (decide_eq_true (by simp only [List.length_cons, List.length_nil, lT]; omega)) (Round.again _ ⟨(), ?_, trivial⟩)))))
    rw [wrap_id (x := (i : Int) + 1) (by omega) (by omega), ← tb_snoc, eFi, wrap16 (x := cAt a (i : Nat) + cAt b (i : Nat)) (by omega) (by omega)]
  · intro _ _
    rw [Int.toNat_natCast]
    exact Round.no (by simp) (Round.done (Evt.some _))
/- impl.AddCams -/
theorem e11 {a b : List Int} (SA : SmD a) (SB : SmD b) (hab : a.length = b.length) : Evt (fun n => call T C n 11 (a, b, ())) ((adL a b, 0, ()), ()) := by
  refine Evt.next ?_ (fun n => r11 n a b)
  exact Evt.bind (e77 SA SB hab) (Evt.no (by simp) (Evt.bind (e79 a) (Evt.bind (e78 SA SB hab) (Evt.some _))))
/- spec.l00In -/
theorem e87 (a b c : Int) : Evt (fun n => call T C n 87 (a, b, c, ())) ((inR a b c, ()), ()) := by
  refine Evt.next ?_ (fun n => r87 n a b c)
  refine Evt.ite (fun h => ?_) (fun h => ?_)
  · refine (Evt.some _).of_eq fun n => ?_
    have h : b ≤ a := of_decide_eq_true h
    simp [inR, h]
    rfl
  · refine (Evt.some _).of_eq fun n => ?_
    have h : ¬ b ≤ a := by simpa using h
    simp [inR, h]
    rfl
/- spec.l01Steps -/
theorem e97 (a : Int) : Evt (fun n => call T C n 97 (a, ())) ((inR a 8 360, ()), ()) := Evt.next (Evt.bind (e87 a 8 360) (Evt.some _)) (fun n => r97 n a)
/- spec.l01Lift -/
theorem e166 (a : Int) : Evt (fun n => call T C n 166 (a, ())) ((inR a 0 10000, ()), ()) := Evt.next (Evt.bind (e87 a 0 10000) (Evt.some _)) (fun n => r166 n a)
/- spec.l01Ok -/
theorem e95 (l : List Int) (hl : (l.length : Int) ≤ 140737488351232) : Evt (fun n => call T C n 95 (l, ())) ((okC l, ()), ()) := by
  refine Evt.next ?_ (fun n => r95 n l)
  refine Evt.bind (e97 _) ?_
  refine Evt.ite (fun h => ?_) (fun h => ?_)
  · refine (Evt.some _).of_eq fun n => ?_
    have h : inR (l.length : Int) 8 360 = false := by simpa using h
    simp [okC, h]
    rfl
  · have h : inR (l.length : Int) 8 360 = true := by simpa using h
    have he : okC l = l.all okV := by simp [okC, h]
    rw [he]
    refine loop_evt (fun (x : List Int × Int × Unit) => x.1 = l ∧ 0 ≤ x.2.1 ∧ x.2.1 ≤ (l.length : Int) ∧ l.all okV = (l.drop x.2.1.toNat).all okV) (fun (x : List Int × Int × Unit) => ((l.length : Int) - x.2.1).toNat) (x := (l, 0, ())) ⟨rfl, Int.le_refl _, by simp, by simp⟩ ?_
    rintro ⟨x1, i, _⟩ ⟨h', h0, h1, h2⟩
    simp only at h' h0 h1 h2
    subst h'
    refine Round.ite (fun hlt => ?_) (fun hge => ?_)
    · have hlt : i < (x1.length : Int) := of_decide_eq_true hlt
      obtain ⟨v, hv, hv'⟩ := idx_at h0 hlt
      have hd := drop_cons hv'
      refine Round.at hv (Round.bind (e166 _) (Round.ite (fun hb => ?_) (fun hb => ?_)))
      · have hb : okV v = false := by simpa [okV] using hb
        have h3 : x1.all okV = false := by rw [h2, hd]; simp [hb]
        rw [h3]
        exact Round.done (Evt.some _)
      · have hb : okV v = true := by simpa [okV] using hb
        have hw : wr .i64 (i + 1) = i + 1 := wrap_id (by omega) (by omega)
        refine Round.again _ ⟨⟨rfl, ?_, ?_, ?_⟩, ?_⟩ <;> simp only [hw]
        · omega
        · omega
        · rw [h2, hd, show (i + 1).toNat = i.toNat + 1 by omega]
          simp [hb]
        · omega
    · have hge : ¬ i < (x1.length : Int) := by simpa using hge
      have : x1.drop i.toNat = [] := List.drop_of_length_le (by omega)
      rw [h2, this]
      exact Round.done (Evt.some _)
/- spec.l01Two -/
theorem e82 {a b : List Int} (SA : SmD a) (SB : SmD b) (hab : a.length = b.length) : Evt (fun n => call T C n 82 (a, b, ())) ((0, ()), ()) := by
  have la := SA.len
  have ha := SA.el
  have hb := SB.el
  have h0 : 0 < a.length := by omega
  have h1 : a.length ≤ 1000 := by omega
  have hA : ∀ x, 0 ≤ cAt a x ∧ cAt a x ≤ 60 := fun x => ha _ (cAt_mem h0 x)
  have hB : ∀ x, 0 ≤ cAt b x ∧ cAt b x ≤ 60 := fun x => hb _ (cAt_mem (by omega) x)
  have hv := e95 a (by omega)
  rw [SA.ok] at hv
  have hw := e95 b (by omega)
  rw [SB.ok] at hw
  refine Evt.next ?_ (fun n => r82 n a b)
  exact Evt.bind hv (Evt.no (by simp) (Evt.bind hw (Evt.no (by simp) (Evt.no (by simp [hab]) (Evt.some _)))))
/- spec.l01Made -/
theorem e83 {l : List Int} (hl : l.length ≤ 1000) (he : ∀ v ∈ l, 0 ≤ v ∧ v ≤ 10000) : Evt (fun n => call T C n 83 (l, ())) ((l, 0, ()), ()) := by
  refine Evt.next ?_ (fun n => r83 n l)
  refine for_evt' 0 (l.length : Int) (fun i (_ : Unit) => (l, l.take i.toNat, i, ())) (fun _ _ => True) (b0 := ()) rfl (by omega) trivial ?_ ?_
  · intro i _ h2 h3 _
    obtain ⟨v, hv⟩ := at_of h2 h3
    have hvb := he v hv.mem
    have hA := e166 v
    rw [inR_iff.2 hvb] at hA
    refine Round.yes (decide_eq_true h3) (Round.at hv.idx (Round.bind hA (Round.no (by simp) (Round.at hv.idx (Round.chk (decide_eq_true (by simp only [List.length_cons, List.length_nil, List.length_take]; omega)) (Round.again _ ⟨(), ?_, trivial⟩))))))
    rw [wrap16 (x := v) (by omega) (by omega), ← hv.take, wr_succ h2 h3 (by omega)]
  · intro _ _
    simp only [take_all]
    exact Round.no (by simp) (Round.done (Evt.some _))
/- spec.AddCams -/
theorem e12 {a b : List Int} (SA : SmD a) (SB : SmD b) (hab : a.length = b.length) : Evt (fun n => call T C n 12 (a, b, ())) ((adL a b, 0, ()), ()) := by
  have la := SA.len
  have ha := SA.el
  have hb := SB.el
  have h0 : 0 < a.length := by omega
  have h1 : a.length ≤ 1000 := by omega
  have hA : ∀ x, 0 ≤ cAt a x ∧ cAt a x ≤ 60 := fun x => ha _ (cAt_mem h0 x)
  have hB : ∀ x, 0 ≤ cAt b x ∧ cAt b x ≤ 60 := fun x => hb _ (cAt_mem (by omega) x)
  refine Evt.next (Evt.bind (e82 SA SB hab) (Evt.no (by simp) ?_)) (fun n => r12 n a b)
  have hM := e83 (l := adL a b) (by unfold adL; rw [tb_len]; omega) (fun v hv => by
    obtain ⟨i, hi, rfl⟩ := tb_mem hv
    have := hA (i : Nat)
    have := hB (i : Nat)
    omega)
  refine for_evt' 0 (a.length : Int) (fun i (_ : Unit) => (a, b, tb i.toNat (fun i => cAt a (i : Nat) + cAt b (i : Nat)), i, ())) (fun _ _ => True) (b0 := ()) rfl (by omega) trivial ?_ ?_
  · intro i' _ h2 h3 _
    obtain ⟨i, rfl⟩ : ∃ i : Nat, i' = i := ⟨i'.toNat, by omega⟩
    have hi : i < a.length := by omega
    have a1 := hA (i : Nat)
    have a2 := hB (i : Nat)
    rw [Int.toNat_natCast, show ((i : Int) + 1).toNat = i + 1 by omega]
    obtain ⟨O, eO⟩ : ∃ O, O = tb i (fun i => cAt a (i : Nat) + cAt b (i : Nat)) := ⟨_, rfl⟩
    have lO : O.length = i := by rw [eO]; exact tb_len _ _
    rw [← tb_snoc, ← eO]
    refine Round.yes (decide_eq_true h3) (Round.at (cAt_idx hi).idx (Round.at (cAt_idx (l := b) (i := i) (by omega)).idx (Round.chk (decide_eq_true (by simp only [List.length_cons, List.length_nil, lO]; omega)) (Round.again _ ⟨(), ?_, trivial⟩))))
    rw [wrap_id (x := cAt a (i : Nat)) (by omega) (by omega), wrap_id (x := cAt b (i : Nat)) (by omega) (by omega), wrap_id (x := cAt a (i : Nat) + cAt b (i : Nat)) (by omega) (by omega), wrap_id (x := (i : Int) + 1) (by omega) (by omega)]
  · intro _ _
    rw [Int.toNat_natCast]
    exact Round.no (by simp) (Round.bind hM (Round.done (Evt.some _)))
/- spec.P6Pick -/
theorem e13 {b : List Int} (hb : ∀ v ∈ b, 0 ≤ v ∧ v ≤ 255) (hl : (b.length : Int) ≤ 4096) {m : Int} (m1 : 1 ≤ m) (m2 : m ≤ 1000000) : ∃ v : Int, Evt (fun n => call T C n 13 (b, m, ())) ((v, ()), ()) ∧ 0 ≤ v ∧ v < m := by
  have h0 : SrcAt 0 ((b, 0, 0, ()) : Src) := ⟨hb, by show (b.length : Int) ≤ 1000000; omega, Int.le_refl _, Int.le_refl _⟩
  obtain ⟨v, s1, hE, v0, v1, _⟩ := e76 h0 (by omega) m1 m2
  refine ⟨v, Evt.next ?_ (fun n => r13 n b m), v0, v1⟩
  exact Evt.bind (e75 b) (Evt.bind hE (Evt.some _))
/- impl.nearest -/
theorem e86 {x n : Int} (hn : 0 < n) (hn' : n ≤ 10000000000000) (h1 : -2000000000000000000 ≤ x) (h2 : x ≤ 2000000000000000000) : Evt (fun m => call T C m 86 (x, n, ())) ((nr x n, ()), ()) := by
  refine Evt.next ?_ (fun m => r86 m x n)
  rw [wrap_id (x := 2 * n) (by omega) (by omega), wrap_id (x := 2 * x) (by omega) (by omega), wrap_id (x := 2 * x + n) (by omega) (by omega)]
  exact Evt.bind (e167 (by omega) (by omega) (by omega)) (Evt.some _)
/- impl.BlendCams$1 -/
theorem e85 {a b : List Int} (SA : SmD a) (SB : SmD b) (hab : a.length = b.length) {s : Int} (s0 : 0 ≤ s) (s1 : s ≤ 100) {i : Nat} (hi : i < a.length) : Evt (fun n => call T C n 85 ((i : Int), a, s, b, ())) ((nr (cAt a (i : Nat) * (100 - s) + cAt b (i : Nat) * s) 100, ()), (a, s, b, ())) := by
  have la := SA.len
  have ha := SA.el
  have hb := SB.el
  have h0 : 0 < a.length := by omega
  have h1 : a.length ≤ 1000 := by omega
  have hA : ∀ x, 0 ≤ cAt a x ∧ cAt a x ≤ 60 := fun x => ha _ (cAt_mem h0 x)
  have hB : ∀ x, 0 ≤ cAt b x ∧ cAt b x ≤ 60 := fun x => hb _ (cAt_mem (by omega) x)
  have blm : ∀ i : Nat, ((0 ≤ cAt a (i : Nat) * (100 - s) ∧ cAt a (i : Nat) * (100 - s) ≤ 60 * 100) ∧ (0 ≤ cAt b (i : Nat) * s ∧ cAt b (i : Nat) * s ≤ 60 * 100)) ∧ 0 ≤ nr (cAt a (i : Nat) * (100 - s) + cAt b (i : Nat) * s) 100 ∧ nr (cAt a (i : Nat) * (100 - s) + cAt b (i : Nat) * s) 100 ≤ 60 := fun i => by
    have a1 := hA (i : Nat)
    have a2 := hB (i : Nat)
    have h := bl_in (x := cAt a (i : Nat)) (y := cAt b (i : Nat)) s0 s1
    exact ⟨⟨mulB a1.1 a1.2 (by omega) (by omega), mulB a2.1 a2.2 s0 s1⟩, by omega, by omega⟩
  have h2 := blm i
  have hN := e86 (x := cAt a (i : Nat) * (100 - s) + cAt b (i : Nat) * s) (n := 100) (by omega) (by omega) (by omega) (by omega)
  refine Evt.next ?_ (fun n => r85 n i a s b)
  refine Evt.bind (e81 SA.rng (by omega) (by omega) (by omega) (by omega)) (Evt.bind (e81 SB.rng (by omega) (by omega) (by omega) (by omega)) ?_)
  simp only [wrap_id (x := 100 - s) (by omega) (by omega), wrap_id (x := cAt a (i : Nat) * (100 - s)) (by omega) (by omega), wrap_id (x := cAt b (i : Nat) * s) (by omega) (by omega), wrap_id (x := cAt a (i : Nat) * (100 - s) + cAt b (i : Nat) * s) (by omega) (by omega)]
  exact Evt.bind hN (Evt.some _)
/- impl.camOf{impl.BlendCams$1} -/
theorem e1078 {a b : List Int} (SA : SmD a) (SB : SmD b) (hab : a.length = b.length) {s : Int} (s0 : 0 ≤ s) (s1 : s ≤ 100) : Evt (fun n => call T C n 1078 (((a.length : Nat) : Int), ((), (a, (s, (b, ())))), ())) ((tb (a.length) (fun i : Nat => nr (cAt a (i : Nat) * (100 - s) + cAt b (i : Nat) * s) 100), 0, ()), (((), (a, (s, (b, ())))), ())) := by
  have la := SA.len
  have ha := SA.el
  have hb := SB.el
  have h0 : 0 < a.length := by omega
  have h1 : a.length ≤ 1000 := by omega
  have hA : ∀ x, 0 ≤ cAt a x ∧ cAt a x ≤ 60 := fun x => ha _ (cAt_mem h0 x)
  have hB : ∀ x, 0 ≤ cAt b x ∧ cAt b x ≤ 60 := fun x => hb _ (cAt_mem (by omega) x)
  have blm : ∀ i : Nat, ((0 ≤ cAt a (i : Nat) * (100 - s) ∧ cAt a (i : Nat) * (100 - s) ≤ 60 * 100) ∧ (0 ≤ cAt b (i : Nat) * s ∧ cAt b (i : Nat) * s ≤ 60 * 100)) ∧ 0 ≤ nr (cAt a (i : Nat) * (100 - s) + cAt b (i : Nat) * s) 100 ∧ nr (cAt a (i : Nat) * (100 - s) + cAt b (i : Nat) * s) 100 ≤ 60 := fun i => by
    have a1 := hA (i : Nat)
    have a2 := hB (i : Nat)
    have h := bl_in (x := cAt a (i : Nat)) (y := cAt b (i : Nat)) s0 s1
    exact ⟨⟨mulB a1.1 a1.2 (by omega) (by omega), mulB a2.1 a2.2 s0 s1⟩, by omega, by omega⟩
  refine Evt.next ?_ (fun n => r1078 n ((a.length : Nat) : Int) ((), (a, (s, (b, ())))))
  have hB : ∀ i : Nat, i < a.length → 0 ≤ nr (cAt a (i : Nat) * (100 - s) + cAt b (i : Nat) * s) 100 ∧ nr (cAt a (i : Nat) * (100 - s) + cAt b (i : Nat) * s) 100 ≤ 10000 := fun i hi => by have := (blm i).2; omega
  have hE : ∀ i : Nat, i < a.length → Evt (fun n => call T C n 85 ((i : Int), a, s, b, ())) ((nr (cAt a (i : Nat) * (100 - s) + cAt b (i : Nat) * s) 100, ()), (a, s, b, ())) := fun i hi => e85 SA SB hab s0 s1 hi
  obtain ⟨F, eF⟩ : ∃ F : Nat → Int, F = (fun i : Nat => nr (cAt a (i : Nat) * (100 - s) + cAt b (i : Nat) * s) 100) := ⟨_, rfl⟩
  rw [← eF]
  refine for_evt' 0 ((a.length : Nat) : Int) (fun i (_ : Unit) => (((), (a, (s, (b, ())))), tb i.toNat F, ((a.length : Nat) : Int), i, ())) (fun _ _ => True) (b0 := ()) rfl (by omega) trivial ?_ ?_
  · intro i' _ h2 h3 _
    obtain ⟨i, rfl⟩ : ∃ i : Nat, i' = i := ⟨i'.toNat, by omega⟩
    have hi : i < a.length := by omega
    have hb := hB i hi
    have hc := hE i hi
    have hl := e114 (nr (cAt a (i : Nat) * (100 - s) + cAt b (i : Nat) * s) 100)
    rw [inR_iff.2 hb] at hl
    have eFi : F i = nr (cAt a (i : Nat) * (100 - s) + cAt b (i : Nat) * s) 100 := by rw [eF]
    have lT : (tb i F).length = i := tb_len _ _
    rw [Int.toNat_natCast, show ((i : Int) + 1).toNat = i + 1 by omega]
    refine Round.yes (decide_eq_true h3) (Round.bind hc (Round.bind hl (Round.no (by simp) (Round.chk (decide_eq_true (by simp only [List.length_cons, List.length_nil, lT]; omega)) (Round.again _ ⟨(), ?_, trivial⟩)))))
    rw [wrap_id (x := (i : Int) + 1) (by omega) (by omega), ← tb_snoc, eFi, wrap16 (x := nr (cAt a (i : Nat) * (100 - s) + cAt b (i : Nat) * s) 100) (by omega) (by omega)]
  · intro _ _
    rw [Int.toNat_natCast]
    exact Round.no (by simp) (Round.done (Evt.some _))
/- impl.BlendCams -/
theorem e14 {a b : List Int} (SA : SmD a) (SB : SmD b) (hab : a.length = b.length) {s : Int} (s0 : 0 ≤ s) (s1 : s ≤ 100) : Evt (fun n => call T C n 14 (a, b, s, ())) ((blL a b s, 0, ()), ()) := by
  have hi := e84 s 0 100
  rw [show inR s 0 100 = true from inR_iff.2 ⟨s0, s1⟩] at hi
  refine Evt.next ?_ (fun n => r14 n a b s)
  exact Evt.bind (e77 SA SB hab) (Evt.no (by simp) (Evt.bind hi (Evt.no (by simp) (Evt.bind (e79 a) (Evt.bind (e1078 SA SB hab s0 s1) (Evt.some _))))))
/- spec.l01Near -/
theorem e88 {x n : Int} (hn : 0 < n) (hn' : n ≤ 10000000000000) (h1 : -2000000000000000000 ≤ x) (h2 : x ≤ 2000000000000000000) : Evt (fun m => call T C m 88 (x, n, ())) ((nr x n, ()), ()) := by
  have hbd := ediv_bd (a := 2 * x + n) (b := 2 * n) (M := 4500000000000000000) (by omega) (by omega) (by omega) (by omega)
  have he := floorDiv_eq (a := 2 * x + n) (b := 2 * n) (by omega)
  refine Evt.next ?_ (fun m => r88 m x n)
  rw [wrap_id (x := 2 * n) (by omega) (by omega), wrap_id (x := 2 * x) (by omega) (by omega), wrap_id (x := 2 * x + n) (by omega) (by omega)]
  refine Evt.chk (bne_pos (by omega)) (Evt.chk (bne_pos (by omega)) (Evt.ite (fun h => ?_) (fun h => ?_)))
  · have h : Int.tmod (2 * x + n) (2 * n) < 0 := of_decide_eq_true h
    rw [if_pos h] at he
    refine (Evt.some _).of_eq fun m => ?_
    rw [wrap_id (x := Int.tdiv (2 * x + n) (2 * n)) (by omega) (by omega), wrap_id (by omega) (by omega), he]
    rfl
  · have h : ¬ Int.tmod (2 * x + n) (2 * n) < 0 := by simpa using h
    rw [if_neg h] at he
    refine (Evt.some _).of_eq fun m => ?_
    rw [wrap_id (x := Int.tdiv (2 * x + n) (2 * n)) (by omega) (by omega), he]
    rfl
/- spec.BlendCams -/
theorem e15 {a b : List Int} (SA : SmD a) (SB : SmD b) (hab : a.length = b.length) {s : Int} (s0 : 0 ≤ s) (s1 : s ≤ 100) : Evt (fun n => call T C n 15 (a, b, s, ())) ((blL a b s, 0, ()), ()) := by
  have la := SA.len
  have ha := SA.el
  have hb := SB.el
  have h0 : 0 < a.length := by omega
  have h1 : a.length ≤ 1000 := by omega
  have hA : ∀ x, 0 ≤ cAt a x ∧ cAt a x ≤ 60 := fun x => ha _ (cAt_mem h0 x)
  have hB : ∀ x, 0 ≤ cAt b x ∧ cAt b x ≤ 60 := fun x => hb _ (cAt_mem (by omega) x)
  have blm : ∀ i : Nat, ((0 ≤ cAt a (i : Nat) * (100 - s) ∧ cAt a (i : Nat) * (100 - s) ≤ 60 * 100) ∧ (0 ≤ cAt b (i : Nat) * s ∧ cAt b (i : Nat) * s ≤ 60 * 100)) ∧ 0 ≤ nr (cAt a (i : Nat) * (100 - s) + cAt b (i : Nat) * s) 100 ∧ nr (cAt a (i : Nat) * (100 - s) + cAt b (i : Nat) * s) 100 ≤ 60 := fun i => by
    have a1 := hA (i : Nat)
    have a2 := hB (i : Nat)
    have h := bl_in (x := cAt a (i : Nat)) (y := cAt b (i : Nat)) s0 s1
    exact ⟨⟨mulB a1.1 a1.2 (by omega) (by omega), mulB a2.1 a2.2 s0 s1⟩, by omega, by omega⟩
  have hi := e87 s 0 100
  rw [show inR s 0 100 = true from inR_iff.2 ⟨s0, s1⟩] at hi
  refine Evt.next (Evt.bind (e82 SA SB hab) (Evt.yes (by simp) (Evt.bind hi (Evt.no (by simp) (Evt.no (by simp) ?_))))) (fun n => r15 n a b s)
  have hM := e83 (l := blL a b s) (by unfold blL; rw [tb_len]; omega) (fun v hv => by
    obtain ⟨i, hi, rfl⟩ := tb_mem hv
    have := (blm i).2
    omega)
  refine for_evt' 0 (a.length : Int) (fun i (_ : Unit) => (a, b, s, tb i.toNat (fun i => nr (cAt a (i : Nat) * (100 - s) + cAt b (i : Nat) * s) 100), i, ())) (fun _ _ => True) (b0 := ()) rfl (by omega) trivial ?_ ?_
  · intro i' _ h2 h3 _
    obtain ⟨i, rfl⟩ : ∃ i : Nat, i' = i := ⟨i'.toNat, by omega⟩
    have hi : i < a.length := by omega
    have a1 := hA (i : Nat)
    have a2 := hB (i : Nat)
    have a3 := blm i
    have hN := e88 (x := cAt a (i : Nat) * (100 - s) + cAt b (i : Nat) * s) (n := 100) (by omega) (by omega) (by omega) (by omega)
    rw [Int.toNat_natCast, show ((i : Int) + 1).toNat = i + 1 by omega]
    obtain ⟨O, eO⟩ : ∃ O, O = tb i (fun i => nr (cAt a (i : Nat) * (100 - s) + cAt b (i : Nat) * s) 100) := ⟨_, rfl⟩
    have lO : O.length = i := by rw [eO]; exact tb_len _ _
    rw [← tb_snoc, ← eO]
    refine Round.yes (decide_eq_true h3) (Round.at (cAt_idx hi).idx (Round.at (cAt_idx (l := b) (i := i) (by omega)).idx ?_))
    simp only [wrap_id (x := cAt a (i : Nat)) (by omega) (by omega), wrap_id (x := cAt b (i : Nat)) (by omega) (by omega), wrap_id (x := 100 - s) (by omega) (by omega), wrap_id (x := cAt a (i : Nat) * (100 - s)) (by omega) (by omega), wrap_id (x := cAt b (i : Nat) * s) (by omega) (by omega), wrap_id (x := cAt a (i : Nat) * (100 - s) + cAt b (i : Nat) * s) (by omega) (by omega)]
    refine Round.bind hN (Round.chk (decide_eq_true (by simp only [List.length_cons, List.length_nil, lO]; omega)) (Round.again _ ⟨(), ?_, trivial⟩))
    rw [wrap_id (x := (i : Int) + 1) (by omega) (by omega)]
  · intro _ _
    rw [Int.toNat_natCast]
    exact Round.no (by simp) (Round.bind hM (Round.done (Evt.some _)))
/- impl.RaiseCam$1 -/
theorem e90 {c : List Int} (hr : Rng c) (ok : okC c = true) {y : Int} (y0 : -10000 ≤ y) (y1 : y ≤ 10000) (hy : ∀ i : Nat, i < c.length → 0 ≤ cAt c (i : Nat) + y ∧ cAt c (i : Nat) + y ≤ 10000) {i : Nat} (hi : i < c.length) : Evt (fun n => call T C n 90 ((i : Int), c, y, ())) ((cAt c (i : Nat) + y, ()), (c, y, ())) := by
  have hl := okC_len ok
  have hC := okC_el ok hr
  have h2 := hy i hi
  refine Evt.next ?_ (fun n => r90 n i c y)
  refine Evt.bind (e81 hr (by omega) (by omega) (by omega) (by omega)) ((Evt.some _).of_eq fun n => ?_)
  simp only [wrap_id (x := cAt c (i : Nat) + y) (by omega) (by omega)]
  rfl
/- impl.camOf{impl.RaiseCam$1} -/
theorem e2078 {c : List Int} (hr : Rng c) (ok : okC c = true) {y : Int} (y0 : -10000 ≤ y) (y1 : y ≤ 10000) (hy : ∀ i : Nat, i < c.length → 0 ≤ cAt c (i : Nat) + y ∧ cAt c (i : Nat) + y ≤ 10000) : Evt (fun n => call T C n 2078 (((c.length : Nat) : Int), ((), (c, (y, ()))), ())) ((tb (c.length) (fun i : Nat => cAt c (i : Nat) + y), 0, ()), (((), (c, (y, ()))), ())) := by
  have hl := okC_len ok
  have hC := okC_el ok hr
  refine Evt.next ?_ (fun n => r2078 n ((c.length : Nat) : Int) ((), (c, (y, ()))))
  have hB : ∀ i : Nat, i < c.length → 0 ≤ cAt c (i : Nat) + y ∧ cAt c (i : Nat) + y ≤ 10000 := fun i hi => hy i hi
  have hE : ∀ i : Nat, i < c.length → Evt (fun n => call T C n 90 ((i : Int), c, y, ())) ((cAt c (i : Nat) + y, ()), (c, y, ())) := fun i hi => e90 hr ok y0 y1 hy hi
  obtain ⟨F, eF⟩ : ∃ F : Nat → Int, F = (fun i : Nat => cAt c (i : Nat) + y) := ⟨_, rfl⟩
  rw [← eF]
  refine for_evt' 0 ((c.length : Nat) : Int) (fun i (_ : Unit) => (((), (c, (y, ()))), tb i.toNat F, ((c.length : Nat) : Int), i, ())) (fun _ _ => True) (b0 := ()) rfl (by omega) trivial ?_ ?_
  · intro i' _ h2 h3 _
    obtain ⟨i, rfl⟩ : ∃ i : Nat, i' = i := ⟨i'.toNat, by omega⟩
    have hi : i < c.length := by omega
    have hb := hB i hi
    have hc := hE i hi
    have hl := e114 (cAt c (i : Nat) + y)
    rw [inR_iff.2 hb] at hl
    have eFi : F i = cAt c (i : Nat) + y := by rw [eF]
    have lT : (tb i F).length = i := tb_len _ _
    rw [Int.toNat_natCast, show ((i : Int) + 1).toNat = i + 1 by omega]
    refine Round.yes (decide_eq_true h3) (Round.bind hc (Round.bind hl (Round.no (by simp) (Round.chk (decide_eq_true (by simp only [List.length_cons, List.length_nil, lT]; omega)) (Round.again _ ⟨(), ?_, trivial⟩)))))
    rw [wrap_id (x := (i : Int) + 1) (by omega) (by omega), ← tb_snoc, eFi, wrap16 (x := cAt c (i : Nat) + y) (by omega) (by omega)]
  · intro _ _
    rw [Int.toNat_natCast]
    exact Round.no (by simp) (Round.done (Evt.some _))
/- impl.RaiseCam -/
theorem e16 {c : List Int} (hr : Rng c) (ok : okC c = true) {y : Int} (y0 : -10000 ≤ y) (y1 : y ≤ 10000) (hy : ∀ i : Nat, i < c.length → 0 ≤ cAt c (i : Nat) + y ∧ cAt c (i : Nat) + y ≤ 10000) : Evt (fun n => call T C n 16 (c, y, ())) ((rsL c y, 0, ()), ()) := by
  have hl := okC_len ok
  have hC := okC_el ok hr
  have hv := e89 c (by omega)
  rw [ok] at hv
  have hi := e84 y (-10000) 10000
  rw [show inR y (-10000) 10000 = true from inR_iff.2 ⟨y0, y1⟩] at hi
  refine Evt.next ?_ (fun n => r16 n c y)
  exact Evt.bind hv (Evt.no (by simp) (Evt.bind hi (Evt.no (by simp) (Evt.bind (e79 c) (Evt.bind (e2078 hr ok y0 y1 hy) (Evt.some _))))))
/- impl.ScaleCam$1 -/
theorem e91 {c : List Int} (hr : Rng c) (ok : okC c = true) {t u : Int} (t0 : 0 ≤ t) (t1 : t ≤ 1000) (u0 : 1 ≤ u) (u1 : u ≤ 1000) (hy : ∀ i : Nat, i < c.length → 0 ≤ nr (cAt c (i : Nat) * t) u ∧ nr (cAt c (i : Nat) * t) u ≤ 10000) {i : Nat} (hi : i < c.length) : Evt (fun n => call T C n 91 ((i : Int), c, t, u, ())) ((nr (cAt c (i : Nat) * t) u, ()), (c, t, u, ())) := by
  have hl := okC_len ok
  have hC := okC_el ok hr
  have h2 := hC _ (cAt_mem (show 0 < c.length by omega) (i : Nat))
  have h3 := mulB h2.1 h2.2 t0 t1
  refine Evt.next ?_ (fun n => r91 n i c t u)
  refine Evt.bind (e81 hr (by omega) (by omega) (by omega) (by omega)) ?_
  simp only [wrap_id (x := cAt c (i : Nat) * t) (by omega) (by omega)]
  exact Evt.bind (e86 (by omega) (by omega) (by omega) (by omega)) (Evt.some _)
/- impl.camOf{impl.ScaleCam$1} -/
theorem e3078 {c : List Int} (hr : Rng c) (ok : okC c = true) {t u : Int} (t0 : 0 ≤ t) (t1 : t ≤ 1000) (u0 : 1 ≤ u) (u1 : u ≤ 1000) (hy : ∀ i : Nat, i < c.length → 0 ≤ nr (cAt c (i : Nat) * t) u ∧ nr (cAt c (i : Nat) * t) u ≤ 10000) : Evt (fun n => call T C n 3078 (((c.length : Nat) : Int), ((), (c, (t, (u, ())))), ())) ((tb (c.length) (fun i : Nat => nr (cAt c (i : Nat) * t) u), 0, ()), (((), (c, (t, (u, ())))), ())) := by
  have hl := okC_len ok
  have hC := okC_el ok hr
  refine Evt.next ?_ (fun n => r3078 n ((c.length : Nat) : Int) ((), (c, (t, (u, ())))))
  have hB : ∀ i : Nat, i < c.length → 0 ≤ nr (cAt c (i : Nat) * t) u ∧ nr (cAt c (i : Nat) * t) u ≤ 10000 := fun i hi => hy i hi
  have hE : ∀ i : Nat, i < c.length → Evt (fun n => call T C n 91 ((i : Int), c, t, u, ())) ((nr (cAt c (i : Nat) * t) u, ()), (c, t, u, ())) := fun i hi => e91 hr ok t0 t1 u0 u1 hy hi
  obtain ⟨F, eF⟩ : ∃ F : Nat → Int, F = (fun i : Nat => nr (cAt c (i : Nat) * t) u) := ⟨_, rfl⟩
  rw [← eF]
  refine for_evt' 0 ((c.length : Nat) : Int) (fun i (_ : Unit) => (((), (c, (t, (u, ())))), tb i.toNat F, ((c.length : Nat) : Int), i, ())) (fun _ _ => True) (b0 := ()) rfl (by omega) trivial ?_ ?_
  · intro i' _ h2 h3 _
    obtain ⟨i, rfl⟩ : ∃ i : Nat, i' = i := ⟨i'.toNat, by omega⟩
    have hi : i < c.length := by omega
    have hb := hB i hi
    have hc := hE i hi
    have hl := e114 (nr (cAt c (i : Nat) * t) u)
    rw [inR_iff.2 hb] at hl
    have eFi : F i = nr (cAt c (i : Nat) * t) u := by rw [eF]
    have lT : (tb i F).length = i := tb_len _ _
    rw [Int.toNat_natCast, show ((i : Int) + 1).toNat = i + 1 by omega]
    refine Round.yes (decide_eq_true h3) (Round.bind hc (Round.bind hl (Round.no (by simp) (Round.chk (decide_eq_true (by simp only [List.length_cons, List.length_nil, lT]; omega)) (Round.again _ ⟨(), ?_, trivial⟩)))))
    rw [wrap_id (x := (i : Int) + 1) (by omega) (by omega), ← tb_snoc, eFi, wrap16 (x := nr (cAt c (i : Nat) * t) u) (by omega) (by omega)]
  · intro _ _
    rw [Int.toNat_natCast]
    exact Round.no (by simp) (Round.done (Evt.some _))
/- impl.ScaleCam -/
theorem e17 {c : List Int} (hr : Rng c) (ok : okC c = true) {t u : Int} (t0 : 0 ≤ t) (t1 : t ≤ 1000) (u0 : 1 ≤ u) (u1 : u ≤ 1000) (hy : ∀ i : Nat, i < c.length → 0 ≤ nr (cAt c (i : Nat) * t) u ∧ nr (cAt c (i : Nat) * t) u ≤ 10000) : Evt (fun n => call T C n 17 (c, t, u, ())) ((scL c t u, 0, ()), ()) := by
  have hl := okC_len ok
  have hC := okC_el ok hr
  have hv := e89 c (by omega)
  rw [ok] at hv
  have hi := e84 t 0 1000
  rw [show inR t 0 1000 = true from inR_iff.2 ⟨t0, t1⟩] at hi
  have hj := e84 u 1 1000
  rw [show inR u 1 1000 = true from inR_iff.2 ⟨u0, u1⟩] at hj
  refine Evt.next ?_ (fun n => r17 n c t u)
  exact Evt.bind hv (Evt.no (by simp) (Evt.bind hi (Evt.no (by simp) (Evt.bind hj (Evt.no (by simp) (Evt.bind (e79 c) (Evt.bind (e3078 hr ok t0 t1 u0 u1 hy) (Evt.some _))))))))
/- spec.l01Same -/
theorem e92 (l : List Int) (hl : (l.length : Int) ≤ 1000000) : Evt (fun n => call T C n 92 (l, l, ())) ((true, ()), ()) := by
  refine Evt.next (Evt.no (by simp) ?_) (fun n => r92 n l l)
  refine for_evt' 0 (l.length : Int) (fun i (_ : Unit) => (l, l, i, ())) (fun _ _ => True) (b0 := ()) rfl (by omega) trivial ?_ ?_
  · intro i _ h2 h3 _
    obtain ⟨v, hv⟩ := at_of h2 h3
    exact Round.yes (decide_eq_true h3) (Round.at hv.idx (Round.at hv.idx (Round.no (by simp) (Round.again _ ⟨(), by rw [wr_succ h2 h3 (by omega)], trivial⟩))))
  · intro _ _
    exact Round.no (by simp) (Round.done (Evt.some _))
theorem e922 (a b : List Int) (hl : (a.length : Int) ≤ 1000000) : Evt (fun n => call T C n 92 (a, b, ())) ((decide (a = b), ()), ()) := by
  by_cases hlen : a.length = b.length
  · refine Evt.next (Evt.no (by simp [hlen]) ?_) (fun n => r92 n a b)
    refine for_evt' 0 (a.length : Int) (fun i (_ : Unit) => (a, b, i, ())) (fun i _ => a.take i.toNat = b.take i.toNat) (b0 := ()) rfl (by omega) (by simp) ?_ ?_
    · intro i _ h2 h3 he
      obtain ⟨u, hu⟩ := at_of h2 h3
      obtain ⟨v, hv⟩ := at_of (l := b) h2 (by omega)
      refine Round.yes (decide_eq_true h3) (Round.at hu.idx (Round.at hv.idx (Round.ite (fun h => ?_) (fun h => ?_))))
      · have h : u ≠ v := by simpa using h
        have : a ≠ b := fun e => by
          subst e
          have := hu.get.symm.trans hv.get
          exact h (Option.some.inj this)
        rw [decide_eq_false this]
        exact Round.done (Evt.some _)
      · have h : u = v := by simpa using h
        exact Round.again _ ⟨(), by rw [wr_succ h2 h3 (by omega)], by rw [hu.take, hv.take, he, h]⟩
    · intro _ he
      have he : a = b := by rwa [take_all, hlen, take_all] at he
      rw [decide_eq_true he]
      exact Round.no (by simp) (Round.done (Evt.some _))
  · have : a ≠ b := fun e => hlen (by rw [e])
    rw [decide_eq_false this]
    exact Evt.next (Evt.yes (by simp; omega) (Evt.some _)) (fun n => r92 n a b)
/- spec.SameCam -/
theorem e18 (l : List Int) (hl : (l.length : Int) ≤ 1000000) : Evt (fun n => call T C n 18 (l, l, ())) ((true, ()), ()) := Evt.next (Evt.bind (e92 l hl) (Evt.some _)) (fun n => r18 n l l)
theorem e182 (a b : List Int) (hl : (a.length : Int) ≤ 1000000) : Evt (fun n => call T C n 18 (a, b, ())) ((decide (a = b), ()), ()) := Evt.next (Evt.bind (e922 a b hl) (Evt.some _)) (fun n => r18 n a b)
/- impl.RefineCam$1 -/
theorem e94 {a : List Int} (SA : SmD a) {t : Nat} (t0 : 1 ≤ t) (t1 : t ≤ 5) {i : Nat} (hi : i < a.length * t) : Evt (fun n => call T C n 94 ((i : Int), (t : Int), a, ())) ((rfG a t (i : Nat), ()), ((t : Int), a, ())) := by
  have la := SA.len
  have h0 : 0 < a.length := by omega
  have hA : ∀ x, 0 ≤ cAt a x ∧ cAt a x ≤ 60 := fun x => SA.el _ (cAt_mem h0 x)
  have hnt : a.length * t ≤ 36 * 5 := Nat.mul_le_mul (by omega) t1
  have hnt2 : a.length * 1 ≤ a.length * t := Nat.mul_le_mul (Nat.le_refl _) t0
  have hpi : ((a.length * t : Nat) : Int) = (a.length : Int) * (t : Int) := by simp
  have ht : ((t : Int) != 0) = true := bne_pos (by omega)
  have e1 : wr .i64 (Int.tdiv (i : Int) (t : Int)) = (i : Int) / (t : Int) := by
    rw [Int.tdiv_eq_ediv_of_nonneg (by omega)]
    have := Int.ediv_nonneg (show (0 : Int) ≤ i by omega) (show (0 : Int) ≤ t by omega)
    have := Int.ediv_le_self (t : Int) (show (0 : Int) ≤ i by omega)
    exact wrap_id (by omega) (by omega)
  have e2 : Int.tmod (i : Int) (t : Int) = (i : Int) % (t : Int) := Int.tmod_eq_emod_of_nonneg (by omega)
  have q0 := Int.ediv_nonneg (show (0 : Int) ≤ i by omega) (show (0 : Int) ≤ t by omega)
  have q1 := Int.ediv_le_self (t : Int) (show (0 : Int) ≤ i by omega)
  have k0 := Int.emod_nonneg (i : Int) (show (t : Int) ≠ 0 by omega)
  have k1 := Int.emod_lt_of_pos (i : Int) (show (0 : Int) < t by omega)
  refine Evt.next ?_ (fun n => r94 n i t a)
  rw [e1, e2]
  obtain ⟨q, hq⟩ : ∃ q, q = (i : Int) / (t : Int) := ⟨_, rfl⟩
  obtain ⟨k, hk⟩ : ∃ k, k = (i : Int) % (t : Int) := ⟨_, rfl⟩
  have eG : rfG a t (i : Nat) = nr (cAt a q * t + (cAt a (q + 1) - cAt a q) * k) t := by unfold rfG; rw [hq, hk]
  rw [eG, ← hq, ← hk]
  rw [← hq] at q0 q1
  rw [← hk] at k0 k1
  have a1 := hA q
  have a2 := hA (q + 1)
  have m1 := mulB a1.1 a1.2 (show (0 : Int) ≤ t by omega) (show (t : Int) ≤ 5 by omega)
  have m2 := Int.mul_le_mul_of_nonneg_right (show cAt a (q + 1) - cAt a q ≤ 60 by omega) k0
  have m3 := Int.mul_le_mul_of_nonneg_right (show -60 ≤ cAt a (q + 1) - cAt a q by omega) k0
  have hN := e86 (x := cAt a q * t + (cAt a (q + 1) - cAt a q) * k) (n := (t : Int)) (by omega) (by omega) (by omega) (by omega)
  refine Evt.chk ht (Evt.chk ht (Evt.bind (e81 SA.rng (by omega) (by omega) (by omega) (by omega)) (Evt.chk ht ?_)))
  simp only [wrap_id (x := q + 1) (by omega) (by omega)]
  refine Evt.bind (e81 SA.rng (by omega) (by omega) (by omega) (by omega)) ?_
  simp only [wrap_id (x := cAt a q * (t : Int)) (by omega) (by omega), wrap_id (x := cAt a (q + 1) - cAt a q) (by omega) (by omega), wrap_id (x := (cAt a (q + 1) - cAt a q) * k) (by omega) (by omega), wrap_id (x := cAt a q * t + (cAt a (q + 1) - cAt a q) * k) (by omega) (by omega)]
  exact Evt.bind hN (Evt.some _)
/- impl.camOf{impl.RefineCam$1} -/
theorem e4078 {a : List Int} (SA : SmD a) {t : Nat} (t0 : 1 ≤ t) (t1 : t ≤ 5) : Evt (fun n => call T C n 4078 (((a.length * t : Nat) : Int), ((), ((t : Int), (a, ()))), ())) ((tb (a.length * t) (fun i : Nat => rfG a t (i : Nat)), 0, ()), (((), ((t : Int), (a, ()))), ())) := by
  have la := SA.len
  have h0 : 0 < a.length := by omega
  have hA : ∀ x, 0 ≤ cAt a x ∧ cAt a x ≤ 60 := fun x => SA.el _ (cAt_mem h0 x)
  have hnt : a.length * t ≤ 36 * 5 := Nat.mul_le_mul (by omega) t1
  have hnt2 : a.length * 1 ≤ a.length * t := Nat.mul_le_mul (Nat.le_refl _) t0
  have hpi : ((a.length * t : Nat) : Int) = (a.length : Int) * (t : Int) := by simp
  refine Evt.next ?_ (fun n => r4078 n ((a.length * t : Nat) : Int) ((), ((t : Int), (a, ()))))
  have hB : ∀ i : Nat, i < a.length * t → 0 ≤ rfG a t (i : Nat) ∧ rfG a t (i : Nat) ≤ 10000 := fun i hi => by have := rfG_in h0 SA.el (t := (t : Int)) (by omega) (i : Nat); omega
  have hE : ∀ i : Nat, i < a.length * t → Evt (fun n => call T C n 94 ((i : Int), (t : Int), a, ())) ((rfG a t (i : Nat), ()), ((t : Int), a, ())) := fun i hi => e94 SA t0 t1 hi
  obtain ⟨F, eF⟩ : ∃ F : Nat → Int, F = (fun i : Nat => rfG a t (i : Nat)) := ⟨_, rfl⟩
  rw [← eF]
  refine for_evt' 0 ((a.length * t : Nat) : Int) (fun i (_ : Unit) => (((), ((t : Int), (a, ()))), tb i.toNat F, ((a.length * t : Nat) : Int), i, ())) (fun _ _ => True) (b0 := ()) rfl (by omega) trivial ?_ ?_
  · intro i' _ h2 h3 _
    obtain ⟨i, rfl⟩ : ∃ i : Nat, i' = i := ⟨i'.toNat, by omega⟩
    have hi : i < a.length * t := by omega
    have hb := hB i hi
    have hc := hE i hi
    have hl := e114 (rfG a t (i : Nat))
    rw [inR_iff.2 hb] at hl
    have eFi : F i = rfG a t (i : Nat) := by rw [eF]
    have lT : (tb i F).length = i := tb_len _ _
    rw [Int.toNat_natCast, show ((i : Int) + 1).toNat = i + 1 by omega]
    refine Round.yes (decide_eq_true h3) (Round.bind hc (Round.bind hl (Round.no (by simp) (Round.chk (decide_eq_true (by simp only [List.length_cons, List.length_nil, lT]; omega)) (Round.again _ ⟨(), ?_, trivial⟩)))))
    rw [wrap_id (x := (i : Int) + 1) (by omega) (by omega), ← tb_snoc, eFi, wrap16 (x := rfG a t (i : Nat)) (by omega) (by omega)]
  · intro _ _
    rw [Int.toNat_natCast]
    exact Round.no (by simp) (Round.done (Evt.some _))
/- impl.RefineCam -/
theorem e19 {a : List Int} (SA : SmD a) {t : Nat} (t0 : 1 ≤ t) (t1 : t ≤ 5) : Evt (fun n => call T C n 19 (a, (t : Int), ())) ((rfL a t, 0, ()), ()) := by
  have la := SA.len
  have h0 : 0 < a.length := by omega
  have hA : ∀ x, 0 ≤ cAt a x ∧ cAt a x ≤ 60 := fun x => SA.el _ (cAt_mem h0 x)
  have hnt : a.length * t ≤ 36 * 5 := Nat.mul_le_mul (by omega) t1
  have hnt2 : a.length * 1 ≤ a.length * t := Nat.mul_le_mul (Nat.le_refl _) t0
  have hpi : ((a.length * t : Nat) : Int) = (a.length : Int) * (t : Int) := by simp
  have hv := e89 a (by omega)
  rw [SA.ok] at hv
  have hi := e84 (t : Int) 1 45
  rw [show inR (t : Int) 1 45 = true from inR_iff.2 ⟨by omega, by omega⟩] at hi
  have hs := e93 ((a.length * t : Nat) : Int)
  rw [show inR ((a.length * t : Nat) : Int) 8 360 = true from inR_iff.2 ⟨by omega, by omega⟩] at hs
  have ew : wr .i64 ((a.length : Int) * (t : Int)) = ((a.length * t : Nat) : Int) := by rw [← hpi, wrap_id (by omega) (by omega)]
  refine Evt.next ?_ (fun n => r19 n a t)
  refine Evt.bind hv (Evt.no (by simp) (Evt.bind hi (Evt.no (by simp) (Evt.bind (e79 a) ?_))))
  simp only [ew]
  refine Evt.bind hs (Evt.no (by simp) (Evt.bind (e79 a) ?_))
  simp only [ew]
  exact Evt.bind (e4078 SA t0 t1) (Evt.some _)
/- spec.l01Times -/
theorem e96 (a : Int) : Evt (fun n => call T C n 96 (a, ())) ((inR a 1 45, ()), ()) := Evt.next (Evt.bind (e87 a 1 45) (Evt.some _)) (fun n => r96 n a)
/- spec.l01At -/
theorem e98 {l : List Int} (hr : Rng l) (h0 : 0 < (l.length : Int)) (h1 : (l.length : Int) ≤ 1000000) {x : Int} (hx : -4000000 ≤ x) (hx' : x ≤ 4000000) : ∃ v, l[(x % l.length).toNat]? = some v ∧ v ∈ l ∧ Evt (fun n => call T C n 98 (l, x, ())) ((v, ()), ()) := by
  have hp := Int.emod_nonneg x (show (l.length : Int) ≠ 0 by omega)
  obtain ⟨v, hv⟩ := at_of (l := l) hp (Int.emod_lt_of_pos x h0)
  refine ⟨v, hv.get, hv.mem, ?_⟩
  refine Evt.next (Evt.chk (bne_pos h0) (Evt.chk (bne_pos h0) ?_)) (fun n => r98 n l x)
  rw [turn_at h0 h1 hx hx']
  refine Evt.at hv.idx ((Evt.some _).of_eq fun n => ?_)
  rw [hr.id hv.mem]
  rfl
theorem e98' {l : List Int} (hr : Rng l) (h0 : 0 < (l.length : Int)) (h1 : (l.length : Int) ≤ 1000000) {x : Int} (hx : -4000000 ≤ x) (hx' : x ≤ 4000000) : Evt (fun n => call T C n 98 (l, x, ())) ((cAt l x, ()), ()) := by
  obtain ⟨v, hv, hm, he⟩ := e98 hr h0 h1 hx hx'
  have : cAt l x = v := by unfold cAt g; rw [List.getD_eq_getElem?_getD, hv]; rfl
  rw [this]; exact he
/- spec.RefineCam -/
theorem e20 {a : List Int} (SA : SmD a) {t : Nat} (t0 : 1 ≤ t) (t1 : t ≤ 5) : Evt (fun n => call T C n 20 (a, (t : Int), ())) ((rfL a t, 0, ()), ()) := by
  have la := SA.len
  have h0 : 0 < a.length := by omega
  have hA : ∀ x, 0 ≤ cAt a x ∧ cAt a x ≤ 60 := fun x => SA.el _ (cAt_mem h0 x)
  have hnt : a.length * t ≤ 36 * 5 := Nat.mul_le_mul (by omega) t1
  have hnt2 : a.length * 1 ≤ a.length * t := Nat.mul_le_mul (Nat.le_refl _) t0
  have hpi : ((a.length * t : Nat) : Int) = (a.length : Int) * (t : Int) := by simp
  have hv := e95 a (by omega)
  rw [SA.ok] at hv
  have hi := e96 (t : Int)
  rw [show inR (t : Int) 1 45 = true from inR_iff.2 ⟨by omega, by omega⟩] at hi
  have hs := e97 ((a.length * t : Nat) : Int)
  rw [show inR ((a.length * t : Nat) : Int) 8 360 = true from inR_iff.2 ⟨by omega, by omega⟩] at hs
  have ew : wr .i64 ((t : Int) * (a.length : Int)) = ((a.length * t : Nat) : Int) := by rw [Int.mul_comm, ← hpi, wrap_id (by omega) (by omega)]
  refine Evt.next ?_ (fun n => r20 n a t)
  refine Evt.bind hv (Evt.no (by simp) (Evt.bind hi (Evt.no (by simp) ?_)))
  simp only [ew]
  refine Evt.bind hs (Evt.no (by simp) ?_)
  refine for_evt' 0 (a.length : Int) (fun i (_ : Unit) => (a, (t : Int), tb (i.toNat * t) (fun i => rfG a t (i : Nat)), i, ())) (fun _ _ => True) (b0 := ()) (by rw [show (0 : Int).toNat = 0 from rfl, Nat.zero_mul]; rfl) (by omega) trivial ?_ ?_
  · intro i' _ h2 h3 _
    obtain ⟨i, rfl⟩ : ∃ i : Nat, i' = i := ⟨i'.toNat, by omega⟩
    have hi : i < a.length := by omega
    have a1 := hA (i : Int)
    have a2 := hA ((i : Int) + 1)
    rw [Int.toNat_natCast]
    refine Round.yes (decide_eq_true h3) (Round.bind (e98' SA.rng (by omega) (by omega) (x := (i : Int)) (by omega) (by omega)) ?_)
    simp only [wrap_id (x := (i : Int) + 1) (by omega) (by omega)]
    refine Round.bind (e98' SA.rng (by omega) (by omega) (x := (i : Int) + 1) (by omega) (by omega)) ?_
    have hit : (i + 1) * t ≤ a.length * t := Nat.mul_le_mul (by omega) (Nat.le_refl _)
    have hit2 : (i + 1) * t = i * t + t := Nat.succ_mul i t
    refine for_round' 0 (t : Int) (fun k (_ : Unit) => (a, (t : Int), tb (i * t + k.toNat) (fun i => rfG a t (i : Nat)), (i : Int), cAt a (i : Int), cAt a ((i : Int) + 1), k, ())) (fun _ _ => True) (b0 := ()) rfl (by omega) trivial ?_ ?_
    · intro k' _ h4 h5 _
      obtain ⟨k, rfl⟩ : ∃ k : Nat, k' = k := ⟨k'.toNat, by omega⟩
      rw [Int.toNat_natCast, show i * t + ((k : Int) + 1).toNat = i * t + k + 1 by omega]
      have hd := dm (t := (t : Int)) (r := (k : Int)) (i : Int) (by omega) h5
      have hpk : ((i * t + k : Nat) : Int) = (t : Int) * (i : Int) + (k : Int) := by rw [Int.natCast_add, Int.natCast_mul, Int.mul_comm]
      have eG : rfG a t ((i * t + k : Nat) : Int) = cAt a (i : Int) + nr ((cAt a ((i : Int) + 1) - cAt a (i : Int)) * (k : Int)) t := by
        rw [rfG_eq a (by omega), hpk, hd.1, hd.2]
      have hb := rfG_in h0 SA.el (t := (t : Int)) (by omega) ((i * t + k : Nat) : Int)
      have m2 := Int.mul_le_mul_of_nonneg_right (show cAt a ((i : Int) + 1) - cAt a (i : Int) ≤ 60 by omega) (show (0 : Int) ≤ k by omega)
      have m3 := Int.mul_le_mul_of_nonneg_right (show -60 ≤ cAt a ((i : Int) + 1) - cAt a (i : Int) by omega) (show (0 : Int) ≤ k by omega)
      have hN := e88 (x := (cAt a ((i : Int) + 1) - cAt a (i : Int)) * (k : Int)) (n := (t : Int)) (by omega) (by omega) (by omega) (by omega)
      obtain ⟨O, eO⟩ : ∃ O, O = tb (i * t + k) (fun i => rfG a t (i : Nat)) := ⟨_, rfl⟩
      have lO : O.length = i * t + k := by rw [eO]; exact tb_len _ _
      rw [← tb_snoc, ← eO]
      refine Round.yes (decide_eq_true h5) ?_
      simp only [wrap_id (x := cAt a ((i : Int) + 1) - cAt a (i : Int)) (by omega) (by omega), wrap_id (x := (cAt a ((i : Int) + 1) - cAt a (i : Int)) * (k : Int)) (by omega) (by omega)]
      refine Round.bind hN (Round.chk (decide_eq_true (by simp only [List.length_cons, List.length_nil, lO]; omega)) (Round.inr _ ⟨(), ?_, trivial⟩))
      rw [eG] at hb
      rw [eG, wrap_id (x := cAt a (i : Int) + nr ((cAt a ((i : Int) + 1) - cAt a (i : Int)) * (k : Int)) t) (by omega) (by omega), wrap16 (by omega) (by omega), wrap_id (x := (k : Int) + 1) (by omega) (by omega)]
    · intro _ _
      rw [Int.toNat_natCast]
      refine Round.no (by simp) (Round.inl _ ⟨(), ?_, trivial⟩)
      rw [wrap_id (x := (i : Int) + 1) (by omega) (by omega), show ((i : Int) + 1).toNat = i + 1 by omega, hit2]
  · intro _ _
    rw [Int.toNat_natCast]
    exact Round.no (by simp) (Round.done (Evt.some _))
/- impl.ThinCam$1 -/
theorem e99 {f : List Int} (hr : Rng f) (hl0 : 0 < f.length) (hl1 : f.length ≤ 360) {t : Nat} (t1 : t ≤ 5) {i : Nat} (hi : i ≤ 1000) : Evt (fun n => call T C n 99 ((i : Int), f, (t : Int), ())) ((cAt f ((i : Nat) * (t : Int)), ()), (f, (t : Int), ())) := by
  have hm := mulB (show (0 : Int) ≤ i by omega) (show (i : Int) ≤ 1000 by omega) (show (0 : Int) ≤ t by omega) (show (t : Int) ≤ 5 by omega)
  refine Evt.next ?_ (fun n => r99 n i f t)
  simp only [wrap_id (x := (i : Int) * (t : Int)) (by omega) (by omega)]
  exact Evt.bind (e81 hr (by omega) (by omega) (by omega) (by omega)) (Evt.some _)
/- impl.camOf{impl.ThinCam$1} -/
theorem e5078 {f : List Int} (hr : Rng f) (hl0 : 0 < f.length) (hl1 : f.length ≤ 360) (hel : ∀ v ∈ f, 0 ≤ v ∧ v ≤ 10000) {t : Nat} (t1 : t ≤ 5) {m : Nat} (hm : m ≤ 360) : Evt (fun n => call T C n 5078 (((m : Nat) : Int), ((), (f, ((t : Int), ()))), ())) ((tb (m) (fun i : Nat => cAt f ((i : Nat) * (t : Int))), 0, ()), (((), (f, ((t : Int), ()))), ())) := by
  refine Evt.next ?_ (fun n => r5078 n ((m : Nat) : Int) ((), (f, ((t : Int), ()))))
  have hB : ∀ i : Nat, i < m → 0 ≤ cAt f ((i : Nat) * (t : Int)) ∧ cAt f ((i : Nat) * (t : Int)) ≤ 10000 := fun i hi => hel _ (cAt_mem hl0 _)
  have hE : ∀ i : Nat, i < m → Evt (fun n => call T C n 99 ((i : Int), f, (t : Int), ())) ((cAt f ((i : Nat) * (t : Int)), ()), (f, (t : Int), ())) := fun i hi => e99 hr hl0 hl1 t1 (by omega)
  obtain ⟨F, eF⟩ : ∃ F : Nat → Int, F = (fun i : Nat => cAt f ((i : Nat) * (t : Int))) := ⟨_, rfl⟩
  rw [← eF]
  refine for_evt' 0 ((m : Nat) : Int) (fun i (_ : Unit) => (((), (f, ((t : Int), ()))), tb i.toNat F, ((m : Nat) : Int), i, ())) (fun _ _ => True) (b0 := ()) rfl (by omega) trivial ?_ ?_
  · intro i' _ h2 h3 _
    obtain ⟨i, rfl⟩ : ∃ i : Nat, i' = i := ⟨i'.toNat, by omega⟩
    have hi : i < m := by omega
    have hb := hB i hi
    have hc := hE i hi
    have hl := e114 (cAt f ((i : Nat) * (t : Int)))
    rw [inR_iff.2 hb] at hl
    have eFi : F i = cAt f ((i : Nat) * (t : Int)) := by rw [eF]
    have lT : (tb i F).length = i := tb_len _ _
    rw [Int.toNat_natCast, show ((i : Int) + 1).toNat = i + 1 by omega]
    refine Round.yes (decide_eq_true h3) (Round.bind hc (Round.bind hl (Round.no (by simp) (Round.chk (decide_eq_true (by simp only [List.length_cons, List.length_nil, lT]; omega)) (Round.again _ ⟨(), ?_, trivial⟩)))))
    rw [wrap_id (x := (i : Int) + 1) (by omega) (by omega), ← tb_snoc, eFi, wrap16 (x := cAt f ((i : Nat) * (t : Int))) (by omega) (by omega)]
  · intro _ _
    rw [Int.toNat_natCast]
    exact Round.no (by simp) (Round.done (Evt.some _))
/- impl.ThinCam -/
theorem e21 {a : List Int} (SA : SmD a) {t : Nat} (t0 : 1 ≤ t) (t1 : t ≤ 5) : Evt (fun n => call T C n 21 (rfL a t, (t : Int), ())) ((a, 0, ()), ()) := by
  have la := SA.len
  have h0 : 0 < a.length := by omega
  have hA : ∀ x, 0 ≤ cAt a x ∧ cAt a x ≤ 60 := fun x => SA.el _ (cAt_mem h0 x)
  have hnt : a.length * t ≤ 36 * 5 := Nat.mul_le_mul (by omega) t1
  have hnt2 : a.length * 1 ≤ a.length * t := Nat.mul_le_mul (Nat.le_refl _) t0
  have hpi : ((a.length * t : Nat) : Int) = (a.length : Int) * (t : Int) := by simp
  have hel : ∀ v ∈ rfL a t, 0 ≤ v ∧ v ≤ 10000 := fun v hv => by
    obtain ⟨i, hi, rfl⟩ := tb_mem hv
    have := rfG_in h0 SA.el (t := (t : Int)) (by omega) (i : Nat)
    omega
  have hfl := rfL_len a t
  obtain ⟨f, ef⟩ : ∃ f, f = rfL a t := ⟨_, rfl⟩
  have hth := rf_thin h0 (t := t) (by omega)
  rw [← ef] at hel hfl hth ⊢
  have hr : Rng f := rng_bd (by omega) hel
  have hv := e89 f (by omega)
  rw [okC_of (by omega) hel] at hv
  have hi := e84 (t : Int) 1 45
  rw [show inR (t : Int) 1 45 = true from inR_iff.2 ⟨by omega, by omega⟩] at hi
  have ht : ((t : Int) != 0) = true := bne_pos (by omega)
  have hs := e93 (a.length : Int)
  rw [show inR (a.length : Int) 8 360 = true from inR_iff.2 ⟨by omega, by omega⟩] at hs
  have hdm := dm (t := (t : Int)) (r := 0) (a.length : Int) (by omega) (by omega)
  have efl : (f.length : Int) = (t : Int) * (a.length : Int) + 0 := by rw [hfl, hpi, Int.mul_comm, Int.add_zero]
  have em : Int.tmod (f.length : Int) (t : Int) = 0 := by rw [Int.tmod_eq_emod_of_nonneg (by omega), efl, hdm.2]
  have ed : wr .i64 (Int.tdiv (f.length : Int) (t : Int)) = (a.length : Int) := by rw [Int.tdiv_eq_ediv_of_nonneg (by omega), efl, hdm.1, wrap_id (by omega) (by omega)]
  have hc := e5078 hr (by omega) (by omega) hel t1 (m := a.length) (by omega)
  rw [hth] at hc
  refine Evt.next ?_ (fun n => r21 n f t)
  refine Evt.bind hv (Evt.no (by simp) (Evt.bind hi (Evt.no (by simp) (Evt.bind (e79 f) (Evt.chk ht (Evt.no (by simp [em]) (Evt.bind (e79 f) (Evt.chk ht ?_))))))))
  simp only [ed]
  refine Evt.bind hs (Evt.no (by simp) (Evt.bind (e79 f) (Evt.chk ht ?_)))
  simp only [ed]
  exact Evt.bind hc (Evt.some _)
/- (impl.Cam).change -/
theorem e102 {c : List Int} (hr : Rng c) (h0 : 0 < c.length) (h1 : c.length ≤ 1000) {x : Int} (x0 : -1000000 ≤ x) (x1 : x ≤ 1000000) : Evt (fun n => call T C n 102 (c, x, ())) ((cAt c (x + 1) - cAt c x, ()), ()) := by
  have b1 := hr.el _ (cAt_mem h0 (x + 1))
  have b2 := hr.el _ (cAt_mem h0 x)
  refine Evt.next ?_ (fun n => r102 n c x)
  rw [wrap_id (x := x + 1) (by omega) (by omega)]
  refine Evt.bind (e81 hr (by omega) (by omega) (by omega) (by omega)) (Evt.bind (e81 hr (by omega) (by omega) (by omega) (by omega)) ((Evt.some _).of_eq fun n => ?_))
  show some ((wr .i64 (cAt c (x + 1) - cAt c x), ()), ()) = _
  rw [wrap_id (x := cAt c (x + 1) - cAt c x) (by omega) (by omega)]
  rfl
/- (impl.Cam).numbers{(impl.Cam).change} -/
theorem e101 {c : List Int} (hr : Rng c) (h0 : 0 < c.length) (h1 : c.length ≤ 1000) : Evt (fun n => call T C n 101 (c, ((c, ()), ()), ())) ((tb c.length (fun i : Nat => cAt c ((i : Nat) + 1) - cAt c (i : Nat)), ()), (((c, ()), ()), ())) := by
  refine Evt.next (Evt.bind (e79 c) ?_) (fun n => r101 n c ((c, ()), ()))
  have hE : ∀ i : Nat, i < c.length → Evt (fun n => call T C n 102 (c, (i : Int), ())) ((cAt c ((i : Nat) + 1) - cAt c (i : Nat), ()), ()) := fun i hi => e102 hr h0 h1 (by omega) (by omega)
  obtain ⟨F, eF⟩ : ∃ F : Nat → Int, F = (fun i : Nat => cAt c ((i : Nat) + 1) - cAt c (i : Nat)) := ⟨_, rfl⟩
  rw [← eF]
  refine for_evt' 0 (c.length : Int) (fun i (_ : Unit) => (((c, ()), ()), tb i.toNat F, (c.length : Int), i, ())) (fun _ _ => True) (b0 := ()) rfl (by omega) trivial ?_ ?_
  · intro i' _ h2 h3 _
    obtain ⟨i, rfl⟩ : ∃ i : Nat, i' = i := ⟨i'.toNat, by omega⟩
    have hi : i < c.length := by omega
    have hc := hE i hi
    have lT : (tb i F).length = i := tb_len _ _
    have eFi : F i = cAt c ((i : Nat) + 1) - cAt c (i : Nat) := by rw [eF]
    rw [Int.toNat_natCast, show ((i : Int) + 1).toNat = i + 1 by omega]
    refine Round.yes (decide_eq_true h3) (Round.bind hc (Round.chk (decide_eq_true (by simp only [List.length_cons, List.length_nil, lT]; omega)) (Round.again _ ⟨(), ?_, trivial⟩)))
    rw [wrap_id (x := (i : Int) + 1) (by omega) (by omega), ← tb_snoc, eFi]
  · intro _ _
    rw [Int.toNat_natCast]
    exact Round.no (by simp) (Round.done (Evt.some _))
/- impl.abs -/
theorem e161 {a : Int} (h1 : -1000000000000 ≤ a) (h2 : a ≤ 1000000000000) : Evt (fun n => call T C n 161 (a, ())) ((siz a, ()), ()) := by
  refine Evt.next ((Evt.some _).of_eq fun n => ?_) (fun n => r161 n a)
  rw [wrap_id (x := 0 - a) (by omega) (by omega)]
  unfold siz
  have : (if 0 - a > a then 0 - a else a) = if a < 0 then -a else a := by split <;> split <;> omega
  rw [this]
  rfl
/- impl.greatest -/
theorem e100 {l : List Int} (hl : (l.length : Int) ≤ 1000000) (hb : ∀ v ∈ l, -1000000000000 ≤ v ∧ v ≤ 1000000000000) : Evt (fun n => call T C n 100 (l, ())) (((gr l).1, (gr l).2.1, ()), ()) := by
  refine Evt.next ?_ (fun n => r100 n l)
  refine for_evt' 0 (l.length : Int) (fun i (_ : Unit) => ((gr (l.take i.toNat)).1, (gr (l.take i.toNat)).2.1, l, (l.length : Int), i, ())) (fun _ _ => True) (b0 := ()) rfl (by omega) trivial ?_ ?_
  · intro i _ h2 h3 _
    obtain ⟨v, hv⟩ := at_of h2 h3
    have hvb := hb v hv.mem
    have hA := e161 hvb.1 hvb.2
    have hn : (gr (l.take i.toNat)).2.2 = i := by
      have := gr_n (l.take i.toNat) (0, -1, 0)
      have h4 : (l.take i.toNat).length = i.toNat := by rw [List.length_take]; omega
      rw [h4] at this
      unfold gr
      rw [this]
      show (0 : Int) + ((i.toNat : Nat) : Int) = i
      omega
    refine Round.yes (decide_eq_true h3) (Round.at hv.idx (Round.bind hA (Round.ite (fun hc => ?_) (fun hc => ?_))))
    · have hc : siz v > (gr (l.take i.toNat)).2.1 := of_decide_eq_true hc
      refine Round.bind hA (Round.again _ ⟨(), ?_, trivial⟩)
      rw [hv.take, gr_snoc, wr_succ h2 h3 (by omega)]
      unfold grS
      rw [if_pos hc, hn]
    · have hc : ¬ siz v > (gr (l.take i.toNat)).2.1 := by simpa using hc
      refine Round.again _ ⟨(), ?_, trivial⟩
      rw [hv.take, gr_snoc, wr_succ h2 h3 (by omega)]
      unfold grS
      rw [if_neg hc]
  · intro _ _
    simp only [take_all]
    exact Round.no (by simp) (Round.done (Evt.some _))
/- impl.SteepestOf -/
theorem e22 {c : List Int} (hr : Rng c) (ok : okC c = true) : Evt (fun n => call T C n 22 (c, ())) (((gr (chgL c)).1, (gr (chgL c)).2.1, 0, ()), ()) := by
  have hl := okC_len ok
  have hC := okC_el ok hr
  have hv := e89 c (by omega)
  rw [ok] at hv
  have hN := e101 hr (by omega) (by omega)
  have hG := e100 (l := chgL c) (by rw [chgL_len]; omega) (fun v hv => by
    obtain ⟨x, rfl⟩ := chgL_mem hv
    have := hC _ (cAt_mem (show 0 < c.length by omega) x)
    have := hC _ (cAt_mem (show 0 < c.length by omega) (x + 1))
    omega)
  refine Evt.next ?_ (fun n => r22 n c)
  exact Evt.bind hv (Evt.no (by simp) (Evt.bind hN (Evt.bind hG (Evt.some _))))
/- impl.kindOf -/
theorem e171 (x : Int) : Evt (fun n => call T C n 171 (x, ())) ((kdOf x, ()), ()) := by
  refine Evt.next ?_ (fun n => r171 n x)
  unfold kdOf
  refine Evt.ite (fun h => ?_) (fun h => ?_)
  · rw [if_pos (of_decide_eq_true h)]; exact Evt.some _
  have h : ¬ x > 0 := by simpa using h
  rw [if_neg h]
  refine Evt.ite (fun h => ?_) (fun h => ?_)
  · rw [if_pos (of_decide_eq_true h)]; exact Evt.some _
  · rw [if_neg (by simpa using h)]; exact Evt.some _
/- (impl.Cam).runs$1 -/
theorem e170 {c : List Int} (hr : Rng c) (h0 : 0 < c.length) (h1 : c.length ≤ 1000) {x : Int} (x0 : -1000000 ≤ x) (x1 : x ≤ 1000000) : Evt (fun n => call T C n 170 (x, c, ())) ((kd c x, ()), (c, ())) := Evt.next (Evt.bind (e102 hr h0 h1 x0 x1) (Evt.bind (e171 _) (Evt.some ((kd c x, ()), (c, ()))))) (fun n => r170 n x c)
/- (impl.Cam).runs -/
theorem e103 {c : List Int} (hr : Rng c) (h0 : 0 < c.length) (h1 : c.length ≤ 1000) : Evt (fun n => call T C n 103 (c, ())) ((runsP c, ()), ()) := by
  obtain ⟨k1, k2, k3⟩ := bk_spec c
  have hwn : wr .i64 (0 - (c.length : Int)) = -(c.length : Int) := by rw [wrap_id (by omega) (by omega)]; omega
  have hK := fun (x : Int) (x0 : -1000000 ≤ x) (x1 : x ≤ 1000000) => e170 (x := x) hr h0 h1 x0 x1
  refine Evt.next (Evt.bind (e79 c) ?_) (fun n => r103 n c)
  have main : bk c ≠ c.length → ∀ f : Nat → (Int × (Unit × (List Int × Unit)) × Int × List Ct × Int × Unit) → ((Int × (Unit × (List Int × Unit)) × Int × List Ct × Int × Unit) → Option ((List Ct × Unit) × Unit)) → Option ((List Ct × Unit) × Unit), f = (fun n x again => if decide (x.2.2.2.2.1 < wr .i64 (x.2.2.1 + x.1)) = true then loopK (fun (x27 : Int × (Unit × ((List Int) × Unit)) × Int × (List (Int × (Int × (Int × Unit)))) × Int × Int × Unit) again28 => 
    (if (decide (x27.2.2.2.2.2.1 < (wr .i64 (x27.2.2.1 + x27.1)))) = true then (
   call T C n 170 (x27.2.2.2.2.2.1, x27.2.1.2.1, ())).bind fun r31 => (
   call T C n 170 (x27.2.2.2.2.1, r31.2.1, ())).bind fun r32 => 
    (if (bif true then (r31.1.1 == r32.1.1) else false) = true then again28 (x27.1, ((), (r32.2.1, ())), x27.2.2.1, x27.2.2.2.1, x27.2.2.2.2.1, (wr .i64 (x27.2.2.2.2.2.1 + (1 : Int))), ()) else (
   call T C n 170 (x27.2.2.2.2.1, r32.2.1, ())).bind fun r33 => (
   call T C n 154 (x27.2.2.2.2.1, x27.1, ())).bind fun r34 => chk (decide ((x27.2.2.2.1.length + ([(r33.1.1, ((wr .i16 r34.1.1), ((wr .i16 (wr .i64 (x27.2.2.2.2.2.1 - x27.2.2.2.2.1))), ())))] : (List (Int × (Int × (Int × Unit))))).length) * 6 ≤ 140737488355328)) (again (x27.1, ((), (r33.2.1, ())), x27.2.2.1, (x27.2.2.2.1 ++ ([(r33.1.1, ((wr .i16 r34.1.1), ((wr .i16 (wr .i64 (x27.2.2.2.2.2.1 - x27.2.2.2.2.1))), ())))] : (List (Int × (Int × (Int × Unit)))))), x27.2.2.2.2.2.1, ()))) else (
   call T C n 170 (x27.2.2.2.2.1, x27.2.1.2.1, ())).bind fun r35 => (
   call T C n 154 (x27.2.2.2.2.1, x27.1, ())).bind fun r36 => chk (decide ((x27.2.2.2.1.length + ([(r35.1.1, ((wr .i16 r36.1.1), ((wr .i16 (wr .i64 (x27.2.2.2.2.2.1 - x27.2.2.2.2.1))), ())))] : (List (Int × (Int × (Int × Unit))))).length) * 6 ≤ 140737488355328)) (again (x27.1, ((), (r35.2.1, ())), x27.2.2.1, (x27.2.2.2.1 ++ ([(r35.1.1, ((wr .i16 r36.1.1), ((wr .i16 (wr .i64 (x27.2.2.2.2.2.1 - x27.2.2.2.2.1))), ())))] : (List (Int × (Int × (Int × Unit)))))), x27.2.2.2.2.2.1, ())))) n (x.1, ((), (x.2.1.2.1, ())), x.2.2.1, x.2.2.2.1, x.2.2.2.2.1, x.2.2.2.2.1, ()) else some ((x.2.2.2.1, ()), ())) →
      Evt (fun n => loopK (f n) n ((c.length : Int), ((), (c, ())), -(bk c : Int), [], -(bk c : Int), ())) ((runsP c, ()), ()) := by
    intro hne f hf
    subst hf
    have hrp : runsP c = rs c (-(bk c : Int)) c.length := by unfold runsP; rw [if_neg hne]
    rw [hrp]
    refine loop_evt (fun x => ∃ (done : List Ct) (left : Nat), left ≤ c.length ∧ x = ((c.length : Int), ((), (c, ())), -(bk c : Int), done, -(bk c : Int) + (c.length : Int) - left, ()) ∧ done ++ rs c (-(bk c : Int) + (c.length : Int) - left) left = rs c (-(bk c : Int)) c.length ∧ done.length ≤ c.length - left) (fun x => (-(bk c : Int) + (c.length : Int) - x.2.2.2.2.1).toNat) ⟨[], c.length, Nat.le_refl _, by simp, by simp, by simp⟩ ?_
    rintro x ⟨done, left, hl, rfl, hd, hdl⟩
    have hw1 : wr .i64 (-(bk c : Int) + (c.length : Int)) = -(bk c : Int) + (c.length : Int) := wrap_id (by omega) (by omega)
    by_cases hz : left = 0
    · subst hz
      rw [rs_zero, List.append_nil] at hd
      rw [← hd]
      exact Round.no (by simp [hw1]) (Round.done (Evt.some _))
    obtain ⟨r1, r2, r3, r4⟩ := rl_spec (kd c) (-(bk c : Int) + (c.length : Int) - left) (left := left) (by omega)
    obtain ⟨s, hs⟩ : ∃ s : Int, s = -(bk c : Int) + (c.length : Int) - left := ⟨_, rfl⟩
    rw [← hs] at r1 r2 r3 r4 hd ⊢
    obtain ⟨m, hm⟩ : ∃ m : Nat, m = rl (kd c) s left := ⟨_, rfl⟩
    rw [← hm] at r1 r2 r3 r4
    have hrs : rs c s left = (kd c s, s % c.length, (m : Int), ()) :: rs c (s + (m : Nat)) (left - m) := by rw [rs_pos c s (by omega), ← hm]
    rw [hrs] at hd
    have hmd := Int.emod_nonneg s (show (c.length : Int) ≠ 0 by omega)
    have hme := Int.emod_lt_of_pos s (show 0 < (c.length : Int) by omega)
    have hnext : ∀ d, d = done ++ [(kd c s, s % c.length, (m : Int), ())] → ∃ (done' : List Ct) (left' : Nat), left' ≤ c.length ∧ (((c.length : Int), ((), (c, ())), -(bk c : Int), d, s + m, ()) : Int × (Unit × (List Int × Unit)) × Int × List Ct × Int × Unit) = ((c.length : Int), ((), (c, ())), -(bk c : Int), done', -(bk c : Int) + (c.length : Int) - left', ()) ∧ done' ++ rs c (-(bk c : Int) + (c.length : Int) - left') left' = rs c (-(bk c : Int)) c.length ∧ done'.length ≤ c.length - left' := fun d hd' => ⟨d, left - m, by omega, by rw [hs, show -(bk c : Int) + (c.length : Int) - left + m = -(bk c : Int) + (c.length : Int) - ((left - m : Nat) : Int) by omega], by rw [hd', show -(bk c : Int) + (c.length : Int) - ((left - m : Nat) : Int) = s + (m : Nat) by omega, List.append_assoc]; exact hd, by rw [hd', List.length_append, List.length_singleton]; omega⟩
    refine Round.yes (decide_eq_true (show s < wr .i64 (-(bk c : Int) + (c.length : Int)) by rw [hw1]; omega)) ?_
    refine loop_round (fun y => ∃ j : Nat, j ≤ m ∧ y = ((c.length : Int), ((), (c, ())), -(bk c : Int), done, s, s + (j : Int), ())) (fun y => (s + m - y.2.2.2.2.2.1).toNat) ⟨0, by omega, by simp⟩ ?_
    rintro y ⟨j, hj, rfl⟩
    have e16 : wr .i16 (s % (c.length : Int)) = s % c.length := wrap16 (by omega) (by omega)
    have em : wr .i16 (wr .i64 (s + (m : Int) - s)) = (m : Int) := by rw [show s + (m : Int) - s = m by omega, wrap_id (by omega) (by omega), wrap16 (by omega) (by omega)]
    show Round (fun n ag => if decide (s + (j : Int) < wr .i64 (-(bk c : Int) + (c.length : Int))) = true then _ else _) _ _
    rw [hw1]
    have stop : j = m → ∀ z : (Int × (Unit × (List Int × Unit)) × Int × List Ct × Int × Unit) ⊕ (Int × (Unit × (List Int × Unit)) × Int × List Ct × Int × Int × Unit), z = Sum.inl ((c.length : Int), ((), (c, ())), -(bk c : Int), done ++ [(kd c s, wr .i16 (s % (c.length : Int)), wr .i16 (wr .i64 (s + (j : Int) - s)), ())], s + (j : Int), ()) → (match z with
        | .inl s_1 => (∃ (done' : List Ct) (left' : Nat), left' ≤ c.length ∧ s_1 = ((c.length : Int), ((), (c, ())), -(bk c : Int), done', -(bk c : Int) + (c.length : Int) - left', ()) ∧ done' ++ rs c (-(bk c : Int) + (c.length : Int) - left') left' = rs c (-(bk c : Int)) c.length ∧ done'.length ≤ c.length - left') ∧ (-(bk c : Int) + (c.length : Int) - s_1.2.2.2.2.1).toNat < (-(bk c : Int) + (c.length : Int) - ((((c.length : Int), ((), (c, ())), -(bk c : Int), done, s, ()) : Int × (Unit × (List Int × Unit)) × Int × List Ct × Int × Unit)).2.2.2.2.1).toNat
        | .inr t => (∃ j' : Nat, j' ≤ m ∧ t = ((c.length : Int), ((), (c, ())), -(bk c : Int), done, s, s + (j' : Int), ())) ∧ (s + m - t.2.2.2.2.2.1).toNat < (s + m - (s + (j : Int))).toNat) := by
      intro hjm z hz
      subst hz
      subst hjm
      refine ⟨?_, ?_⟩
      · rw [e16, em]; exact hnext _ rfl
      · show (-(bk c : Int) + (c.length : Int) - (s + (j : Int))).toNat < (-(bk c : Int) + (c.length : Int) - s).toNat
        omega
    refine Round.ite (fun hc => ?_) (fun hc => ?_)
    · have hc : s + (j : Int) < -(bk c : Int) + (c.length : Int) := of_decide_eq_true hc
      refine Round.bind (hK (s + (j : Int)) (by omega) (by omega)) (Round.bind (hK s (by omega) (by omega)) (Round.ite (fun hq => ?_) (fun hq => ?_)))
      · have hq : kd c (s + j) = kd c s := by simpa using hq
        have hjm : j < m := by
          by_cases e : j = m
          · subst e; exact absurd hq (r4 (by omega))
          · omega
        rw [wrap_id (x := s + (j : Int) + 1) (by omega) (by omega)]
        exact Round.inr _ ⟨⟨j + 1, by omega, by rw [show s + (j : Int) + 1 = s + ((j + 1 : Nat) : Int) by omega]⟩, by show (s + m - (s + (j : Int) + 1)).toNat < (s + m - (s + (j : Int))).toNat; omega⟩
      · have hq : kd c (s + j) ≠ kd c s := by simpa using hq
        have hjm : j = m := by
          by_cases e : j < m
          · exact absurd (r3 j e) hq
          · omega
        exact Round.bind (hK s (by omega) (by omega)) (Round.bind (e154 (a := s) (b := (c.length : Int)) (by omega) (by omega) (by omega) (by omega)) (Round.chk (decide_eq_true (by simp; omega)) (Round.again _ (stop hjm _ rfl))))
    · have hc : ¬ s + (j : Int) < -(bk c : Int) + (c.length : Int) := by simpa using hc
      have hjm : j = m := by omega
      exact Round.bind (hK s (by omega) (by omega)) (Round.bind (e154 (a := s) (b := (c.length : Int)) (by omega) (by omega) (by omega) (by omega)) (Round.chk (decide_eq_true (by simp; omega)) (Round.again _ (stop hjm _ rfl))))
  refine loop_evt (fun x => ∃ b : Nat, b ≤ bk c ∧ x = ((c.length : Int), ((), (c, ())), -(b : Int), ())) (fun x => ((bk c : Int) + x.2.2.1).toNat) ⟨0, by omega, by simp⟩ ?_
  rintro x ⟨b, hb, rfl⟩
  show Round (fun n ag => if decide (-(b : Int) > wr .i64 (0 - (c.length : Int))) = true then _ else _) _ _
  have hlt : ∀ hx : b < c.length, decide (-(b : Int) > wr .i64 (0 - (c.length : Int))) = true := fun hx => decide_eq_true (by rw [hwn]; omega)
  have hb1 : b < c.length → wr .i64 (-(b : Int) - 1) = -(b : Int) - 1 := fun hx => wrap_id (by omega) (by omega)
  by_cases e : b = c.length
  · have hbc : bk c = c.length := by omega
    have hrp : runsP c = [(kd c 0, 0, (c.length : Int), ())] := by unfold runsP; rw [if_pos hbc]
    rw [hrp]
    refine Round.no (by rw [hwn]; simp; omega) (Round.yes (by rw [hwn]; simp; omega) (Round.done (Evt.bind (hK 0 (by omega) (by omega)) ((Evt.some _).of_eq fun n => ?_))))
    rw [wrap16 (x := (c.length : Int)) (by omega) (by omega)]
    rfl
  · refine Round.yes (hlt (by omega)) ?_
    show Round (fun n ag => (call T C n 170 (wr .i64 (-(b : Int) - 1), c, ())).bind _) _ _
    rw [hb1 (by omega)]
    refine Round.bind (hK _ (by omega) (by omega)) (Round.bind (hK 0 (by omega) (by omega)) (Round.ite (fun hq => ?_) (fun hq => ?_)))
    · have hq : kd c (-(b : Int) - 1) = kd c 0 := by simpa using hq
      have hbb : b < bk c := by
        by_cases e2 : b = bk c
        · subst e2; exact absurd hq (k3 (by omega))
        · omega
      exact Round.again _ ⟨⟨b + 1, by omega, by rw [show -(b : Int) - 1 = -((b + 1 : Nat) : Int) by omega]⟩, by show ((bk c : Int) + (-(b : Int) - 1)).toNat < ((bk c : Int) + -(b : Int)).toNat; omega⟩
    · have hq : kd c (-(b : Int) - 1) ≠ kd c 0 := by simpa using hq
      have hbb : b = bk c := by
        by_cases e2 : b < bk c
        · exact absurd (k2 b e2) hq
        · omega
      subst hbb
      refine Round.no (by rw [hwn]; simp; omega) (Round.done ?_)
      exact main e _ rfl
/- impl.RunsOf -/
theorem e23 {c : List Int} (hr : Rng c) (ok : okC c = true) : Evt (fun n => call T C n 23 (c, ())) ((runsP c, 0, ()), ()) := by
  have hl := okC_len ok
  have hC := okC_el ok hr
  have hv := e89 c (by omega)
  rw [ok] at hv
  refine Evt.next ?_ (fun n => r23 n c)
  exact Evt.bind hv (Evt.no (by simp) (Evt.bind (e103 hr (by omega) (by omega)) (Evt.some _)))
/- spec.l01Changes -/
theorem e105 {c : List Int} (hr : Rng c) (h0 : 0 < c.length) (h1 : c.length ≤ 1000) : Evt (fun n => call T C n 105 (c, ())) ((chgL c, ()), ()) := by
  refine Evt.next ?_ (fun n => r105 n c)
  refine for_evt' 0 (c.length : Int) (fun i (_ : Unit) => (c, (List.range i.toNat).map (fun i => cAt c ((i : Nat) + 1) - cAt c (i : Nat)), i, ())) (fun _ _ => True) (b0 := ()) rfl (by omega) trivial ?_ ?_
  · intro i _ h2 h3 _
    have b1 := hr.el _ (cAt_mem h0 (i + 1))
    have b2 := hr.el _ (cAt_mem h0 i)
    simp only [wr_succ h2 h3 (by omega)]
    refine Round.yes (decide_eq_true h3) (Round.bind (e98' hr (by omega) (by omega) (by omega) (by omega)) (Round.bind (e98' hr (by omega) (by omega) (by omega) (by omega)) (Round.chk (decide_eq_true (by simp; omega)) (Round.again _ ⟨(), ?_, trivial⟩))))
    show (c, _ ++ [wr .i64 (cAt c (i + 1) - cAt c i)], i + 1, ()) = _
    rw [wrap_id (x := cAt c (i + 1) - cAt c i) (by omega) (by omega), show (i + 1).toNat = i.toNat + 1 by omega, List.range_succ, List.map_append]
    simp [show ((i.toNat : Nat) : Int) = i by omega]
  · intro _ _
    exact Round.no (by simp) (Round.done (Evt.some ((chgL c, ()), ())))
/- spec.l01Kind -/
theorem e172 (x : Int) : Evt (fun n => call T C n 172 (x, ())) ((kdOf x, ()), ()) := by
  refine Evt.next ?_ (fun n => r172 n x)
  unfold kdOf
  refine Evt.ite (fun h => ?_) (fun h => ?_)
  · rw [if_pos (of_decide_eq_true h)]; exact Evt.some _
  have h : ¬ x > 0 := by simpa using h
  rw [if_neg h]
  refine Evt.ite (fun h => ?_) (fun h => ?_)
  · rw [if_pos (of_decide_eq_true h)]; exact Evt.some _
  · rw [if_neg (by simpa using h)]; exact Evt.some _
/- spec.l01Runs -/
theorem e104 {c : List Int} (hr : Rng c) (h0 : 0 < c.length) (h1 : c.length ≤ 1000) : Evt (fun n => call T C n 104 (c, ())) ((runsP c, ()), ()) := by
  have hcl := chgL_len c
  have hN : ∀ x : Int, 0 ≤ x → Int.tmod x (c.length : Int) = x % c.length := fun x hx => Int.tmod_eq_emod_of_nonneg hx
  have hA : ∀ x : Int, 0 ≤ x → idx (chgL c) (Int.tmod x (c.length : Int)) = some (cAt c (x + 1) - cAt c x) := fun x hx => by rw [hN x hx]; exact (chgL_at h0 x).idx
  refine Evt.next (Evt.bind (e105 hr h0 h1) ?_) (fun n => r104 n c)
  have main : ∀ s0 : Int, 0 ≤ s0 → s0 ≤ 1000 → rs c s0 c.length = specRuns c → Evt (fun n => loopK (fun (x24 : (List Int) × Int × (List (Int × (Int × (Int × Unit)))) × Int × Int × Unit) again25 => 
    (if (decide (x24.2.2.2.2.1 > (0 : Int))) = true then 
  loopK (fun (x27 : (List Int) × Int × (List (Int × (Int × (Int × Unit)))) × Int × Int × Int × Unit) again28 => 
    (if (decide (x27.2.2.2.2.2.1 < x27.2.2.2.2.1)) = true then chk (x27.2.1 != 0) ((idx x27.1 (Int.tmod (wr .i64 (x27.2.2.2.1 + x27.2.2.2.2.2.1)) x27.2.1)).bind fun v30 => (
   call T C n 172 (v30, ())).bind fun r31 => chk (x27.2.1 != 0) ((idx x27.1 (Int.tmod x27.2.2.2.1 x27.2.1)).bind fun v32 => (
   call T C n 172 (v32, ())).bind fun r33 => 
    (if (bif true then (r31.1.1 == r33.1.1) else false) = true then again28 (x27.1, x27.2.1, x27.2.2.1, x27.2.2.2.1, x27.2.2.2.2.1, (wr .i64 (x27.2.2.2.2.2.1 + (1 : Int))), ()) else chk (x27.2.1 != 0) ((idx x27.1 (Int.tmod x27.2.2.2.1 x27.2.1)).bind fun v34 => (
   call T C n 172 (v34, ())).bind fun r35 => chk (x27.2.1 != 0) (chk (decide ((x27.2.2.1.length + ([(r35.1.1, ((wr .i16 (Int.tmod x27.2.2.2.1 x27.2.1)), ((wr .i16 x27.2.2.2.2.2.1), ())))] : (List (Int × (Int × (Int × Unit))))).length) * 6 ≤ 140737488355328)) (again25 (x27.1, x27.2.1, (x27.2.2.1 ++ ([(r35.1.1, ((wr .i16 (Int.tmod x27.2.2.2.1 x27.2.1)), ((wr .i16 x27.2.2.2.2.2.1), ())))] : (List (Int × (Int × (Int × Unit)))))), (wr .i64 (x27.2.2.2.1 + x27.2.2.2.2.2.1)), (wr .i64 (x27.2.2.2.2.1 - x27.2.2.2.2.2.1)), ()))))))) else chk (x27.2.1 != 0) ((idx x27.1 (Int.tmod x27.2.2.2.1 x27.2.1)).bind fun v36 => (
   call T C n 172 (v36, ())).bind fun r37 => chk (x27.2.1 != 0) (chk (decide ((x27.2.2.1.length + ([(r37.1.1, ((wr .i16 (Int.tmod x27.2.2.2.1 x27.2.1)), ((wr .i16 x27.2.2.2.2.2.1), ())))] : (List (Int × (Int × (Int × Unit))))).length) * 6 ≤ 140737488355328)) (again25 (x27.1, x27.2.1, (x27.2.2.1 ++ ([(r37.1.1, ((wr .i16 (Int.tmod x27.2.2.2.1 x27.2.1)), ((wr .i16 x27.2.2.2.2.2.1), ())))] : (List (Int × (Int × (Int × Unit)))))), (wr .i64 (x27.2.2.2.1 + x27.2.2.2.2.2.1)), (wr .i64 (x27.2.2.2.2.1 - x27.2.2.2.2.2.1)), ())))))) n (x24.1, x24.2.1, x24.2.2.1, x24.2.2.2.1, x24.2.2.2.2.1, (1 : Int), ()) else 
    (if ((x24.2.2.1.length : Int) == (1 : Int)) = true then chk (decide (0 ≤ (0 : Int) ∧ (0 : Int) < (x24.2.2.1.length : Int))) ((x24.2.2.1[(Int.toNat (0 : Int))]?).bind fun v38 => some (((x24.2.2.1.set (Int.toNat (0 : Int)) (v38.1, ((0 : Int), v38.2.2))), ()), (()))) else some ((x24.2.2.1, ()), (()))))) n (chgL c, (c.length : Int), ([] : List Ct), s0, (c.length : Int), ())) ((runsP c, ()), ()) := by
    intro s0 s00 s01 hs0
    refine loop_evt (fun x => ∃ (done : List Ct) (left : Nat), left ≤ c.length ∧ x = (chgL c, (c.length : Int), done, s0 + (c.length : Int) - left, (left : Int), ()) ∧ done ++ rs c (s0 + (c.length : Int) - left) left = specRuns c ∧ done.length ≤ c.length - left) (fun x => x.2.2.2.2.1.toNat) ⟨[], c.length, Nat.le_refl _, by simp, by simpa using hs0, by simp⟩ ?_
    rintro x ⟨done, left, hl, rfl, hd, hdl⟩
    by_cases hz : left = 0
    · subst hz
      rw [rs_zero, List.append_nil] at hd
      rw [← spec_runs h0, ← hd]
      refine Round.no (by simp) (Round.ite (fun h => ?_) (fun h => ?_))
      · have h : done.length = 1 := by
          have h : (done.length : Int) = 1 := by simpa using h
          omega
        obtain ⟨v, rfl⟩ : ∃ v, done = [v] := List.length_eq_one_iff.1 h
        exact Round.chk rfl (Round.at (v := v) rfl (Round.done (Evt.some _)))
      · have h : done.length ≠ 1 := by
          have h : ¬ (done.length : Int) = 1 := by simpa using h
          omega
        have : fixOne done = done := by
          match done, h with
          | [], _ => rfl
          | [_], h => exact absurd rfl h
          | _ :: _ :: _, _ => rfl
        rw [this]
        exact Round.done (Evt.some _)
    obtain ⟨r1, r2, r3, r4⟩ := rl_spec (kd c) (s0 + (c.length : Int) - left) (left := left) (by omega)
    obtain ⟨s, hs⟩ : ∃ s : Int, s = s0 + (c.length : Int) - left := ⟨_, rfl⟩
    rw [← hs] at r1 r2 r3 r4 hd ⊢
    obtain ⟨m, hm⟩ : ∃ m : Nat, m = rl (kd c) s left := ⟨_, rfl⟩
    rw [← hm] at r1 r2 r3 r4
    have hrs : rs c s left = (kd c s, s % c.length, (m : Int), ()) :: rs c (s + (m : Nat)) (left - m) := by rw [rs_pos c s (by omega), ← hm]
    rw [hrs] at hd
    have hmd := Int.emod_nonneg s (show (c.length : Int) ≠ 0 by omega)
    have hme := Int.emod_lt_of_pos s (show 0 < (c.length : Int) by omega)
    have hse : Int.tmod s (c.length : Int) = s % c.length := hN s (by omega)
    refine Round.yes (decide_eq_true (show (left : Int) > 0 by omega)) ?_
    refine loop_round (fun y => ∃ j : Nat, 1 ≤ j ∧ j ≤ m ∧ y = (chgL c, (c.length : Int), done, s, (left : Int), (j : Int), ())) (fun y => (m - y.2.2.2.2.2.1).toNat) ⟨1, by omega, by omega, rfl⟩ ?_
    rintro y ⟨j, hj1, hj, rfl⟩
    have e16 : wr .i16 (s % (c.length : Int)) = s % c.length := wrap16 (by omega) (by omega)
    have ej : wr .i16 (j : Int) = j := wrap16 (by omega) (by omega)
    have esj : wr .i64 (s + (j : Int)) = s + j := wrap_id (by omega) (by omega)
    have elj : wr .i64 ((left : Int) - (j : Int)) = (left : Int) - j := wrap_id (by omega) (by omega)
    have ej1 : wr .i64 ((j : Int) + 1) = ((j + 1 : Nat) : Int) := by rw [wrap_id (by omega) (by omega)]; omega
    have bn : ((c.length : Int) != 0) = true := bne_pos (by omega)
    have stop : j = m → ∀ e : Int, e = s + (j : Int) → ∀ z : (List Int × Int × List Ct × Int × Int × Unit) ⊕ (List Int × Int × List Ct × Int × Int × Int × Unit), z = Sum.inl (chgL c, (c.length : Int), done ++ [(kdOf (cAt c (s + 1) - cAt c s), wr .i16 (Int.tmod s (c.length : Int)), wr .i16 (j : Int), ())], e, wr .i64 ((left : Int) - (j : Int)), ()) → (match z with
        | .inl s_1 => (∃ (done' : List Ct) (left' : Nat), left' ≤ c.length ∧ s_1 = (chgL c, (c.length : Int), done', s0 + (c.length : Int) - left', (left' : Int), ()) ∧ done' ++ rs c (s0 + (c.length : Int) - left') left' = specRuns c ∧ done'.length ≤ c.length - left') ∧ s_1.2.2.2.2.1.toNat < (((chgL c, (c.length : Int), done, s, (left : Int), ()) : List Int × Int × List Ct × Int × Int × Unit)).2.2.2.2.1.toNat
        | .inr t => (∃ j' : Nat, 1 ≤ j' ∧ j' ≤ m ∧ t = (chgL c, (c.length : Int), done, s, (left : Int), (j' : Int), ())) ∧ (m - t.2.2.2.2.2.1).toNat < ((m : Int) - (j : Int)).toNat) := by
      intro hjm e he z hz
      subst hz
      subst hjm
      refine ⟨⟨done ++ [(kd c s, s % c.length, (j : Int), ())], left - j, by omega, ?_, ?_, ?_⟩, ?_⟩
      · show (chgL c, (c.length : Int), done ++ [(kd c s, wr .i16 (Int.tmod s (c.length : Int)), wr .i16 (j : Int), ())], e, wr .i64 ((left : Int) - (j : Int)), ()) = _
        rw [hse, e16, ej, he, elj, show s + (j : Int) = s0 + (c.length : Int) - ((left - j : Nat) : Int) by omega, show (left : Int) - (j : Int) = ((left - j : Nat) : Int) by omega]
      · rw [show s0 + (c.length : Int) - ((left - j : Nat) : Int) = s + (j : Nat) by omega, List.append_assoc]; exact hd
      · rw [List.length_append, List.length_singleton]; omega
      · show (wr .i64 ((left : Int) - (j : Int))).toNat < (left : Int).toNat
        rw [elj]; omega
    show Round (fun n ag => if decide ((j : Int) < (left : Int)) = true then _ else _) _ _
    refine Round.ite (fun hc => ?_) (fun hc => ?_)
    · have hc : (j : Int) < (left : Int) := of_decide_eq_true hc
      refine Round.chk bn ?_
      show Round (fun n ag => (idx (chgL c) (Int.tmod (wr .i64 (s + (j : Int))) (c.length : Int))).bind _) _ _
      rw [esj]
      refine Round.at (hA _ (by omega)) (Round.bind (e172 _) (Round.chk bn (Round.at (hA s (by omega)) (Round.bind (e172 _) (Round.ite (fun hq => ?_) (fun hq => ?_))))))
      · have hq : kd c (s + j) = kd c s := by
          have : kdOf (cAt c (s + j + 1) - cAt c (s + j)) = kdOf (cAt c (s + 1) - cAt c s) := by simpa using hq
          exact this
        have hjm : j < m := by
          by_cases e : j = m
          · subst e; exact absurd hq (r4 (by omega))
          · omega
        show Round (fun n ag => ag (Sum.inr (chgL c, (c.length : Int), done, s, (left : Int), wr .i64 ((j : Int) + 1), ()))) _ _
        rw [ej1]
        exact Round.inr _ ⟨⟨j + 1, by omega, by omega, rfl⟩, by show ((m : Int) - ((j + 1 : Nat) : Int)).toNat < ((m : Int) - (j : Int)).toNat; omega⟩
      · have hq : kd c (s + j) ≠ kd c s := by
          have : ¬ kdOf (cAt c (s + j + 1) - cAt c (s + j)) = kdOf (cAt c (s + 1) - cAt c s) := by simpa using hq
          exact this
        have hjm : j = m := by
          by_cases e : j < m
          · exact absurd (r3 j e) hq
          · omega
        exact Round.chk bn (Round.at (hA s (by omega)) (Round.bind (e172 _) (Round.chk bn (Round.chk (decide_eq_true (by simp; omega)) (Round.again _ (stop hjm _ rfl _ rfl))))))
    · have hc : ¬ (j : Int) < (left : Int) := by simpa using hc
      have hjm : j = m := by omega
      exact Round.chk bn (Round.at (hA s (by omega)) (Round.bind (e172 _) (Round.chk bn (Round.chk (decide_eq_true (by simp; omega)) (Round.again _ (stop hjm _ esj _ rfl))))))
  obtain ⟨B, hB⟩ : ∃ B, B = bkF (kd c) (c.length - 1) 0 := ⟨_, rfl⟩
  obtain ⟨_, b2, b3, b4⟩ := bkF_spec (kd c) (c.length - 1) 0 (fun i hi => by omega)
  rw [← hB] at b2 b3 b4
  have hfin : ∀ b : Nat, b = B → rs c (if b = 0 then 0 else (c.length : Int) - b) c.length = specRuns c := fun b hb => by unfold specRuns; rw [← hB, hb]
  have hsB : ∀ b : Nat, b < c.length → 0 ≤ (if b = 0 then 0 else (c.length : Int) - b) ∧ (if b = 0 then 0 else (c.length : Int) - b) ≤ 1000 := fun b hb => by split <;> omega
  refine loop_evt (fun x => ∃ b : Nat, b ≤ B ∧ x = (chgL c, (c.length : Int), (if b = 0 then 0 else (c.length : Int) - b), (b : Int), ())) (fun x => ((B : Int) - x.2.2.2.1).toNat) ⟨0, by omega, by simp [hcl]⟩ ?_
  rintro x ⟨b, hb, rfl⟩
  have w1 : wr .i64 ((c.length : Int) - 1) = (c.length : Int) - 1 := wrap_id (by omega) (by omega)
  have w2 : wr .i64 ((c.length : Int) - 1 - (b : Int)) = (c.length : Int) - 1 - b := wrap_id (by omega) (by omega)
  have w3 : wr .i64 ((b : Int) + 1) = (b : Int) + 1 := wrap_id (by omega) (by omega)
  have bn : ((c.length : Int) != 0) = true := bne_pos (by omega)
  show Round (fun n ag => if decide ((b : Int) < wr .i64 ((c.length : Int) - 1)) = true then _ else _) _ _
  refine Round.ite (fun hc => ?_) (fun hc => ?_)
  · have hc : (b : Int) < (c.length : Int) - 1 := by
      have := of_decide_eq_true hc
      rw [w1] at this; exact this
    refine Round.chk bn ?_
    show Round (fun n ag => (idx (chgL c) (Int.tmod (wr .i64 (wr .i64 ((c.length : Int) - 1) - (b : Int))) (c.length : Int))).bind _) _ _
    rw [w1, w2]
    have hk1 : kdOf (cAt c ((c.length : Int) - 1 - b + 1) - cAt c ((c.length : Int) - 1 - b)) = kd c (-(b : Int) - 1) := by
      show kd c ((c.length : Int) - 1 - b) = _
      rw [show (c.length : Int) - 1 - (b : Int) = -(b : Int) - 1 + c.length by omega, kd_add]
    have h00 : idx (chgL c) 0 = some (cAt c (0 + 1) - cAt c 0) := by have := hA 0 (Int.le_refl _); simpa using this
    refine Round.at (hA _ (by omega)) (Round.bind (e172 _) (Round.at h00 (Round.bind (e172 _) (Round.ite (fun hq => ?_) (fun hq => ?_)))))
    · have hq : kd c (-(b : Int) - 1) = kd c 0 := by
        have : kdOf (cAt c ((c.length : Int) - 1 - b + 1) - cAt c ((c.length : Int) - 1 - b)) = kdOf (cAt c (0 + 1) - cAt c 0) := by simpa using hq
        rw [hk1] at this; exact this
      have hbb : b < B := by
        by_cases e2 : b = B
        · subst e2; exact absurd hq (b4 (by omega))
        · omega
      refine Round.again _ ⟨⟨b + 1, by omega, ?_⟩, ?_⟩
      · rw [w3, if_neg (show ¬ b + 1 = 0 by omega), show (c.length : Int) - 1 - (b : Int) = (c.length : Int) - ((b + 1 : Nat) : Int) by omega]
        rfl
      · show ((B : Int) - wr .i64 ((b : Int) + 1)).toNat < ((B : Int) - (b : Int)).toNat
        rw [w3]; omega
    · have hq : kd c (-(b : Int) - 1) ≠ kd c 0 := by
        have : ¬ kdOf (cAt c ((c.length : Int) - 1 - b + 1) - cAt c ((c.length : Int) - 1 - b)) = kdOf (cAt c (0 + 1) - cAt c 0) := by simpa using hq
        rw [hk1] at this; exact this
      have hbb : b = B := by
        by_cases e2 : b < B
        · exact absurd (b3 b e2) hq
        · omega
      exact Round.done (main _ (hsB b (by omega)).1 (hsB b (by omega)).2 (hfin b hbb))
  · have hc : ¬ (b : Int) < (c.length : Int) - 1 := by
      have : ¬ (b : Int) < wr .i64 ((c.length : Int) - 1) := by simpa using hc
      rw [w1] at this; exact this
    exact Round.done (main _ (hsB b (by omega)).1 (hsB b (by omega)).2 (hfin b (by omega)))
/- spec.RunsOf -/
theorem e24 {c : List Int} (hr : Rng c) (ok : okC c = true) : Evt (fun n => call T C n 24 (c, ())) ((runsP c, 0, ()), ()) := by
  have hl := okC_len ok
  have hC := okC_el ok hr
  have hv := e95 c (by omega)
  rw [ok] at hv
  refine Evt.next ?_ (fun n => r24 n c)
  exact Evt.bind hv (Evt.no (by simp) (Evt.bind (e104 hr (by omega) (by omega)) (Evt.some _)))
/- spec.ChangesOf -/
theorem e25 {c : List Int} (hr : Rng c) (ok : okC c = true) : Evt (fun n => call T C n 25 (c, ())) ((chgL c, 0, ()), ()) := by
  have hl := okC_len ok
  have hC := okC_el ok hr
  have hv := e95 c (by omega)
  rw [ok] at hv
  refine Evt.next ?_ (fun n => r25 n c)
  exact Evt.bind hv (Evt.no (by simp) (Evt.bind (e105 hr (by omega) (by omega)) (Evt.some _)))
/- spec.SameRuns -/
theorem e26 (l : List Ct) (hl : (l.length : Int) ≤ 1000000) : Evt (fun n => call T C n 26 (l, l, ())) ((true, ()), ()) := by
  refine Evt.next (Evt.no (by simp) ?_) (fun n => r26 n l l)
  refine for_evt' 0 (l.length : Int) (fun i (_ : Unit) => (l, l, i, ())) (fun _ _ => True) (b0 := ()) rfl (by omega) trivial ?_ ?_
  · intro i _ h2 h3 _
    obtain ⟨v, hv⟩ := at_of h2 h3
    exact Round.yes (decide_eq_true h3) (Round.at hv.idx (Round.at hv.idx (Round.no (by simp) (Round.again _ ⟨(), by rw [wr_succ h2 h3 (by omega)], trivial⟩))))
  · intro _ _
    exact Round.no (by simp) (Round.done (Evt.some _))
/- laws.FnMade -/
theorem e3 (x y : List Int) (hd : DomA (C 3).params (x, y, ())) : Evt (fun n => call T C n 3 (x, y, ())) ((true, ()), ()) := by
  have hx : ∀ v ∈ x, 0 ≤ v ∧ v ≤ 255 := byte_of hd.1
  have hy : ∀ v ∈ y, 0 ≤ v ∧ v ≤ 255 := byte_of hd.2.1
  refine Evt.next (Evt.bind (e8 x) (Evt.ite (fun _ => Evt.some _) (fun hx2 => Evt.bind (e8 y) (Evt.ite (fun _ => Evt.some _) (fun hy2 => ?_))))) (fun n => r3 n x y)
  have hx2 : ¬ (x.length : Int) > 4096 := by simpa using hx2
  have hy2 : ¬ (y.length : Int) > 4096 := by simpa using hy2
  obtain ⟨c, hC, S⟩ := e9 hx (by omega)
  have hl := S.len
  have h0 : 0 < c.length := by omega
  have hel : ∀ v ∈ c, 0 ≤ v ∧ v ≤ 10000 := fun v hv => by have := S.el v hv; omega
  have hcA : ∀ x, 0 ≤ cAt c x ∧ cAt c x ≤ 60 := fun x => S.el _ (cAt_mem h0 x)
  obtain ⟨b, hB, hbl, hbe⟩ := e10 (c := c) hy (by omega) (by omega)
  have hbA : ∀ x, 0 ≤ cAt b x ∧ cAt b x ≤ 60 := fun x => hbe _ (cAt_mem (by omega) x)
  have SB : SmD b := ⟨by omega, hbe⟩
  obtain ⟨s, hP1, s0, s1⟩ := e13 hy (by omega) (m := 101) (by omega) (by omega)
  have hAi := e11 S SB hbl.symm
  have hAs := e12 S SB hbl.symm
  have hBi := e14 S SB hbl.symm s0 (show s ≤ 100 by omega)
  have hBs := e15 S SB hbl.symm s0 (show s ≤ 100 by omega)
  have hU := e16 S.rng S.ok (y := 7) (by omega) (by omega) (fun i _ => by have := hcA (i : Nat); omega)
  have hUl : (rsL c 7).length = c.length := tb_len _ _
  have hUe : ∀ v ∈ rsL c 7, 0 ≤ v ∧ v ≤ 10000 := fun v hv => by
    obtain ⟨i, hi, rfl⟩ := tb_mem hv
    have := hcA (i : Nat)
    omega
  have hD := e16 (c := rsL c 7) (rng_bd (by omega) hUe) (okC_of (by omega) hUe) (y := -7) (by omega) (by omega) (fun i hi => by
    have e : cAt (rsL c 7) (i : Nat) = cAt c (i : Nat) + 7 := cAt_tb (G := fun i => cAt c (i : Nat) + 7) (by omega)
    rw [e]
    have := hcA (i : Nat)
    omega)
  rw [show rsL (rsL c 7) (-7) = c from rs_back c 7] at hD
  have hW := e17 S.rng S.ok (t := 2) (u := 1) (by omega) (by omega) (by omega) (by omega) (fun i _ => by have := hcA (i : Nat); rw [nr_one]; omega)
  have hWl : (scL c 2 1).length = c.length := tb_len _ _
  have hWe : ∀ v ∈ scL c 2 1, 0 ≤ v ∧ v ≤ 10000 := fun v hv => by
    obtain ⟨i, hi, rfl⟩ := tb_mem hv
    have := hcA (i : Nat)
    rw [nr_one]
    omega
  have hH := e17 (c := scL c 2 1) (rng_bd (by omega) hWe) (okC_of (by omega) hWe) (t := 1) (u := 2) (by omega) (by omega) (by omega) (by omega) (fun i hi => by
    have e : cAt (scL c 2 1) (i : Nat) = nr (cAt c (i : Nat) * 2) 1 := cAt_tb (G := fun i => nr (cAt c (i : Nat) * 2) 1) (by omega)
    rw [e, nr_one, Int.mul_one, nr_half]
    have := hcA (i : Nat)
    omega)
  rw [sc_back] at hH
  have hAl : (adL c b).length = c.length := tb_len _ _
  have hBl : (blL c b s).length = c.length := tb_len _ _
  have hS1 := e18 (adL c b) (by omega)
  have hS2 := e18 (blL c b s) (by omega)
  have hS3 := e18 c (by omega)
  refine Evt.bind hC (Evt.bind hB (Evt.bind hAi (Evt.bind hAs (Evt.bind hP1 (Evt.bind hBi (Evt.bind hBs (Evt.bind hU (Evt.bind hD (Evt.bind hW (Evt.bind hH ?_))))))))))
  refine Evt.no (by simp) (Evt.no (by simp) (Evt.bind hS1 (Evt.no (by simp) (Evt.no (by simp) (Evt.no (by simp) (Evt.bind hS2 (Evt.no (by simp) (Evt.no (by simp) (Evt.no (by simp) (Evt.bind hS3 (Evt.no (by simp) (Evt.no (by simp) (Evt.no (by simp) (Evt.bind hS3 (Evt.no (by simp) ?_)))))))))))))))
  refine for_evt' 0 (c.length : Int) (fun i (_ : Unit) => (x, c, b, (c.length : Int), adL c b, blL c b s, i, ())) (fun _ _ => True) (b0 := ()) rfl (by omega) trivial ?_ ?_
  · intro i' _ h2 h3 _
    obtain ⟨i, rfl⟩ : ∃ i : Nat, i' = i := ⟨i'.toNat, by omega⟩
    have hi : i < c.length := by omega
    have aC := cAt_idx (l := c) hi
    have aB := cAt_idx (l := b) (i := i) (by omega)
    have aA := cAt_idx (l := adL c b) (i := i) (by omega)
    have aL := cAt_idx (l := blL c b s) (i := i) (by omega)
    rw [show cAt (adL c b) (i : Nat) = cAt c (i : Nat) + cAt b (i : Nat) from cAt_tb (G := fun i => cAt c (i : Nat) + cAt b (i : Nat)) hi] at aA
    rw [show cAt (blL c b s) (i : Nat) = nr (cAt c (i : Nat) * (100 - s) + cAt b (i : Nat) * s) 100 from cAt_tb (G := fun i => nr (cAt c (i : Nat) * (100 - s) + cAt b (i : Nat) * s) 100) hi] at aL
    have b1 := hcA (i : Nat)
    have b2 := hbA (i : Nat)
    have b3 := bl_in (x := cAt c (i : Nat)) (y := cAt b (i : Nat)) s0 (show s ≤ 100 by omega)
    have e1 : (if cAt b (i : Nat) < cAt c (i : Nat) then cAt b (i : Nat) else cAt c (i : Nat)) = min (cAt c (i : Nat)) (cAt b (i : Nat)) := by split <;> omega
    have e2 : (if cAt b (i : Nat) > cAt c (i : Nat) then cAt b (i : Nat) else cAt c (i : Nat)) = max (cAt c (i : Nat)) (cAt b (i : Nat)) := by split <;> omega
    refine Round.yes (decide_eq_true (show (i : Int) < ((blL c b s).length : Int) by omega)) (Round.at aA.idx (Round.at aC.idx (Round.at aB.idx (Round.no ?_ (Round.at aL.idx (Round.at aC.idx (Round.at aB.idx (Round.no ?_ (Round.at aL.idx (Round.at aC.idx (Round.at aB.idx (Round.no ?_ (Round.again _ ⟨(), ?_, trivial⟩)))))))))))))
    · rw [wrap16 (x := cAt c (i : Nat) + cAt b (i : Nat)) (by omega) (by omega)]; simp
    · rw [e1]; simp only [cond_false, decide_eq_true_eq]; omega
    · rw [e2]; simp only [cond_false, decide_eq_true_eq]; omega
    · rw [wrap_id (x := (i : Int) + 1) (by omega) (by omega)]
  intro _ _
  refine Round.no (by simp; omega) (Round.done ?_)
  obtain ⟨t', hP2, t0, t1⟩ := e13 hx (by omega) (m := 5) (by omega) (by omega)
  obtain ⟨t, ht⟩ : ∃ t : Nat, 1 + t' = t := ⟨(1 + t').toNat, by omega⟩
  have et : wr .i64 (1 + t') = (t : Int) := by rw [ht, wrap_id (by omega) (by omega)]
  have hFi := e19 S (t := t) (by omega) (by omega)
  have hFs := e20 S (t := t) (by omega) (by omega)
  have hTh := e21 S (t := t) (by omega) (by omega)
  have hnt : c.length * t ≤ 36 * 5 := Nat.mul_le_mul (by omega) (by omega)
  have hnt2 : c.length * 1 ≤ c.length * t := Nat.mul_le_mul (Nat.le_refl _) (by omega)
  have hFl := rfL_len c t
  have hFe : ∀ v ∈ rfL c t, 0 ≤ v ∧ v ≤ 10000 := fun v hv => by
    obtain ⟨i, hi, rfl⟩ := tb_mem hv
    have := rfG_in h0 S.el (t := (t : Int)) (by omega) (i : Nat)
    omega
  have hG1 := e22 S.rng S.ok
  have hG2 := e22 (c := rfL c t) (rng_bd (by omega) hFe) (okC_of (by omega) hFe)
  have hst := rf_steep h0 (t := t) (by omega)
  have hS4 := e18 (rfL c t) (by omega)
  refine Evt.bind hP2 ?_
  simp only [et]
  refine Evt.bind hFi (Evt.bind hFs (Evt.bind hTh (Evt.bind hG1 (Evt.bind hG2 ?_))))
  refine Evt.no (by simp) (Evt.no (by simp) (Evt.bind hS4 (Evt.no (by simp) (Evt.no (by simp) (Evt.bind hS3 (Evt.no (by simp) (Evt.no (by simp) (Evt.no (by simp) (Evt.no (by simp; omega) ?_)))))))))
  obtain ⟨s, R, hLs, hwrap⟩ := runsP_run h0
  obtain ⟨L, eL⟩ : ∃ L, L = runsP c := ⟨_, rfl⟩
  have hRi := e23 S.rng S.ok
  have hRs := e24 S.rng S.ok
  have hCh := e25 S.rng S.ok
  rw [← eL] at R hLs hwrap hRi hRs
  have hnn := lenS_nn R
  have hLn : L.length ≤ c.length := by
    have key : ∀ (M : List Ct) (s : Int), RunOk c s M → (M.length : Int) ≤ lenS M := by
      intro M
      induction M with
      | nil => intro _ _; simp [lenS]
      | cons v M ih =>
        intro s h
        have := ih _ h.2.2.2.2.2
        have := h.2.2.1
        rw [lenS, List.length_cons]
        omega
    have := key L s R
    omega
  have hL1 : 1 ≤ L.length := by
    apply Classical.byContradiction
    intro h
    have : L = [] := List.length_eq_zero_iff.1 (by omega)
    rw [this] at hLs
    simp [lenS] at hLs
    omega
  have hS5 := e26 L (by omega)
  have hn0 : ((c.length : Int) != 0) = true := bne_pos (by omega)
  refine Evt.bind hRi (Evt.bind hRs (Evt.bind hCh (Evt.no (by simp) (Evt.no (by simp) (Evt.bind hS5 (Evt.no (by simp) (Evt.no (by simp) (Evt.no (by simp; omega) ?_))))))))
  refine for_evt' 0 (L.length : Int) (fun i (_ : Unit) => ((c.length : Int), L, chgL c, lenS (L.take i.toNat), i, ())) (fun _ _ => True) (b0 := ()) (by simp [lenS]) (by omega) trivial ?_ ?_
  · intro i' _ h2 h3 _
    obtain ⟨i, rfl⟩ : ∃ i : Nat, i' = i := ⟨i'.toNat, by omega⟩
    have hi : i < L.length := by omega
    obtain ⟨v, hv⟩ := at_of (l := L) (i := (i : Int)) (by omega) h3
    have hvg := hv.get
    rw [Int.toNat_natCast] at hvg ⊢
    have RA := R.at hvg
    have v1 := RA.one
    have vst := RA.start
    have v2 : 0 ≤ v.2.1 ∧ v.2.1 < (c.length : Int) := by
      rw [vst]
      exact ⟨Int.emod_nonneg _ (by omega), Int.emod_lt_of_pos _ (by omega)⟩
    have hlenS : lenS (L.take (i + 1)) = lenS (L.take i) + v.2.2.1 := by rw [List.take_add_one, hvg, Option.toList_some, lenS_snoc]
    have n1 := hnn i
    have n2 := hnn (i + 1)
    have w3 : wr .i64 v.2.2.1 = v.2.2.1 := wrap_id (by omega) (by omega)
    have w2 : wr .i64 v.2.1 = v.2.1 := wrap_id (by omega) (by omega)
    refine Round.yes (decide_eq_true h3) (Round.at hv.idx (Round.no (by simp; omega) (Round.ite (fun hg => ?_) (fun hg => ?_))))
    · have hg : (L.length : Int) > 1 := of_decide_eq_true hg
      have hmod := Nat.mod_lt (i + 1) (show 0 < L.length by omega)
      have ej : Int.tmod ((i : Int) + 1) (L.length : Int) = (((i + 1) % L.length : Nat) : Int) := by
        rw [Int.tmod_eq_emod_of_nonneg (by omega), Int.natCast_emod, Int.natCast_add]
        rfl
      obtain ⟨w, hw⟩ := at_of (l := L) (i := (((i + 1) % L.length : Nat) : Int)) (by omega) (by omega)
      have hwg := hw.get
      rw [Int.toNat_natCast] at hwg
      have hnx := run_next h0 R hLs hwrap (by omega) hi hvg hwg
      have w4 : wr .i64 w.2.1 = w.2.1 := by
        have h5 := (R.at hwg).start
        have h6 := Int.emod_nonneg (s + lenS (L.take ((i + 1) % L.length))) (show (c.length : Int) ≠ 0 by omega)
        have h7 := Int.emod_lt_of_pos (s + lenS (L.take ((i + 1) % L.length))) (show (0 : Int) < c.length by omega)
        exact wrap_id (by omega) (by omega)
      refine Round.chk (bne_pos (show 0 < (L.length : Int) by omega)) ?_
      simp only [wrap_id (x := (i : Int) + 1) (by omega) (by omega), ej]
      refine Round.at hw.idx (Round.no (by simp; exact hnx.1) (Round.yes (decide_eq_true hg) (Round.chk (bne_pos (show 0 < (L.length : Int) by omega)) (Round.at hw.idx (Round.chk hn0 (Round.no ?_ ?_))))))
      · simp only [w2, w3, w4, wrap_id (x := v.2.1 + v.2.2.1) (by omega) (by omega)]
        rw [Int.tmod_eq_emod_of_nonneg (by omega), hnx.2]
        simp
      · refine for_round' 0 v.2.2.1 (fun k (_ : Unit) => ((c.length : Int), L, chgL c, lenS (L.take i) + v.2.2.1, (i : Int), v, k, ())) (fun _ _ => True) (b0 := ()) (by simp only [w3]; rw [wrap_id (x := lenS (L.take i) + v.2.2.1) (by omega) (by omega)]) (by omega) trivial ?_ ?_
        · intro k _ h4 h5 _
          have hk := RA.all k h4 h5
          have hAt := chgL_at h0 (s + lenS (L.take i) + k)
          have em : Int.tmod (v.2.1 + k) (c.length : Int) = (s + lenS (L.take i) + k) % (c.length : Int) := by rw [Int.tmod_eq_emod_of_nonneg (by omega), RA.start, Int.emod_add_emod]
          refine Round.yes (decide_eq_true (by simp only [w3]; exact h5)) (Round.chk hn0 ?_)
          simp only [w2, wrap_id (x := v.2.1 + k) (by omega) (by omega), em]
          refine Round.at hAt.idx (Round.no ?_ (Round.no ?_ (Round.inr _ ⟨(), ?_, trivial⟩)))
          · rw [kd_pos, hk]; simp
          · simp only [cond_false]; rw [kd_neg, hk]; simp
          · rw [wrap_id (x := k + 1) (by omega) (by omega)]
        · intro _ _
          refine Round.no (by simp only [w3]; simp) (Round.inl _ ⟨(), ?_, trivial⟩)
          rw [wrap_id (x := (i : Int) + 1) (by omega) (by omega), show ((i : Int) + 1).toNat = i + 1 by omega, hlenS]
    · have hg : ¬ (L.length : Int) > 1 := fun h => hg (decide_eq_true h)
      refine Round.no (by simp) (Round.no (by simp; omega) (Round.no (by simp) ?_))
      refine for_round' 0 v.2.2.1 (fun k (_ : Unit) => ((c.length : Int), L, chgL c, lenS (L.take i) + v.2.2.1, (i : Int), v, k, ())) (fun _ _ => True) (b0 := ()) (by simp only [w3]; rw [wrap_id (x := lenS (L.take i) + v.2.2.1) (by omega) (by omega)]) (by omega) trivial ?_ ?_
      · intro k _ h4 h5 _
        have hk := RA.all k h4 h5
        have hAt := chgL_at h0 (s + lenS (L.take i) + k)
        have em : Int.tmod (v.2.1 + k) (c.length : Int) = (s + lenS (L.take i) + k) % (c.length : Int) := by rw [Int.tmod_eq_emod_of_nonneg (by omega), RA.start, Int.emod_add_emod]
        refine Round.yes (decide_eq_true (by simp only [w3]; exact h5)) (Round.chk hn0 ?_)
        simp only [w2, wrap_id (x := v.2.1 + k) (by omega) (by omega), em]
        refine Round.at hAt.idx (Round.no ?_ (Round.no ?_ (Round.inr _ ⟨(), ?_, trivial⟩)))
        · rw [kd_pos, hk]; simp
        · simp only [cond_false]; rw [kd_neg, hk]; simp
        · rw [wrap_id (x := k + 1) (by omega) (by omega)]
      · intro _ _
        refine Round.no (by simp only [w3]; simp) (Round.inl _ ⟨(), ?_, trivial⟩)
        rw [wrap_id (x := (i : Int) + 1) (by omega) (by omega), show ((i : Int) + 1).toNat = i + 1 by omega, hlenS]
  · intro _ _
    rw [take_all, hLs]
    refine Round.no (by simp) (Round.done ((Evt.some _).of_eq fun n => ?_))
    simp
    rfl

end Go.Cams.YtgcncghbeplgnaaLMa
