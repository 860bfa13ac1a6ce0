/- What the functions that the law reaches come to. -/
import Derived.Test.YtipjblnjaicbfaaGreatDoorRRq
import Derived.Test.YtipjblnjaicbfaaGreatDoorPuAll
namespace Go.Cams.YtipjblnjaicbfaaGreatDoorLRq
open Go Go.Fw Go.Proofs Go.Proofs.YtipjblnjaicbfaaGreatDoor.LRq
/- laws.f6big -/
theorem e6 (a : List Int) : Evt (fun n => call T C n 6 (a, ())) ((decide ((a.length : Int) > 4096), ()), ()) := Evt.next (Evt.some _) (fun n => r6 n a)
/- spec.l00From -/
theorem e63 (a : List Int) : Evt (fun n => call T C n 63 (a, ())) (((a, 0, 0, ()), ()), ()) := Evt.next (Evt.some _) (fun n => r63 n a)
/- (*spec.l00Src).next -/
theorem e157 {k : Int} {s : Src} (h : SrcAt k s) (hk : k ≤ 1000000000000) : ∃ (v : Int) (s' : Src), Evt (fun n => call T C n 157 (s, ())) ((v, ()), (s', ())) ∧ 0 ≤ v ∧ v ≤ 255 ∧ SrcAt (k + 1) s' := by
  obtain ⟨h1, h2, h3, h4⟩ := h
  have hw : wr .i64 (s.2.1 + 1) = s.2.1 + 1 := wrap_id (by omega) (by omega)
  by_cases hp : s.2.1 < (s.1.length : Int)
  · obtain ⟨v, hv⟩ := at_of h3 hp
    have hb := h1 v hv.mem
    have ev : wr .i64 v = v := wrap_id (by omega) (by omega)
    obtain ⟨z, hz⟩ : ∃ z, z = wr .u64 ((wr .u64 ((wr .u64 (s.2.2.1 * (6364136223846793005 : Int))) + (wr .u64 (wr .i64 v)))) + (1442695040888963407 : Int)) := ⟨_, rfl⟩
    refine ⟨v, (s.1, s.2.1 + 1, z, ()), Evt.next (Evt.yes (decide_eq_true hp) (Evt.at hv.idx (Evt.yes (decide_eq_true (by rw [hw]; omega)) ((Evt.some _).of_eq fun n => ?_)))) (fun n => r157 n s), hb.1, hb.2, h1, h2, by show 0 ≤ s.2.1 + 1; omega, by show s.2.1 + 1 ≤ k + 1; omega⟩
    rw [← hz, hw, ev]
    rfl
  · obtain ⟨z, hz⟩ : ∃ z, z = wr .u64 ((wr .u64 ((wr .u64 (s.2.2.1 * (6364136223846793005 : Int))) + (wr .u64 (0 : Int)))) + (1442695040888963407 : Int)) := ⟨_, rfl⟩
    have hzb : 0 ≤ z ∧ z < 18446744073709551616 := by rw [hz]; exact wrap_u64 _
    obtain ⟨y, rfl⟩ : ∃ y : Nat, z = y := ⟨z.toNat, by omega⟩
    have hval : wr .i64 (bitsI .and .u64 (shr_ .u64 (y : Int) (40 : Int)) (255 : Int)) = ((y / 2 ^ 40 % 256 : Nat) : Int) := by
      rw [show (40 : Int) = ((40 : Nat) : Int) from rfl, shr_nat (by omega), and_255 (Nat.lt_of_le_of_lt (Nat.div_le_self _ _) (by omega))]
      have := Nat.mod_lt (y / 2 ^ 40) (show 0 < 256 by omega)
      exact wrap_id (by omega) (by omega)
    have hm := Nat.mod_lt (y / 2 ^ 40) (show 0 < 256 by omega)
    refine ⟨((y / 2 ^ 40 % 256 : Nat) : Int), (s.1, s.2.1 + 1, (y : Int), ()), Evt.next (Evt.no (by simpa using hp) (Evt.no (by rw [hw]; simp; omega) (Evt.chk rfl ((Evt.some _).of_eq fun n => ?_)))) (fun n => r157 n s), by omega, by omega, h1, h2, by show 0 ≤ s.2.1 + 1; omega, by show s.2.1 + 1 ≤ k + 1; omega⟩
    rw [← hz, hw, hval]
    rfl
/- (*spec.l00Src).pick -/
theorem e72 {k : Int} {s : Src} (h : SrcAt k s) (hk : k ≤ 999999999000) {m : Int} (m1 : 1 ≤ m) (m2 : m ≤ 1000000) : ∃ (v : Int) (s' : Src), Evt (fun n => call T C n 72 (s, m, ())) ((v, ()), (s', ())) ∧ 0 ≤ v ∧ v < m ∧ SrcAt (k + 2) s' := by
  by_cases hm : m ≤ 1
  · exact ⟨0, s, Evt.next (Evt.yes (decide_eq_true hm) (Evt.some _)) (fun n => r72 n s m), by omega, by omega, h.mono (by omega)⟩
  · obtain ⟨v, s1, hE, v0, v1, hs1⟩ := e157 h (by omega)
    by_cases hb : m > 200
    · obtain ⟨u, s2, hE2, u0, u1, hs2⟩ := e157 hs1 (by omega)
      have hx : wr .i64 (wr .i64 (v * 256) + u) = v * 256 + u := by rw [wrap_id (x := v * 256) (by omega) (by omega), wrap_id (by omega) (by omega)]
      have ht0 := Int.tmod_nonneg m (show 0 ≤ v * 256 + u by omega)
      have ht1 := Int.tmod_lt_of_pos (v * 256 + u) (show 0 < m by omega)
      refine ⟨Int.tmod (v * 256 + u) m, s2, Evt.next (Evt.no (by simpa using hm) (Evt.bind hE (Evt.yes (decide_eq_true hb) (Evt.bind hE2 (Evt.chk (bne_pos (by omega)) ((Evt.some _).of_eq fun n => ?_)))))) (fun n => r72 n s m), ht0, ht1, hs2.mono (by omega)⟩
      rw [hx]
      rfl
    · have ht0 := Int.tmod_nonneg m v0
      have ht1 := Int.tmod_lt_of_pos v (show 0 < m by omega)
      exact ⟨Int.tmod v m, s1, Evt.next (Evt.no (by simpa using hm) (Evt.bind hE (Evt.no (by simpa using hb) (Evt.chk (bne_pos (by omega)) (Evt.some _))))) (fun n => r72 n s m), ht0, ht1, hs1.mono (by omega)⟩
/- (*spec.l00Src).among -/
theorem e186 {k : Int} {s : Src} (h : SrcAt k s) (hk : k ≤ 999999999000) {l : List Int} (l1 : 1 ≤ (l.length : Int)) (l2 : (l.length : Int) ≤ 1000000) : ∃ (v : Int) (s' : Src), Evt (fun n => call T C n 186 (s, l, ())) ((v, ()), (s', ())) ∧ v ∈ l ∧ SrcAt (k + 2) s' := by
  obtain ⟨i, s1, hE, i0, i1, hs1⟩ := e72 h hk l1 l2
  obtain ⟨v, hv⟩ := at_of i0 i1
  refine ⟨v, s1, Evt.next ?_ (fun n => r186 n s l), hv.mem, hs1⟩
  exact Evt.bind hE (Evt.at hv.idx (Evt.some _))
/- spec.l00Min -/
theorem e150 (a b : Int) : Evt (fun n => call T C n 150 (a, b, ())) ((min a b, ()), ()) := by
  refine Evt.next (Evt.ite (fun h => ?_) (fun h => ?_)) (fun n => r150 n a b)
  · have h : a < b := of_decide_eq_true h
    rw [show min a b = a by omega]; exact Evt.some _
  · have h : ¬ a < b := by simpa using h
    rw [show min a b = b by omega]; exact Evt.some _
/- spec.l00Max -/
theorem e149 (a b : Int) : Evt (fun n => call T C n 149 (a, b, ())) ((max a b, ()), ()) := by
  refine Evt.next (Evt.ite (fun h => ?_) (fun h => ?_)) (fun n => r149 n a b)
  · have h : a > b := of_decide_eq_true h
    rw [show max a b = a by omega]; exact Evt.some _
  · have h : ¬ a > b := by simpa using h
    rw [show max a b = b by omega]; exact Evt.some _
/- (*spec.l00Src).one -/
theorem e151 {k : Int} {s : Src} (h : SrcAt k s) (hk : k ≤ 999999999000) {m : Int} (m1 : 1 ≤ m) (m2 : m ≤ 1000000) : ∃ (b : Bool) (s' : Src), Evt (fun n => call T C n 151 (s, m, ())) ((b, ()), (s', ())) ∧ SrcAt (k + 2) s' := by
  obtain ⟨v, s1, hE, v0, v1, hs1⟩ := e72 h hk m1 m2
  exact ⟨v == 0, s1, Evt.next (Evt.bind hE (Evt.some _)) (fun n => r151 n s m), hs1⟩
/- spec.l01Drawn -/
theorem e132 {k : Int} {s : Src} (h : SrcAt k s) (hk : k ≤ 999999990000) : ∃ (c : List Int) (s' : Src), Evt (fun n => call T C n 132 (s, ())) ((c, ()), (s', ())) ∧ SmD c ∧ SrcAt (k + 200) s' := by
  obtain ⟨n0, s1, hE1, hn0, hs1⟩ := e186 h (by omega) (l := [8, 9, 12, 16, 24, 36]) (by simp) (by simp)
  have hn : 8 ≤ n0 ∧ n0 ≤ 36 := by simp at hn0; omega
  obtain ⟨nn, rfl⟩ : ∃ m : Nat, n0 = m := ⟨n0.toNat, by omega⟩
  obtain ⟨l0, s2, hE2, l00, l01, hs2⟩ := e72 hs1 (by omega) (m := 20) (by omega) (by omega)
  have key : EvtX (fun n => call T C n 132 (s, ())) (fun y => SmD y.1.1 ∧ SrcAt (k + 200) y.2.1) := by
    refine EvtX.next (EvtX.bind hE1 (EvtX.bind hE2 ?_)) (fun n => r132 n s)
    refine EvtX.loop (fun x => ∃ (src : Src) (o : List Int) (l : Int), x = (src, (nn : Int), o, l, ()) ∧ SrcAt (k + 4 + 4 * o.length) src ∧ GoodG2 nn (o, l)) (fun x => nn - x.2.2.1.length)
      ⟨s2, [], l0, rfl, hs2.mono (by simp; omega), ⟨fun v hv => (by cases hv), by show 0 ≤ l0 ∧ l0 ≤ 60; omega, by show 0 ≤ nn; omega⟩⟩ ?_
    rintro x ⟨src, out, l, rfl, hsrc, G⟩
    have hle : out.length ≤ nn := G.le
    by_cases hlt : out.length < nn
    · right
      obtain ⟨a, a1, hA, a0, al, hs3⟩ := e72 hsrc (by omega) (m := 7) (by omega) (by omega)
      obtain ⟨b, b1, hB, b0, bl, hs4⟩ := e72 hs3 (by omega) (m := 5) (by omega) (by omega)
      obtain ⟨m, hm⟩ : ∃ m : Nat, 1 + b = m := ⟨(1 + b).toNat, by omega⟩
      have G2 := grow_good (b := a - 3) m G
      have G3 := grow_more (b := a - 3) (k := m) G hlt (by omega)
      obtain ⟨R, eR⟩ : ∃ R, R = grow (a - 3) nn m (out, l) := ⟨_, rfl⟩
      rw [← eR] at G2 G3
      have G3 : out.length < R.1.length := G3
      have hRle : R.1.length ≤ nn := G2.1.le
      refine ⟨(b1, (nn : Int), R.1, R.2, ()), ⟨b1, R.1, R.2, rfl, hs4.mono (by omega), G2.1⟩, by show nn - R.1.length < nn - out.length; omega, fun y => ?_⟩
      refine Round.yes (decide_eq_true (show (out.length : Int) < (nn : Int) by omega)) (Round.bind hA (Round.bind hB ?_))
      simp only [wrap_id (x := a - 3) (by omega) (by omega), hm, wrap_id (x := (m : Int)) (by omega) (by omega)]
      refine for_round' 0 (m : Int) (fun i (s : List Int × Int) => (b1, (nn : Int), s.1, s.2, a - 3, (m : Int) - i, ())) (fun i s => GoodG2 nn s ∧ grow (a - 3) nn ((m : Int) - i).toNat s = R) (b0 := (out, l)) (by rw [Int.sub_zero]) (by omega) ⟨G, by rw [Int.sub_zero, Int.toNat_natCast, eR]⟩ ?_ ?_
      · intro i s h2 h3 ⟨hG, he⟩
        rw [show ((m : Int) - i).toNat = ((m : Int) - (i + 1)).toNat + 1 by omega, grow] at he
        refine Round.yes (decide_eq_true (show (m : Int) - i > 0 by omega)) ?_
        have hsle : s.1.length ≤ nn := hG.le
        have hlf := hG.lf
        by_cases hl : s.1.length < nn
        · rw [if_pos hl] at he
          have hone := grow_one (b := a - 3) hG hl
          refine Round.yes (show (bif true then decide ((s.1.length : Int) < (nn : Int)) else false) = true from decide_eq_true (by omega)) ?_
          simp only [wrap_id (x := s.2 + (a - 3)) (by omega) (by omega)]
          refine Round.bind (e150 60 _) (Round.bind (e149 0 _) (Round.chk (decide_eq_true (by simp only [List.length_cons, List.length_nil]; omega)) (Round.inr _ ⟨(s.1 ++ [max 0 (min 60 (s.2 + (a - 3)))], max 0 (min 60 (s.2 + (a - 3)))), ?_, hone, he⟩)))
          rw [wrap16 (x := max 0 (min 60 (s.2 + (a - 3)))) (by omega) (by omega), wrap_id (x := (m : Int) - i - 1) (by omega) (by omega), show (m : Int) - (i + 1) = (m : Int) - i - 1 by omega]
        · rw [if_neg hl] at he
          refine Round.no (show ¬ (bif true then decide ((s.1.length : Int) < (nn : Int)) else false) = true from fun h => by have := of_decide_eq_true (p := (s.1.length : Int) < (nn : Int)) h; omega) (Round.inl _ ?_)
          rw [← he]
      · intro s ⟨hG, he⟩
        rw [Int.sub_self] at he
        have he : s = R := he
        rw [he]
        exact Round.no (by simp) (Round.inl _ rfl)
    · left
      have hlen : out.length = nn := by omega
      obtain ⟨bo, s3, hO, hs3⟩ := e151 hsrc (by omega) (m := 8) (by omega) (by omega)
      have S0 : SmD out := ⟨by omega, G.el⟩
      have hs5 : SrcAt (k + 200) s3 := hs3.mono (by omega)
      cases bo with
      | false => exact ⟨((out, ()), (s3, ())), ⟨S0, hs5⟩, Round.no (by simp; omega) (Round.bind hO (Round.no (by simp) (Round.done (Evt.some _))))⟩
      | true =>
        have ht : wr .i64 (Int.tdiv (nn : Int) 2) = ((nn / 2 : Nat) : Int) := by
          rw [Int.tdiv_eq_ediv_of_nonneg (by omega), wrap_id (by omega) (by omega)]; omega
        by_cases he : nn % 2 = 0
        · obtain ⟨p, hp⟩ : ∃ p, p = (out.take (nn / 2)).drop 0 := ⟨_, rfl⟩
          have lp : p.length = nn / 2 := by rw [hp, List.drop_zero, List.length_take]; omega
          refine ⟨(((([] : List Int) ++ p) ++ p, ()), (s3, ())), ⟨⟨by show 8 ≤ (((([] : List Int) ++ p) ++ p).length : Int) ∧ (((([] : List Int) ++ p) ++ p).length : Int) ≤ 36; simp only [List.length_append, List.length_nil, lp]; omega, fun v hv => ?_⟩, hs5⟩, ?_⟩
          · have hv : v ∈ p := by simpa using hv
            rw [hp, List.drop_zero] at hv
            exact G.el v (List.mem_of_mem_take hv)
          · refine Round.no (by simp; omega) (Round.bind hO (Round.yes rfl (Round.chk rfl ?_)))
            simp only [ht, Int.toNat_natCast, show Int.toNat 0 = 0 from rfl, ← hp]
            refine Round.chk (decide_eq_true (by omega)) (Round.chk rfl (Round.yes (by rw [beq_iff_eq, Int.tmod_eq_emod_of_nonneg (by omega)]; omega) (Round.chk (decide_eq_true (by simp only [List.length_append, List.length_nil, lp]; omega)) (Round.chk (decide_eq_true (by simp only [List.length_append, List.length_nil, lp]; omega)) (Round.done (Evt.some _))))))
        · refine ⟨((out, ()), (s3, ())), ⟨S0, hs5⟩, Round.no (by simp; omega) (Round.bind hO (Round.yes rfl (Round.chk rfl ?_)))⟩
          simp only [ht]
          exact Round.chk (decide_eq_true (by omega)) (Round.chk rfl (Round.no (by rw [beq_iff_eq, Int.tmod_eq_emod_of_nonneg (by omega)]; omega) (Round.done (Evt.some _))))
  obtain ⟨⟨⟨c, _⟩, ⟨s', _⟩⟩, ⟨h1, h2⟩, hE⟩ := key
  exact ⟨c, s', hE, h1, h2⟩
/- spec.P6Cam -/
theorem e52 {b : List Int} (hb : ∀ v ∈ b, 0 ≤ v ∧ v ≤ 255) (hl : (b.length : Int) ≤ 4096) : ∃ c : List Int, Evt (fun n => call T C n 52 (b, ())) ((c, ()), ()) ∧ SmD c := by
  have h0 : SrcAt 0 ((b, 0, 0, ()) : Src) := ⟨hb, by show (b.length : Int) ≤ 1000000; omega, Int.le_refl _, Int.le_refl _⟩
  obtain ⟨c, s1, hE, S, _⟩ := e132 h0 (by omega)
  refine ⟨c, Evt.next ?_ (fun n => r52 n b), S⟩
  exact Evt.bind (e63 b) (Evt.bind hE (Evt.some _))
/- spec.l00In -/
theorem e116 (a b c : Int) : Evt (fun n => call T C n 116 (a, b, c, ())) ((inR a b c, ()), ()) := by
  refine Evt.next ?_ (fun n => r116 n a b c)
  refine Evt.ite (fun h => ?_) (fun h => ?_)
  · refine (Evt.some _).of_eq fun n => ?_
    have h : b ≤ a := of_decide_eq_true h
    simp [inR, h]
    rfl
  · refine (Evt.some _).of_eq fun n => ?_
    have h : ¬ b ≤ a := by simpa using h
    simp [inR, h]
    rfl
/- spec.l01Steps -/
theorem e174 (a : Int) : Evt (fun n => call T C n 174 (a, ())) ((inR a 8 360, ()), ()) := Evt.next (Evt.bind (e116 a 8 360) (Evt.some _)) (fun n => r174 n a)
/- spec.l01Lift -/
theorem e172 (a : Int) : Evt (fun n => call T C n 172 (a, ())) ((inR a 0 10000, ()), ()) := Evt.next (Evt.bind (e116 a 0 10000) (Evt.some _)) (fun n => r172 n a)
/- spec.l01Ok -/
theorem e121 (l : List Int) (hl : (l.length : Int) ≤ 140737488351232) : Evt (fun n => call T C n 121 (l, ())) ((okC l, ()), ()) := by
  refine Evt.next ?_ (fun n => r121 n l)
  refine Evt.bind (e174 _) ?_
  refine Evt.ite (fun h => ?_) (fun h => ?_)
  · refine (Evt.some _).of_eq fun n => ?_
    have h : inR (l.length : Int) 8 360 = false := by simpa using h
    simp [okC, h]
    rfl
  · have h : inR (l.length : Int) 8 360 = true := by simpa using h
    have he : okC l = l.all okV := by simp [okC, h]
    rw [he]
    refine loop_evt (fun (x : List Int × Int × Unit) => x.1 = l ∧ 0 ≤ x.2.1 ∧ x.2.1 ≤ (l.length : Int) ∧ l.all okV = (l.drop x.2.1.toNat).all okV) (fun (x : List Int × Int × Unit) => ((l.length : Int) - x.2.1).toNat) (x := (l, 0, ())) ⟨rfl, Int.le_refl _, by simp, by simp⟩ ?_
    rintro ⟨x1, i, _⟩ ⟨h', h0, h1, h2⟩
    simp only at h' h0 h1 h2
    subst h'
    refine Round.ite (fun hlt => ?_) (fun hge => ?_)
    · have hlt : i < (x1.length : Int) := of_decide_eq_true hlt
      obtain ⟨v, hv, hv'⟩ := idx_at h0 hlt
      have hd := drop_cons hv'
      refine Round.at hv (Round.bind (e172 _) (Round.ite (fun hb => ?_) (fun hb => ?_)))
      · have hb : okV v = false := by simpa [okV] using hb
        have h3 : x1.all okV = false := by rw [h2, hd]; simp [hb]
        rw [h3]
        exact Round.done (Evt.some _)
      · have hb : okV v = true := by simpa [okV] using hb
        have hw : wr .i64 (i + 1) = i + 1 := wrap_id (by omega) (by omega)
        refine Round.again _ ⟨⟨rfl, ?_, ?_, ?_⟩, ?_⟩ <;> simp only [hw]
        · omega
        · omega
        · rw [h2, hd, show (i + 1).toNat = i.toNat + 1 by omega]
          simp [hb]
        · omega
    · have hge : ¬ i < (x1.length : Int) := by simpa using hge
      have : x1.drop i.toNat = [] := List.drop_of_length_le (by omega)
      rw [h2, this]
      exact Round.done (Evt.some _)
/- spec.l01At -/
theorem e122 {l : List Int} (hr : Rng l) (h0 : 0 < (l.length : Int)) (h1 : (l.length : Int) ≤ 1000000) {x : Int} (hx : -4000000 ≤ x) (hx' : x ≤ 4000000) : ∃ v, l[(x % l.length).toNat]? = some v ∧ v ∈ l ∧ Evt (fun n => call T C n 122 (l, x, ())) ((v, ()), ()) := by
  have hp := Int.emod_nonneg x (show (l.length : Int) ≠ 0 by omega)
  obtain ⟨v, hv⟩ := at_of (l := l) hp (Int.emod_lt_of_pos x h0)
  refine ⟨v, hv.get, hv.mem, ?_⟩
  refine Evt.next (Evt.chk (bne_pos h0) (Evt.chk (bne_pos h0) ?_)) (fun n => r122 n l x)
  rw [turn_at h0 h1 hx hx']
  refine Evt.at hv.idx ((Evt.some _).of_eq fun n => ?_)
  rw [hr.id hv.mem]
  rfl
theorem e122' {l : List Int} (hr : Rng l) (h0 : 0 < (l.length : Int)) (h1 : (l.length : Int) ≤ 1000000) {x : Int} (hx : -4000000 ≤ x) (hx' : x ≤ 4000000) : Evt (fun n => call T C n 122 (l, x, ())) ((cAt l x, ()), ()) := by
  obtain ⟨v, hv, hm, he⟩ := e122 hr h0 h1 hx hx'
  have : cAt l x = v := by unfold cAt g; rw [List.getD_eq_getElem?_getD, hv]; rfl
  rw [this]; exact he
/- spec.l01Bends -/
theorem e133 {c : List Int} (hr : Rng c) (ok : okC c = true) : Evt (fun n => call T C n 133 (c, ())) ((bends c, ()), ()) := by
  have lx := okC_len ok
  have hC := okC_el ok hr
  have h0 : 0 < c.length := by omega
  refine Evt.next ?_ (fun n => r133 n c)
  refine for_evt' 0 (c.length : Int) (fun i (_ : Unit) => (c, tb i.toNat (fun i => bendP c (i : Nat)), i, ())) (fun _ _ => True) (b0 := ()) rfl (by omega) trivial ?_ ?_
  · intro i _ h2 h3 _
    obtain ⟨k, rfl⟩ : ∃ k : Nat, i = k := ⟨i.toNat, by omega⟩
    have a := hC _ (cAt_mem h0 ((k : Int) + 1))
    have b := hC _ (cAt_mem h0 (k : Int))
    have d := hC _ (cAt_mem h0 ((k : Int) - 1))
    refine Round.yes (decide_eq_true h3) ?_
    simp only [wrap_id (x := (k : Int) + 1) (by omega) (by omega), wrap_id (x := (k : Int) - 1) (by omega) (by omega)]
    refine Round.bind (e122' hr (by omega) (by omega) (x := (k : Int) + 1) (by omega) (by omega)) (Round.bind (e122' hr (by omega) (by omega) (x := (k : Int)) (by omega) (by omega)) (Round.bind (e122' hr (by omega) (by omega) (x := (k : Int) - 1) (by omega) (by omega)) ?_))
    simp only [wrap_id (x := 2 * cAt c (k : Int)) (by omega) (by omega), wrap_id (x := cAt c ((k : Int) + 1) - 2 * cAt c (k : Int)) (by omega) (by omega), wrap_id (x := cAt c ((k : Int) + 1) - 2 * cAt c (k : Int) + cAt c ((k : Int) - 1)) (by omega) (by omega)]
    refine Round.chk (decide_eq_true (by simp only [tb_len, List.length_cons, List.length_nil]; omega)) (Round.again _ ⟨(), ?_, trivial⟩)
    rw [show ((k : Int) + 1).toNat = k + 1 by omega, ← tb_snoc, Int.toNat_natCast]
    rfl
  · intro _ _
    rw [Int.toNat_natCast]
    exact Round.no (by simp) (Round.done (Evt.some _))
/- spec.l01Size -/
theorem e142 {a : Int} (h1 : -1000000000000 ≤ a) (h2 : a ≤ 1000000000000) : Evt (fun n => call T C n 142 (a, ())) ((siz a, ()), ()) := by
  refine Evt.next ?_ (fun n => r142 n a)
  unfold siz
  rw [wrap_id (x := 0 - a) (by omega) (by omega)]
  refine Evt.ite (fun h => ?_) (fun h => ?_)
  · rw [if_pos (of_decide_eq_true h), Int.zero_sub]; exact Evt.some _
  · rw [if_neg (by simpa using h)]; exact Evt.some _
/- spec.l01Greatest -/
theorem e130 {l : List Int} (h0 : 0 < l.length) (hl : l.length ≤ 1000000) (hb : ∀ v ∈ l, -1000000 ≤ v ∧ v ≤ 1000000) : Evt (fun n => call T C n 130 (l, ())) ((((gb l l.length : Nat) : Int), gbM l, ()), ()) := by
  refine Evt.next ?_ (fun n => r130 n l)
  have hat : ∀ i, i < l.length → idx l (i : Int) = some (l.getD i 0) := fun i hi => by
    unfold idx
    rw [if_pos (by omega), Int.toNat_natCast, List.getD_eq_getElem?_getD, List.getElem?_eq_getElem hi]
    rfl
  have hsz : ∀ i, i < l.length → Evt (fun n => call T C n 142 (l.getD i 0, ())) ((siz (l.getD i 0), ()), ()) := fun i hi => by
    have := hb _ (getD_mem hi)
    exact e142 (by omega) (by omega)
  refine for_evt' 1 (l.length : Int) (fun i (_ : Unit) => (l, ((gb l i.toNat : Nat) : Int), i, ())) (fun _ _ => True) (b0 := ()) (by rw [show (1 : Int).toNat = 1 from rfl, gb_one]; rfl) (by omega) trivial ?_ ?_
  · intro i _ i0 i1 _
    obtain ⟨i, rfl⟩ := Int.eq_ofNat_of_zero_le (a := i) (by omega)
    have hi : i < l.length := by omega
    have hg := gb_lt l i (by omega) h0
    have hws := wr_succ (i := (i : Int)) (by omega) i1 (by omega)
    rw [Int.toNat_natCast]
    dsimp only
    refine Round.yes (decide_eq_true i1) (Round.at (hat i hi) (Round.bind (hsz i hi) (Round.at (hat _ hg) (Round.bind (hsz _ hg) ?_))))
    dsimp only
    have en : gb l (i + 1) = gbS l (gb l i) i := rfl
    by_cases h : siz (l.getD i 0) > siz (l.getD (gb l i) 0)
    · refine Round.yes (decide_eq_true h) (Round.again _ ⟨(), ?_, trivial⟩)
      have e : gbS l (gb l i) i = i := if_pos h
      rw [hws, show ((i : Int) + 1).toNat = i + 1 by omega, en, e]
    · refine Round.no (by simpa using h) (Round.again _ ⟨(), ?_, trivial⟩)
      have e : gbS l (gb l i) i = gb l i := if_neg h
      rw [hws, show ((i : Int) + 1).toNat = i + 1 by omega, en, e]
  · intro _ _
    rw [Int.toNat_natCast]
    have hg := gb_lt l l.length (Nat.le_refl _) h0
    dsimp only
    exact Round.no (by simp) (Round.at (hat _ hg) (Round.bind (hsz _ hg) (Round.done (Evt.some _))))
/- spec.RoughestOf -/
theorem e53 {c : List Int} (S : SmD c) : ∃ k : Int, Evt (fun n => call T C n 53 (c, ())) ((k, (gr (bends c)).2.1, 0, ()), ()) := by
  have hl := S.len
  have hC : ∀ v ∈ c, 0 ≤ v ∧ v ≤ 10000 := fun v hv => by have := S.el v hv; omega
  have hbl : (bends c).length = c.length := tb_len _ _
  have hb : ∀ v ∈ bends c, -1000000 ≤ v ∧ v ≤ 1000000 := fun v hv => by
    obtain ⟨i, _, rfl⟩ := tb_mem hv
    have := bends_bd (c := c) (by omega) hC (i : Nat)
    omega
  have hG := e130 (l := bends c) (by omega) (by omega) hb
  rw [gbM_gr (by omega)] at hG
  refine ⟨((gb (bends c) (bends c).length : Nat) : Int), Evt.next (Evt.bind (e121 c (by omega)) ?_) (fun n => r53 n c)⟩
  rw [S.ok]
  exact Evt.no (by simp) (Evt.bind (e133 S.rng S.ok) (Evt.bind hG (Evt.some _)))
/- (impl.Cam).steps -/
theorem e113 (a : List Int) : Evt (fun n => call T C n 113 (a, ())) (((a.length : Int), ()), ()) := Evt.next (Evt.some _) (fun n => r113 n a)
/- impl.inRange -/
theorem e103 (a b c : Int) : Evt (fun n => call T C n 103 (a, b, c, ())) ((inR a b c, ()), ()) := by
  refine Evt.next ?_ (fun n => r103 n a b c)
  refine Evt.ite (fun h => ?_) (fun h => ?_)
  · refine (Evt.some _).of_eq fun n => ?_
    have h : b ≤ a := of_decide_eq_true h
    simp [inR, h]
    rfl
  · refine (Evt.some _).of_eq fun n => ?_
    have h : ¬ b ≤ a := by simpa using h
    simp [inR, h]
    rfl
/- impl.isSteps -/
theorem e112 (a : Int) : Evt (fun n => call T C n 112 (a, ())) ((inR a 8 360, ()), ()) := Evt.next (Evt.bind (e103 a 8 360) (Evt.some _)) (fun n => r112 n a)
/- impl.isLift -/
theorem e102 (a : Int) : Evt (fun n => call T C n 102 (a, ())) ((inR a 0 10000, ()), ()) := Evt.next (Evt.bind (e103 a 0 10000) (Evt.some _)) (fun n => r102 n a)
/- impl.ValidCam$1 -/
theorem e115 (v : Int) : Evt (fun n => call T C n 115 (v, ())) ((!okV v, ()), ()) := Evt.next (Evt.bind (e102 _) (Evt.some _)) (fun n => r115 n v)
/- slices.IndexFunc[impl.Cam,int16]{impl.ValidCam$1} -/
theorem e181 (l : List Int) (hl : (l.length : Int) ≤ 140737488351232) : Evt (fun n => call T C n 181 (l, ((), ()), ())) ((fi (fun v => !okV v) l 0, ()), ()) := by
  refine Evt.next ?_ (fun n => r181 n l ((), ()))
  refine loop_evt (fun (x : List Int × (Unit × Unit) × Int × Int × Unit) => x.1 = l ∧ x.2.2.1 = (l.length : Int) ∧ 0 ≤ x.2.2.2.1 ∧ x.2.2.2.1 ≤ (l.length : Int) ∧ fi (fun v => !okV v) l 0 = fi (fun v => !okV v) (l.drop x.2.2.2.1.toNat) x.2.2.2.1) (fun (x : List Int × (Unit × Unit) × Int × Int × Unit) => ((l.length : Int) - x.2.2.2.1).toNat) (x := (l, ((), ()), (l.length : Int), 0, ())) ⟨rfl, rfl, Int.le_refl _, by simp, by simp⟩ ?_
  rintro ⟨x1, u, m, i, _⟩ ⟨h', hm, h0, h1, h2⟩
  simp only at h' hm h0 h1 h2
  subst h'; subst hm
  refine Round.ite (fun hlt => ?_) (fun hge => ?_)
  · have hlt : i < (x1.length : Int) := of_decide_eq_true hlt
    obtain ⟨v, hv, hv'⟩ := idx_at h0 hlt
    have hd := drop_cons hv'
    refine Round.at hv (Round.bind (e115 _) (Round.ite (fun hb => ?_) (fun hb => ?_)))
    · have hb : okV v = false := by simpa using hb
      have h3 : fi (fun v => !okV v) x1 0 = i := by rw [h2, hd]; simp [fi, hb]
      rw [h3]
      exact Round.done (Evt.some _)
    · have hb : okV v = true := by simpa using hb
      have hw : wr .i64 (i + 1) = i + 1 := wrap_id (by omega) (by omega)
      refine Round.again _ ⟨⟨rfl, rfl, ?_, ?_, ?_⟩, ?_⟩ <;> simp only [hw]
      · omega
      · omega
      · rw [h2, hd, show (i + 1).toNat = i.toNat + 1 by omega]
        simp [fi, hb]
      · omega
  · have hge : ¬ i < (x1.length : Int) := by simpa using hge
    have : x1.drop i.toNat = [] := List.drop_of_length_le (by omega)
    rw [h2, this]
    exact Round.done (Evt.some _)
/- slices.ContainsFunc[impl.Cam,int16]{impl.ValidCam$1} -/
theorem e114 (l : List Int) (hl : (l.length : Int) ≤ 140737488351232) : Evt (fun n => call T C n 114 (l, ((), ()), ())) ((l.any (fun v => !okV v), ()), ()) := by
  refine Evt.next (Evt.bind (e181 l hl) ((Evt.some _).of_eq fun n => ?_)) (fun n => r114 n l ((), ()))
  simp only [fi_any _ l 0 (Int.le_refl _)]
  rfl
/- impl.ValidCam -/
theorem e39 (l : List Int) (hl : (l.length : Int) ≤ 140737488351232) : Evt (fun n => call T C n 39 (l, ())) ((okC l, ()), ()) := by
  refine Evt.next (Evt.bind (e113 l) (Evt.bind (e112 _) ?_)) (fun n => r39 n l)
  refine Evt.ite (fun h => ?_) (fun h => ?_)
  · refine Evt.bind (e114 l hl) ((Evt.some _).of_eq fun n => ?_)
    have h : inR (l.length : Int) 8 360 = true := h
    have : okC l = !l.any (fun v => !okV v) := by simp [okC, h, List.any_eq_not_all_not]
    rw [this]
    rfl
  · refine (Evt.some _).of_eq fun n => ?_
    have h : inR (l.length : Int) 8 360 = false := by simpa using h
    simp [okC, h]
    rfl
/- impl.codeIf -/
theorem e69 (c : Bool) (v : Int) : Evt (fun n => call T C n 69 (c, v, ())) (((if c = true then v else 0), ()), ()) := by
  refine Evt.next ?_ (fun n => r69 n c v)
  cases c with
  | true => exact Evt.yes rfl (Evt.some _)
  | false => exact Evt.no (by simp) (Evt.some _)
/- impl.firstCode -/
theorem e68 (l : List Int) (hl : (l.length : Int) ≤ 140737488351232) : Evt (fun n => call T C n 68 (l, ())) ((fst0 l, ()), ()) := by
  refine Evt.next ?_ (fun n => r68 n l)
  refine loop_evt (fun (x : List Int × Int × Int × Unit) => x.1 = l ∧ x.2.1 = (l.length : Int) ∧ 0 ≤ x.2.2.1 ∧ x.2.2.1 ≤ (l.length : Int) ∧ fst0 l = fst0 (l.drop x.2.2.1.toNat)) (fun (x : List Int × Int × Int × Unit) => ((l.length : Int) - x.2.2.1).toNat) (x := (l, (l.length : Int), 0, ())) ⟨rfl, rfl, Int.le_refl _, by simp, by simp⟩ ?_
  rintro ⟨x1, m, i, _⟩ ⟨h', hm, h0, h1, h2⟩
  simp only at h' hm h0 h1 h2
  subst h'; subst hm
  refine Round.ite (fun hlt => ?_) (fun hge => ?_)
  · have hlt : i < (x1.length : Int) := of_decide_eq_true hlt
    obtain ⟨v, hv, hv'⟩ := idx_at h0 hlt
    have hd := drop_cons hv'
    refine Round.at hv (Round.ite (fun hb => ?_) (fun hb => ?_))
    · have hb : v ≠ 0 := by simpa using hb
      have h3 : fst0 x1 = v := by rw [h2, hd]; simp [fst0, hb]
      rw [h3]
      exact Round.done (Evt.some _)
    · have hb : v = 0 := by simpa using hb
      have hw : wr .i64 (i + 1) = i + 1 := wrap_id (by omega) (by omega)
      refine Round.again _ ⟨⟨rfl, rfl, ?_, ?_, ?_⟩, ?_⟩ <;> simp only [hw]
      · omega
      · omega
      · rw [h2, hd, show (i + 1).toNat = i.toNat + 1 by omega]
        simp [fst0, hb]
      · omega
  · have hge : ¬ i < (x1.length : Int) := by simpa using hge
    have : x1.drop i.toNat = [] := List.drop_of_length_le (by omega)
    rw [h2, this]
    exact Round.done (Evt.some _)
/- slices.Clone[impl.Cam,int16] -/
theorem e74 (l : List Int) (h0 : l.length ≠ 0) (hl : (l.length : Int) ≤ 1000000) : Evt (fun n => call T C n 74 (l, ())) ((l, ()), ()) :=
  Evt.next (Evt.yes (decide_eq_true h0) (Evt.chk (by simp; omega) (Evt.some _))) (fun n => r74 n l)
/- impl.floorDiv -/
theorem e187 {a b : Int} (hb : 0 < b) (h1 : -4500000000000000000 ≤ a) (h2 : a ≤ 4500000000000000000) : Evt (fun n => call T C n 187 (a, b, ())) ((a / b, ()), ()) := by
  have hbd := ediv_bd hb h1 h2 (by omega)
  have he := floorDiv_eq (a := a) hb
  refine Evt.next (Evt.chk (bne_pos hb) (Evt.chk (bne_pos hb) (Evt.ite (fun h => ?_) (fun h => ?_)))) (fun n => r187 n a b)
  · have h : Int.tmod a b < 0 := of_decide_eq_true h
    rw [if_pos h] at he
    refine (Evt.some _).of_eq fun n => ?_
    rw [wrap_id (x := Int.tdiv a b) (by omega) (by omega), wrap_id (by omega) (by omega), he]
    rfl
  · have h : ¬ Int.tmod a b < 0 := by simpa using h
    rw [if_neg h] at he
    refine (Evt.some _).of_eq fun n => ?_
    rw [wrap_id (x := Int.tdiv a b) (by omega) (by omega), he]
    rfl
/- impl.mod -/
theorem e136 {a b : Int} (hb : 0 < b) (hb' : b ≤ 1000000000000) (h1 : -1000000000000 ≤ a) (h2 : a ≤ 1000000000000) : Evt (fun n => call T C n 136 (a, b, ())) ((a % b, ()), ()) := by
  have hd := Int.emod_def a b
  have h3 := Int.emod_nonneg a (show b ≠ 0 by omega)
  have h4 := Int.emod_lt_of_pos a hb
  refine Evt.next (Evt.bind (e187 hb (by omega) (by omega)) ((Evt.some _).of_eq fun n => ?_)) (fun n => r136 n a b)
  simp only
  rw [wrap_id (x := b * (a / b)) (by omega) (by omega), ← hd, wrap_id (by omega) (by omega)]
  rfl
/- (impl.Cam).at -/
theorem e160 {l : List Int} (hr : Rng l) (h0 : 0 < (l.length : Int)) (h1 : (l.length : Int) ≤ 1000000) {x : Int} (hx : -4000000 ≤ x) (hx' : x ≤ 4000000) : Evt (fun n => call T C n 160 (l, x, ())) ((cAt l x, ()), ()) := by
  have hp := Int.emod_nonneg x (show (l.length : Int) ≠ 0 by omega)
  have hq := Int.emod_lt_of_pos x h0
  have hv := g_idx (l := l) hp hq
  refine Evt.next (Evt.bind (e113 l) (Evt.bind (e136 (a := x) h0 (by omega) (by omega) (by omega)) (Evt.at hv.idx ((Evt.some _).of_eq fun n => ?_)))) (fun n => r160 n l x)
  rw [hr.id hv.mem]
  rfl
/- (impl.Cam).change -/
theorem e129 {c : List Int} (hr : Rng c) (h0 : 0 < c.length) (h1 : c.length ≤ 1000) {x : Int} (x0 : -1000000 ≤ x) (x1 : x ≤ 1000000) : Evt (fun n => call T C n 129 (c, x, ())) ((cAt c (x + 1) - cAt c x, ()), ()) := by
  have b1 := hr.el _ (cAt_mem h0 (x + 1))
  have b2 := hr.el _ (cAt_mem h0 x)
  refine Evt.next ?_ (fun n => r129 n c x)
  rw [wrap_id (x := x + 1) (by omega) (by omega)]
  refine Evt.bind (e160 hr (by omega) (by omega) (by omega) (by omega)) (Evt.bind (e160 hr (by omega) (by omega) (by omega) (by omega)) ((Evt.some _).of_eq fun n => ?_))
  show some ((wr .i64 (cAt c (x + 1) - cAt c x), ()), ()) = _
  rw [wrap_id (x := cAt c (x + 1) - cAt c x) (by omega) (by omega)]
  rfl
/- (impl.Cam).bend -/
theorem e135 {c : List Int} (hr : Rng c) (h0 : 0 < c.length) (h1 : c.length ≤ 1000) {x : Int} (x0 : -100000 ≤ x) (x1 : x ≤ 100000) : Evt (fun n => call T C n 135 (c, x, ())) ((bendP c x, ()), ()) := by
  have b1 := hr.el _ (cAt_mem h0 (x + 1))
  have b2 := hr.el _ (cAt_mem h0 x)
  have b3 := hr.el _ (cAt_mem h0 (x - 1))
  refine Evt.next ?_ (fun n => r135 n c x)
  rw [wrap_id (x := x - 1) (by omega) (by omega)]
  refine Evt.bind (e129 hr h0 h1 (by omega) (by omega)) (Evt.bind (e129 hr h0 h1 (by omega) (by omega)) ((Evt.some _).of_eq fun n => ?_))
  show some ((wr .i64 (cAt c (x + 1) - cAt c x - (cAt c (x - 1 + 1) - cAt c (x - 1))), ()), ()) = _
  rw [show x - 1 + 1 = x by omega, wrap_id (by omega) (by omega), show cAt c (x + 1) - cAt c x - (cAt c x - cAt c (x - 1)) = bendP c x by unfold bendP; omega]
  rfl
/- impl.abs -/
theorem e134 {a : Int} (h1 : -1000000000000 ≤ a) (h2 : a ≤ 1000000000000) : Evt (fun n => call T C n 134 (a, ())) ((siz a, ()), ()) := by
  refine Evt.next ((Evt.some _).of_eq fun n => ?_) (fun n => r134 n a)
  rw [wrap_id (x := 0 - a) (by omega) (by omega)]
  unfold siz
  have : (if 0 - a > a then 0 - a else a) = if a < 0 then -a else a := by split <;> split <;> omega
  rw [this]
  rfl
/- impl.isPlace -/
theorem e148 (a b : Int) : Evt (fun n => call T C n 148 (a, b, ())) ((inR a 0 (wr .i64 (b - 1)), ()), ()) := Evt.next (Evt.bind (e103 _ _ _) (Evt.some _)) (fun n => r148 n a b)
/- (impl.stretch).height -/
theorem e188 {c : List Int} (hr : Rng c) (h0 : 0 < (c.length : Int)) (h1 : (c.length : Int) ≤ 1000000) (f m lo : Int) (l0 : 0 ≤ lo) (l1 : lo ≤ 9937) {s : Int} (s0 : -4000000 ≤ s) (s1 : s ≤ 4000000) : Evt (fun n => call T C n 188 ((c, (f, (m, (lo, ())))), s, ())) ((hgt c lo s, ()), ()) := by
  have b1 := hr.el _ (cAt_mem (by omega) s)
  refine Evt.next (Evt.bind (e160 hr h0 h1 s0 s1) ((Evt.some _).of_eq fun n => ?_)) (fun n => r188 n _ s)
  show some ((wr .i64 (cAt c s - lo), ()), ()) = _
  rw [wrap_id (x := cAt c s - lo) (by omega) (by omega)]
  rfl
/- (impl.stretch).code -/
theorem e137 {c : List Int} (hr : Rng c) (f m lo b : Int) : Evt (fun n => call T C n 137 ((c, (f, (m, (lo, ())))), b, ())) ((askP c f m lo b, ()), ()) := by
  have hl := hr.len'
  refine Evt.next (Evt.bind (e113 c) (Evt.bind (e39 c (by omega)) (Evt.bind (e69 _ _) (Evt.bind (e148 _ _) ?_)))) (fun n => r137 n _ b)
  unfold askP
  have bad : ∀ (v : Int) (X : Nat → Option ((Int × Unit) × Unit)), Evt (fun n => (call T C n 68 (([(if (!okC c) = true then (1 : Int) else 0), v] : List Int), ())).bind fun r => if (r.1.1 != (0 : Int)) = true then some ((r.1.1, ()), ()) else X n) ((fst0 [(if (!okC c) = true then (1 : Int) else 0), v], ()), ()) ∨ fst0 [(if (!okC c) = true then (1 : Int) else 0), v] = 0 := by
    intro v X
    by_cases h : fst0 [(if (!okC c) = true then (1 : Int) else 0), v] = 0
    · exact .inr h
    · exact .inl (Evt.bind (e68 _ (by simp)) (Evt.yes (by simpa using h) (Evt.some _)))
  cases hc : okC c with
  | false =>
    have h1 : ∀ v : Int, fst0 [(if (!false) = true then (1 : Int) else 0), v] = 1 := fun v => rfl
    have bad1 : ∀ (v : Int) (X : Nat → Option ((Int × Unit) × Unit)), Evt (fun n => (call T C n 68 (([(if (!false) = true then (1 : Int) else 0), v] : List Int), ())).bind fun r => if (r.1.1 != (0 : Int)) = true then some ((r.1.1, ()), ()) else X n) ((1, ()), ()) := fun v X => Evt.bind (e68 _ (by simp)) (Evt.yes rfl (Evt.some _))
    refine Evt.ite (fun _ => Evt.bind (e69 _ _) (bad1 _ _)) (fun _ => Evt.bind (e103 _ _ _) (Evt.ite (fun _ => Evt.bind (e69 _ _) (bad1 _ _)) (fun _ => Evt.bind (e103 _ _ _) (Evt.ite (fun _ => Evt.bind (e69 _ _) (bad1 _ _)) (fun _ => Evt.bind (e103 _ _ _) (Evt.bind (e69 _ _) (bad1 _ _)))))))
  | true =>
  have hlen := okC_len hc
  have bad2 : ∀ (X : Nat → Option ((Int × Unit) × Unit)), Evt (fun n => (call T C n 68 (([(if (!true) = true then (1 : Int) else 0), (if true = true then (2 : Int) else 0)] : List Int), ())).bind fun r => if (r.1.1 != (0 : Int)) = true then some ((r.1.1, ()), ()) else X n) ((2, ()), ()) := fun X => Evt.bind (e68 _ (by simp)) (Evt.yes rfl (Evt.some _))
  have hmin : (if wr .i64 ((c.length : Int) - 4) < (40 : Int) then wr .i64 ((c.length : Int) - 4) else (40 : Int)) = min 40 ((c.length : Int) - 4) := by
    rw [wrap_id (x := (c.length : Int) - 4) (by omega) (by omega)]; split <;> omega
  rw [wrap_id (x := (c.length : Int) - 1) (by omega) (by omega)]
  rw [hmin]
  cases h1 : inR f 0 ((c.length : Int) - 1) with
  | false => exact Evt.yes rfl (Evt.bind (e69 _ _) (bad2 _))
  | true =>
  refine Evt.no (by simp) (Evt.bind (e103 _ _ _) ?_)
  cases h2 : inR m 1 (min 40 ((c.length : Int) - 4)) with
  | false => exact Evt.yes rfl (Evt.bind (e69 _ _) (bad2 _))
  | true =>
  refine Evt.no (by simp) (Evt.bind (e103 _ _ _) ?_)
  cases h3 : inR lo 0 9937 with
  | false => exact Evt.yes rfl (Evt.bind (e69 _ _) (bad2 _))
  | true =>
  refine Evt.no (by simp) (Evt.bind (e103 _ _ _) (Evt.bind (e69 _ _) ?_))
  cases h4 : inR b 0 40000 with
  | false => exact bad2 _
  | true =>
  refine Evt.bind (e68 _ (by simp)) (Evt.no (by decide) ?_)
  have g1 := inR_iff.1 h1
  have g2 := inR_iff.1 h2
  have g3 := inR_iff.1 h3
  rw [wrap_id (x := f - 2) (by omega) (by omega), wrap_id (x := f - 1) (by omega) (by omega), wrap_id (x := f + m) (by omega) (by omega), wrap_id (x := f + m + 1) (by omega) (by omega)]
  refine Evt.at (x := 0) rfl (Evt.at (x := 0) rfl (Evt.at (x := 0) rfl (Evt.at (x := 0) rfl ?_)))
  refine for_evt' 0 4 (fun i (_ : Unit) => ((c, (f, (m, (lo, ())))), [f - 2, f - 1, f + m, f + m + 1], i, ())) (fun i _ => (0 < i → inR (hgt c lo (f - 2)) 0 63 = true) ∧ (1 < i → inR (hgt c lo (f - 1)) 0 63 = true) ∧ (2 < i → inR (hgt c lo (f + m)) 0 63 = true) ∧ (3 < i → inR (hgt c lo (f + m + 1)) 0 63 = true)) (b0 := ()) rfl (by omega) ⟨by omega, by omega, by omega, by omega⟩ ?_ ?_
  · intro i _ i0 i1 hp
    obtain ⟨s, s0, s1, hs, hbad, hgood⟩ : ∃ s : Int, -4000000 ≤ s ∧ s ≤ 4000000 ∧ idx [f - 2, f - 1, f + m, f + m + 1] i = some s ∧ (inR (hgt c lo s) 0 63 = false → (inR (hgt c lo (f - 2)) 0 63 && inR (hgt c lo (f - 1)) 0 63 && inR (hgt c lo (f + m)) 0 63 && inR (hgt c lo (f + m + 1)) 0 63) = false) ∧ (inR (hgt c lo s) 0 63 = true → (0 < i + 1 → inR (hgt c lo (f - 2)) 0 63 = true) ∧ (1 < i + 1 → inR (hgt c lo (f - 1)) 0 63 = true) ∧ (2 < i + 1 → inR (hgt c lo (f + m)) 0 63 = true) ∧ (3 < i + 1 → inR (hgt c lo (f + m + 1)) 0 63 = true)) := by
      rcases (show i = 0 ∨ i = 1 ∨ i = 2 ∨ i = 3 by omega) with e | e | e | e <;> subst e
      · exact ⟨f - 2, by omega, by omega, rfl, fun h => by rw [h]; rfl, fun h => ⟨fun _ => h, by omega, by omega, by omega⟩⟩
      · exact ⟨f - 1, by omega, by omega, rfl, fun h => by rw [h]; simp, fun h => ⟨fun _ => hp.1 (by omega), fun _ => h, by omega, by omega⟩⟩
      · exact ⟨f + m, by omega, by omega, rfl, fun h => by rw [h]; simp, fun h => ⟨fun _ => hp.1 (by omega), fun _ => hp.2.1 (by omega), fun _ => h, by omega⟩⟩
      · exact ⟨f + m + 1, by omega, by omega, rfl, fun h => by rw [h]; simp, fun h => ⟨fun _ => hp.1 (by omega), fun _ => hp.2.1 (by omega), fun _ => hp.2.2.1 (by omega), fun _ => h⟩⟩
    refine Round.yes (decide_eq_true i1) (Round.at hs (Round.bind (e188 hr (by omega) (by omega) f m lo (by omega) (by omega) s0 s1) (Round.bind (e103 _ _ _) (Round.ite (fun h => ?_) (fun h => ?_)))))
    · have h : inR (hgt c lo s) 0 63 = false := by simpa using h
      rw [hbad h]
      exact Round.done (Evt.some _)
    · have h : inR (hgt c lo s) 0 63 = true := by simpa using h
      refine Round.again _ ⟨(), ?_, hgood h⟩
      rw [wrap_id (x := i + 1) (by omega) (by omega)]
  · intro _ hp
    rw [hp.1 (by omega), hp.2.1 (by omega), hp.2.2.1 (by omega), hp.2.2.2 (by omega)]
    exact Round.no (by simp) (Round.done (Evt.some _))
/- impl.span -/
theorem e218 {A B : Int} (a0 : -1000000 ≤ A) (a1 : A ≤ 1000000) (b0 : -1000000 ≤ B) (b1 : B ≤ 1000000) : Evt (fun n => call T C n 218 (A, B, ())) ((row fun z => decide (A ≤ z ∧ (z : Int) ≤ B), ()), ()) := by
  obtain ⟨A', hA'⟩ : ∃ A' : Int, A' = if (0 : Int) > A then 0 else A := ⟨_, rfl⟩
  obtain ⟨B', hB'⟩ : ∃ B' : Int, B' = if (63 : Int) < B then 63 else B := ⟨_, rfl⟩
  have ha : 0 ≤ A' ∧ A' ≤ 1000000 ∧ A ≤ A' ∧ (A' = A ∨ A' = 0) := by rw [hA']; split <;> omega
  have hb : B' ≤ 63 ∧ -1000000 ≤ B' ∧ B' ≤ B ∧ (B' = B ∨ B' = 63) := by rw [hB']; split <;> omega
  refine Evt.next ?_ (fun n => r218 n A B)
  rw [← hA', ← hB']
  have he : (row fun z => decide (A ≤ z ∧ (z : Int) ≤ B)) = row fun z => decide (A' ≤ z ∧ (z : Int) ≤ B') := row_congr fun z hz => by rw [Bool.eq_iff_iff, decide_eq_true_eq, decide_eq_true_eq]; omega
  rw [he]
  refine Evt.ite (fun h => ?_) (fun h => ?_)
  · have h : A' > B' := of_decide_eq_true h
    rw [row_none fun z hz => decide_eq_false (by omega)]
    exact Evt.some _
  · have h : ¬ A' > B' := by simpa using h
    refine Evt.chk (decide_eq_true ?_) (Evt.chk (decide_eq_true (by omega)) ((Evt.some _).of_eq fun n => ?_))
    · rw [wrap_id (x := 63 - B') (by omega) (by omega), wrap_id (by omega) (by omega)]; omega
    · rw [span_val (by omega) (by omega) h]
      rfl
/- impl.leads -/
theorem e192 {b : Int} (b0 : 0 ≤ b) (b1 : b ≤ 40000) {x y : Nat} (hx : x < 64) (hy : y < 64) : Evt (fun n => call T C n 192 ((x : Int), (y : Int), b, ())) ((row (sp b x y), ()), ()) := by
  refine Evt.next ?_ (fun n => r192 n x y b)
  rw [wrap_id (x := 2 * (y : Int)) (by omega) (by omega), wrap_id (x := 2 * (y : Int) - x) (by omega) (by omega), wrap_id (x := 2 * (y : Int) - x - b) (by omega) (by omega), wrap_id (x := 2 * (y : Int) - x + b) (by omega) (by omega)]
  exact Evt.bind (e218 (by omega) (by omega) (by omega) (by omega)) (Evt.some _)
/- (impl.stretch).allowed -/
theorem e217 {c : List Int} (hr : Rng c) {f m lo b : Int} (G : GoodS c f m lo b) {k : Nat} (hk : (k : Int) ≤ m + 1) : Evt (fun n => call T C n 217 ((c, (f, (m, (lo, ())))), (k : Int), ())) ((row (al c f m lo k), ()), ()) := by
  have hl := G.len; have hf := G.hf; have hlo := G.hlo; have hm := G.hm
  refine Evt.next ?_ (fun n => r217 n _ k)
  refine Evt.ite (fun h => ?_) (fun h => ?_)
  · have h : (k : Int) < m := of_decide_eq_true h
    have : row (al c f m lo k) = 18446744073709551615 := by
      rw [row_ones]; exact row_congr fun z hz => by unfold al; simp [h]
    rw [this]; exact Evt.some _
  · have h : ¬ (k : Int) < m := by simpa using h
    have hw := G.fix (k := k) h hk
    rw [wrap_id (x := f + (k : Int)) (by omega) (by omega)]
    refine Evt.bind (e188 hr (by omega) (by omega) f m lo (by omega) (by omega) (by omega) (by omega)) (Evt.chk (decide_eq_true hw.1) ((Evt.some _).of_eq fun n => ?_))
    obtain ⟨w, hw'⟩ : ∃ w : Nat, hgt c lo (f + k) = w := ⟨(hgt c lo (f + k)).toNat, by omega⟩
    have hw64 : w < 64 := by omega
    show some ((shl_ .u64 (1 : Int) (hgt c lo (f + k)), ()), ()) = _
    rw [hw', row_one hw64]
    have : row (fun z => z == w) = row (al c f m lo k) := row_congr fun z hz => by
      unfold al
      rw [hw', show decide ((k : Int) < m) = false from decide_eq_false h, Bool.eq_iff_iff]
      simp only [beq_iff_eq, Bool.false_or, decide_eq_true_eq]
      omega
    rw [this]
    rfl
/- (impl.stretch).behind -/
theorem e189 {c : List Int} (hr : Rng c) {f m lo b : Int} (G : GoodS c f m lo b) : Evt (fun n => call T C n 189 ((c, (f, (m, (lo, ())))), b, ())) ((tb (m.toNat + 3) (fun j => gR (can (qq c f m lo b) (m.toNat + 2 - j) j)), ()), ()) := by
  have hm := G.hm; have hb := G.hb
  obtain ⟨M, hM⟩ : ∃ M : Nat, (M : Int) = m := ⟨m.toNat, by omega⟩
  have hMm : m.toNat = M := by omega
  rw [hMm]
  obtain ⟨q, hq⟩ : ∃ q, q = qq c f m lo b := ⟨_, rfl⟩
  obtain ⟨tt, htt⟩ : ∃ tt : Nat → Nat → Nat → Bool, tt = fun j => can q (M + 2 - j) j := ⟨_, rfl⟩
  rw [← hq]
  have w1 : wr .i64 (m + 2) = ((M + 2 : Nat) : Int) := by rw [wrap_id (by omega) (by omega)]; omega
  have w2 : wr .i64 (((M + 2 : Nat) : Int) + 1) = ((M + 3 : Nat) : Int) := by rw [wrap_id (by omega) (by omega)]; omega
  have w3 : wr .i64 (((M + 2 : Nat) : Int) - 1) = ((M + 2 : Nat) : Int) - 1 := wrap_id (by omega) (by omega)
  refine Evt.next ?_ (fun n => r189 n _ b)
  dsimp only
  rw [w1, w2]
  refine Evt.chk (decide_eq_true ⟨rfl, by omega, by omega⟩) ?_
  have lastG : gR (tt (M + 2)) = gR fun _ _ => true := gR_ext fun x y _ _ => by rw [htt]; show can q (M + 2 - (M + 2)) (M + 2) x y = true; rw [Nat.sub_self]; rfl
  -- the grids behind, made from the last one on
  have main : Evt (fun n => loopK (fun (x7 : Int × ((List Int) × (Int × (Int × (Int × Unit)))) × (List (List Int)) × Int × Unit) again8 => 
    (if (decide (x7.2.2.2.1 ≥ (0 : Int))) = true then 
  loopK (fun (x11 : Int × ((List Int) × (Int × (Int × (Int × Unit)))) × (List (List Int)) × Int × Int × Unit) again12 => 
    (if (decide (x11.2.2.2.2.1 < (64 : Int))) = true then 
  loopK (fun (x15 : Int × ((List Int) × (Int × (Int × (Int × Unit)))) × (List (List Int)) × Int × Int × Int × Int × Unit) again16 => 
    (if (decide (x15.2.2.2.2.2.2.1 < (64 : Int))) = true then (
   call T C n 192 (x15.2.2.2.2.1, x15.2.2.2.2.2.2.1, x15.1, ())).bind fun r19 => (
   call T C n 217 (x15.2.1, x15.2.2.2.1, ())).bind fun r20 => chk (decide (0 ≤ (wr .i64 (x15.2.2.2.1 + (1 : Int))) ∧ (wr .i64 (x15.2.2.2.1 + (1 : Int))) < (x15.2.2.1.length : Int))) (chk (decide (0 ≤ x15.2.2.2.2.2.2.1 ∧ x15.2.2.2.2.2.2.1 < ((64 : Nat) : Int))) ((x15.2.2.1[(Int.toNat (wr .i64 (x15.2.2.2.1 + (1 : Int))))]?).bind fun v21 => (v21[(Int.toNat x15.2.2.2.2.2.2.1)]?).bind fun v22 => 
    (if ((bitsI .and .u64 (bitsI .and .u64 r19.1.1 r20.1.1) v22) != (0 : Int)) = true then chk (decide (0 ≤ x15.2.2.2.1 ∧ x15.2.2.2.1 < (x15.2.2.1.length : Int))) (chk (decide (0 ≤ x15.2.2.2.2.1 ∧ x15.2.2.2.2.1 < ((64 : Nat) : Int))) ((x15.2.2.1[(Int.toNat x15.2.2.2.1)]?).bind fun v23 => (v23[(Int.toNat x15.2.2.2.2.1)]?).bind fun v24 => chk (decide (0 ≤ x15.2.2.2.2.2.2.1)) (chk (decide (0 ≤ x15.2.2.2.1 ∧ x15.2.2.2.1 < (x15.2.2.1.length : Int))) (chk (decide (0 ≤ x15.2.2.2.2.1 ∧ x15.2.2.2.2.1 < ((64 : Nat) : Int))) ((x15.2.2.1[(Int.toNat x15.2.2.2.1)]?).bind fun v25 => (v25[(Int.toNat x15.2.2.2.2.1)]?).bind fun v26 => again16 (x15.1, x15.2.1, (x15.2.2.1.set (Int.toNat x15.2.2.2.1) (v25.set (Int.toNat x15.2.2.2.2.1) (bitsI .or .u64 v24 (shl_ .u64 (1 : Int) x15.2.2.2.2.2.2.1)))), x15.2.2.2.1, x15.2.2.2.2.1, x15.2.2.2.2.2.1, (wr .i64 (x15.2.2.2.2.2.2.1 + (1 : Int))), ())))))) else again16 (x15.1, x15.2.1, x15.2.2.1, x15.2.2.2.1, x15.2.2.2.2.1, x15.2.2.2.2.2.1, (wr .i64 (x15.2.2.2.2.2.2.1 + (1 : Int))), ())))) else again12 (x15.1, x15.2.1, x15.2.2.1, x15.2.2.2.1, (wr .i64 (x15.2.2.2.2.2.1 + (1 : Int))), ()))) n (x11.1, x11.2.1, x11.2.2.1, x11.2.2.2.1, x11.2.2.2.2.1, x11.2.2.2.2.1, (0 : Int), ()) else again8 (x11.1, x11.2.1, x11.2.2.1, (wr .i64 (x11.2.2.2.1 - (1 : Int))), ()))) n (x7.1, x7.2.1, x7.2.2.1, x7.2.2.2.1, (0 : Int), ()) else some ((x7.2.2.1, ()), (())))) n (b, (c, (f, (m, (lo, ())))), tb (M + 3) (fun j => if M + 2 ≤ j then gR (tt j) else List.replicate 64 (0 : Int)), ((M + 2 : Nat) : Int) - 1, ())) ((tb (M + 3) (fun j => gR (tt j)), ()), ()) := by
    refine for_evt' 0 ((M + 2 : Nat) : Int) (fun i (_ : Unit) => (b, (c, (f, (m, (lo, ())))), tb (M + 3) (fun j => if M + 2 - i.toNat ≤ j then gR (tt j) else List.replicate 64 (0 : Int)), ((M + 2 : Nat) : Int) - 1 - i, ())) (fun _ _ => True) (b0 := ()) (by simp) (by omega) trivial ?_ ?_
    · intro i _ i0 i1 _
      obtain ⟨k, hk⟩ : ∃ k : Nat, (k : Int) = ((M + 2 : Nat) : Int) - 1 - i := ⟨(((M + 2 : Nat) : Int) - 1 - i).toNat, by omega⟩
      have hk1 : (k : Int) ≤ m + 1 := by omega
      have hi : M + 2 - i.toNat = k + 1 := by omega
      have hi2 : M + 2 - (i + 1).toNat = k := by omega
      rw [hi, hi2, ← hk, show ((M + 2 : Nat) : Int) - 1 - (i + 1) = (k : Int) - 1 by omega]
      have w4 : wr .i64 ((k : Int) + 1) = ((k + 1 : Nat) : Int) := by rw [wrap_id (by omega) (by omega)]; omega
      have w5 : wr .i64 ((k : Int) - 1) = (k : Int) - 1 := wrap_id (by omega) (by omega)
      have tk : ∀ x y, tt k x y = (List.range 64).any fun z => q k x y z && tt (k + 1) y z := by
        intro x y
        rw [htt]
        show can q (M + 2 - k) k x y = _
        rw [show M + 2 - k = (M + 2 - (k + 1)) + 1 by omega]
        rfl
      refine Round.yes (decide_eq_true (show (k : Int) ≥ 0 by omega)) ?_
      dsimp only
      refine for_round' 0 64 (fun x (_ : Unit) => (b, (c, (f, (m, (lo, ())))), tb (M + 3) (fun j => if k + 1 ≤ j then gR (tt j) else if j = k then pg (tt k) x.toNat 0 else List.replicate 64 (0 : Int)), (k : Int), x, ())) (fun _ _ => True) (b0 := ()) ?_ (by omega) trivial ?_ ?_
      · rw [show tb (M + 3) (fun j => if k + 1 ≤ j then gR (tt j) else List.replicate 64 (0 : Int)) = tb (M + 3) (fun j => if k + 1 ≤ j then gR (tt j) else if j = k then pg (tt k) (0 : Int).toNat 0 else List.replicate 64 (0 : Int)) from tb_ext fun j _ => by
          split
          · rfl
          · split
            · exact (pg_zero _).symm
            · rfl]
      · intro x _ x0 x1 _
        obtain ⟨x, rfl⟩ : ∃ x' : Nat, x = x' := ⟨x.toNat, by omega⟩
        have hx : x < 64 := by omega
        rw [Int.toNat_natCast]
        refine Round.yes (decide_eq_true x1) ?_
        dsimp only
        refine for_round' 0 64 (fun y (_ : Unit) => (b, (c, (f, (m, (lo, ())))), tb (M + 3) (fun j => if k + 1 ≤ j then gR (tt j) else if j = k then pg (tt k) x y.toNat else List.replicate 64 (0 : Int)), (k : Int), (x : Int), (x : Int), y, ())) (fun _ _ => True) (b0 := ()) rfl (by omega) trivial ?_ ?_
        · intro y _ y0 y1 _
          obtain ⟨y, rfl⟩ : ∃ y' : Nat, y = y' := ⟨y.toNat, by omega⟩
          have hy : y < 64 := by omega
          rw [Int.toNat_natCast]
          dsimp only
          rw [w4]
          rw [tb_len]
          refine Round.yes (decide_eq_true y1) (Round.bind (e192 (by omega) (by omega) hx hy) (Round.bind (e217 hr G hk1) (Round.chk (decide_eq_true ⟨by omega, by omega⟩) (Round.chk (decide_eq_true ⟨by omega, Int.ofNat_lt.2 hy⟩) (Round.at (v := gR (tt (k + 1))) (by rw [Int.toNat_natCast, tb_get (by omega), if_pos (Nat.le_refl _)]) (Round.at (v := row (tt (k + 1) y)) (gR_get _ hy) ?_))))))
          dsimp only
          have hc : (bitsI .and .u64 (bitsI .and .u64 (row (sp b x y)) (row (al c f m lo k))) (row (tt (k + 1) y)) != (0 : Int)) = tt k x y := by
            rw [row_and, row_and, row_ne, tk, hq]
            rfl
          have hat : (tb (M + 3) (fun j => if k + 1 ≤ j then gR (tt j) else if j = k then pg (tt k) x y else List.replicate 64 (0 : Int)))[(Int.toNat (k : Int))]? = some (pg (tt k) x y) := by
            rw [Int.toNat_natCast, tb_get (by omega), if_neg (by omega), if_pos rfl]
          rw [hc, hat, wrap_id (x := (y : Int) + 1) (by omega) (by omega)]
          refine Round.ite (fun h => ?_) (fun h => ?_)
          · refine Round.chk (decide_eq_true ⟨by omega, by omega⟩) (Round.chk (decide_eq_true ⟨by omega, Int.ofNat_lt.2 hx⟩) (Round.at rfl (Round.at (pg_get _ hx) (Round.chk (decide_eq_true (by omega)) (Round.chk (decide_eq_true ⟨by omega, by omega⟩) (Round.chk (decide_eq_true ⟨by omega, Int.ofNat_lt.2 hx⟩) (Round.at rfl (Round.at (pg_get _ hx) (Round.inr _ ⟨(), ?_, trivial⟩)))))))))
            try simp only [Int.toNat_natCast]
            rw [pg_put hy h, tb_set, show ((y : Int) + 1).toNat = y + 1 by omega]
            rw [show tb (M + 3) (fun j => if j = k then pg (tt k) x (y + 1) else if k + 1 ≤ j then gR (tt j) else if j = k then pg (tt k) x y else List.replicate 64 (0 : Int)) = tb (M + 3) (fun j => if k + 1 ≤ j then gR (tt j) else if j = k then pg (tt k) x (y + 1) else List.replicate 64 (0 : Int)) from tb_ext fun j _ => by
              by_cases e : j = k
              · subst e; rw [if_pos rfl, if_neg (by omega), if_pos rfl]
              · rw [if_neg e, if_neg e, if_neg e]]
          · have h : tt k x y = false := by simpa using h
            refine Round.inr _ ⟨(), ?_, trivial⟩
            rw [show ((y : Int) + 1).toNat = y + 1 by omega, pg_skip h]
        · intro _ _
          refine Round.no (by simp) (Round.inl _ ⟨(), ?_, trivial⟩)
          dsimp only
          rw [wrap_id (x := (x : Int) + 1) (by omega) (by omega), show (64 : Int).toNat = 64 from rfl, pg_next, show ((x : Int) + 1).toNat = x + 1 by omega]
      · intro _ _
        refine Round.no (by simp) (Round.again _ ⟨(), ?_, trivial⟩)
        dsimp only
        rw [w5, show (64 : Int).toNat = 64 from rfl, pg_full]
        rw [show tb (M + 3) (fun j => if k + 1 ≤ j then gR (tt j) else if j = k then gR (tt k) else List.replicate 64 (0 : Int)) = tb (M + 3) (fun j => if k ≤ j then gR (tt j) else List.replicate 64 (0 : Int)) from tb_ext fun j _ => by
          by_cases e : j = k
          · subst e; rw [if_neg (by omega), if_pos rfl, if_pos (Nat.le_refl _)]
          · by_cases e2 : k ≤ j
            · rw [if_pos (by omega), if_pos e2]
            · rw [if_neg (by omega), if_neg e, if_neg e2]]
    · intro _ _
      refine Round.no (by simp; omega) (Round.done ?_)
      dsimp only
      rw [show tb (M + 3) (fun j => if M + 2 - ((M + 2 : Nat) : Int).toNat ≤ j then gR (tt j) else List.replicate 64 (0 : Int)) = tb (M + 3) (fun j => gR (tt j)) from tb_ext fun j _ => if_pos (by rw [Int.toNat_natCast]; omega)]
      exact Evt.some _
  refine for_evt' 0 64 (fun x (_ : Unit) => (b, (c, (f, (m, (lo, ())))), ((M + 2 : Nat) : Int), tb (M + 3) (fun j => if j = M + 2 then gR (fun x' _ => decide (x' < x.toNat)) else List.replicate 64 (0 : Int)), x, ())) (fun _ _ => True) (b0 := ()) ?_ (by omega) trivial ?_ ?_
  · rw [Int.toNat_natCast, tb_rep (M + 3)]
    rw [show tb (M + 3) (fun j => if j = M + 2 then gR (fun x' _ => decide (x' < (0 : Int).toNat)) else List.replicate 64 (0 : Int)) = tb (M + 3) (fun _ => List.replicate 64 (0 : Int)) from tb_ext fun j _ => by
      split
      · rw [gR_zero]; exact gR_ext fun _ _ _ _ => by simp
      · rfl]
  · intro x _ x0 x1 _
    obtain ⟨x, rfl⟩ : ∃ x' : Nat, x = x' := ⟨x.toNat, by omega⟩
    have hx : x < 64 := by omega
    dsimp only
    rw [tb_len, Int.toNat_natCast]
    refine Round.yes (decide_eq_true x1) (Round.chk (decide_eq_true ⟨by omega, by omega⟩) (Round.chk (decide_eq_true ⟨by omega, Int.ofNat_lt.2 hx⟩) (Round.at (by rw [Int.toNat_natCast, tb_get (by omega), if_pos rfl]) (Round.at (gR_get _ hx) (Round.again _ ⟨(), ?_, trivial⟩)))))
    try simp only [Int.toNat_natCast]
    rw [row_ones, gR_set, tb_set, wrap_id (x := (x : Int) + 1) (by omega) (by omega), show ((x : Int) + 1).toNat = x + 1 by omega]
    rw [show tb (M + 3) (fun j => if j = M + 2 then gR (fun x' y' => if x' = x then true else decide (x' < x)) else if j = M + 2 then gR (fun x' _ => decide (x' < x)) else List.replicate 64 (0 : Int)) = tb (M + 3) (fun j => if j = M + 2 then gR (fun x' _ => decide (x' < x + 1)) else List.replicate 64 (0 : Int)) from tb_ext fun j _ => by
      split
      · refine gR_ext fun x' _ _ _ => ?_
        by_cases e : x' = x
        · subst e; simp
        · rw [if_neg e, decide_eq_decide]; omega
      · rfl]
  · intro _ _
    refine Round.no (by simp) (Round.done ?_)
    dsimp only
    rw [w3]
    rw [show tb (M + 3) (fun j => if j = M + 2 then gR (fun x' _ => decide (x' < (64 : Int).toNat)) else List.replicate 64 (0 : Int)) = tb (M + 3) (fun j => if M + 2 ≤ j then gR (tt j) else List.replicate 64 (0 : Int)) from tb_ext fun j hj => by
      by_cases e : j = M + 2
      · subst e
        rw [if_pos rfl, if_pos (Nat.le_refl _), lastG]
        exact gR_ext fun x' _ hx' _ => decide_eq_true hx'
      · rw [if_neg e, if_neg (by omega)]]
    rw [htt] at main
    rw [htt]
    exact main
/- (impl.stretch).pair -/
theorem e190 {c : List Int} (hr : Rng c) {f m lo b : Int} (G : GoodS c f m lo b) : Evt (fun n => call T C n 190 ((c, (f, (m, (lo, ())))), ())) ((((px c f lo : Nat) : Int), ((py c f lo : Nat) : Int), ()), ()) := by
  have hl := G.len; have hf := G.hf; have hlo := G.hlo
  obtain ⟨ex, hx⟩ := G.px
  obtain ⟨ey, hy⟩ := G.py
  refine Evt.next (Evt.bind (e188 hr (by omega) (by omega) f m lo (by omega) (by omega) (s := wr .i64 (f - 2)) (by rw [wrap_id (by omega) (by omega)]; omega) (by rw [wrap_id (by omega) (by omega)]; omega)) (Evt.bind (e188 hr (by omega) (by omega) f m lo (by omega) (by omega) (s := wr .i64 (f - 1)) (by rw [wrap_id (by omega) (by omega)]; omega) (by rw [wrap_id (by omega) (by omega)]; omega)) ?_)) (fun n => r190 n _)
  rw [wrap_id (x := f - 2) (by omega) (by omega), wrap_id (x := f - 1) (by omega) (by omega), ex, ey]
  exact Evt.some _
/- impl.HasPair -/
theorem e60 (t : Nat → Nat → Bool) {x y : Nat} (hx : x < 64) (hy : y < 64) : Evt (fun n => call T C n 60 (gR t, (x : Int), (y : Int), ())) ((t x y, ()), ()) := by
  have h1 : ∀ z : Nat, z < 64 → inR (z : Int) 0 (wr .i64 (64 - 1)) = true := fun z hz => inR_iff.2 ⟨by omega, by rw [wrap_id (by omega) (by omega)]; omega⟩
  refine Evt.next (Evt.bind (e148 _ _) (Evt.yes (h1 x hx) (Evt.bind (e148 _ _) (Evt.yes (h1 y hy) (Evt.chk (decide_eq_true (by omega)) (Evt.at (x := row (t x)) (gR_get t hx) (Evt.chk (decide_eq_true (by omega)) ((Evt.some _).of_eq fun n => ?_)))))))) (fun n => r60 n _ x y)
  show some ((bif true then (bitsI .and .u64 (shr_ .u64 (row (t x)) (y : Int)) (1 : Int) == (1 : Int)) else false, ()), ()) = _
  rw [row_bit _ hy]
  rfl
/- bits.TrailingZeros64 -/
theorem e191 (p : Nat → Bool) : Evt (fun n => call T C n 191 (row p, ())) ((((fstZ p : Nat) : Int), ()), ()) := by
  refine Evt.next ?_ (fun n => r191 n (row p))
  have h : 0 ≤ row p ∧ row p < 18446744073709551616 := by have := row_lt p; unfold row; omega
  dsimp only
  rw [if_pos h, row_ctz]
  exact Evt.some _
/- (impl.stretch).fill -/
theorem e138 {c : List Int} (hr : Rng c) {f m lo b : Int} (G : GoodS c f m lo b) : Evt (fun n => call T C n 138 ((c, (f, (m, (lo, ())))), b, ())) (fillR c f m lo b, ()) := by
  have hm := G.hm; have hb := G.hb; have hlo := G.hlo
  obtain ⟨ex, hx⟩ := G.px
  obtain ⟨ey, hy⟩ := G.py
  obtain ⟨M, hM⟩ : ∃ M : Nat, (M : Int) = m := ⟨m.toNat, by omega⟩
  have hMm : m.toNat = M := by omega
  obtain ⟨q, hq⟩ : ∃ q, q = qq c f m lo b := ⟨_, rfl⟩
  obtain ⟨tt, htt⟩ : ∃ tt : Nat → Nat → Nat → Bool, tt = fun j => can q (M + 2 - j) j := ⟨_, rfl⟩
  have tk : ∀ k x y : Nat, (k : Int) ≤ m + 1 → tt k x y = (List.range 64).any fun z => q k x y z && tt (k + 1) y z := by
    intro k x y hk
    rw [htt]
    show can q (M + 2 - k) k x y = _
    rw [show M + 2 - k = (M + 2 - (k + 1)) + 1 by omega]
    rfl
  refine Evt.next (Evt.bind (e189 hr G) (Evt.bind (e190 hr G) ?_)) (fun n => r138 n _ b)
  rw [hMm, ← hq, show (fun j => gR (can q (M + 2 - j) j)) = fun j => gR (tt j) by rw [htt]]
  refine Evt.chk (decide_eq_true ⟨by omega, by dsimp only; rw [tb_len]; omega⟩) (Evt.at (x := gR (tt 0)) (tb_get (by omega)) (Evt.bind (e60 (tt 0) hx hy) ?_))
  dsimp only
  have hcq : cq c f m lo b = tt 0 (px c f lo) (py c f lo) := by unfold cq; rw [hMm, htt, ← hq]; rfl
  unfold fillR
  rw [hcq]
  refine Evt.ite (fun h => ?_) (fun h => ?_)
  · rw [if_neg (by simpa using h)]; exact Evt.some _
  have h : tt 0 (px c f lo) (py c f lo) = true := by simpa using h
  rw [if_pos h]
  have hfil : filP c f m lo b = fil q lo (M + 2) M 0 (px c f lo) (py c f lo) := by unfold filP; rw [hMm, hq]
  rw [hfil]
  refine for_evt' 0 m (fun k (s : Nat × Nat × List Int) => (b, (c, (f, (m, (lo, ())))), tb (M + 3) (fun j => gR (tt j)), (s.1 : Int), (s.2.1 : Int), s.2.2, m, k, ())) (fun k s => s.1 < 64 ∧ s.2.1 < 64 ∧ tt k.toNat s.1 s.2.1 = true ∧ s.2.2.length = k.toNat ∧ s.2.2 ++ fil q lo (M + 2) (M - k.toNat) k.toNat s.1 s.2.1 = fil q lo (M + 2) M 0 (px c f lo) (py c f lo)) (b0 := (px c f lo, py c f lo, [])) rfl (by omega) ⟨hx, hy, h, rfl, rfl⟩ ?_ ?_
  · rintro k ⟨x, y, out⟩ k0 k1 ⟨hx, hy, ht, hlen, hfil⟩
    obtain ⟨k, rfl⟩ : ∃ k' : Nat, k = k' := ⟨k.toNat, by omega⟩
    dsimp only at hx hy ht hlen hfil ⊢
    rw [Int.toNat_natCast] at ht hlen hfil
    have hw : wr .i64 ((k : Int) + 1) = ((k + 1 : Nat) : Int) := by rw [wrap_id (by omega) (by omega)]; omega
    rw [hw]
    have hat : idx (tb (M + 3) fun j => gR (tt j)) ((k + 1 : Nat) : Int) = some (gR (tt (k + 1))) := by
      unfold idx
      rw [if_pos (by omega), Int.toNat_natCast, tb_get (by omega)]
    have hat2 : idx (gR (tt (k + 1))) (y : Int) = some (row (tt (k + 1) y)) := by
      unfold idx
      rw [if_pos (by omega), Int.toNat_natCast]; exact gR_get _ hy
    have hz : fstZ (fun z => sp b x y z && tt (k + 1) y z) = fstZ fun z => q k x y z && tt (k + 1) y z := by
      congr 1
      funext z
      rw [hq]
      unfold qq al
      rw [decide_eq_true k1]; simp
    rw [tk k x y (by omega)] at ht
    obtain ⟨z1, z2, _⟩ := fstZ_some ht
    obtain ⟨z, hzz⟩ : ∃ z, z = fstZ fun z => q k x y z && tt (k + 1) y z := ⟨_, rfl⟩
    rw [← hzz] at z1 z2 hz
    simp only [Bool.and_eq_true] at z2
    refine Round.yes (decide_eq_true k1) (Round.bind (e192 (by omega) (by omega) hx hy) (Round.at hat (Round.at hat2 ?_)))
    dsimp only
    rw [row_and]
    refine Round.bind (e191 _) (Round.chk (decide_eq_true (by simp; omega)) (Round.again _ ⟨(y, z, out ++ [lo + (z : Int)]), ?_, hy, z1, ?_, ?_, ?_⟩))
    · dsimp only
      rw [hz, wrap_id (x := lo + (z : Int)) (by omega) (by omega)]
      rfl
    · dsimp only; rw [show ((k : Int) + 1).toNat = k + 1 by omega]; exact z2.2
    · dsimp only; rw [List.length_append, hlen, show ((k : Int) + 1).toNat = k + 1 by omega]; rfl
    · dsimp only
      rw [← hfil, show ((k : Int) + 1).toNat = k + 1 by omega, show M - k = (M - (k + 1)) + 1 by omega, List.append_assoc]
      congr 1
      have : (fstZ fun z => q k x y z && can q (M + 2 - (k + 1)) (k + 1) y z) = z := by rw [hzz, htt]
      show _ = (lo + (fstZ fun z => q k x y z && can q (M + 2 - (k + 1)) (k + 1) y z : Nat)) :: fil q lo (M + 2) (M - (k + 1)) (k + 1) y (fstZ fun z => q k x y z && can q (M + 2 - (k + 1)) (k + 1) y z)
      rw [this]
      rfl
  · rintro ⟨x, y, out⟩ ⟨hx, hy, ht, hlen, hfil⟩
    dsimp only at hfil ⊢
    rw [hMm, Nat.sub_self] at hfil
    rw [show ∀ k, fil q lo (M + 2) 0 k x y = [] from fun _ => rfl, List.append_nil] at hfil
    rw [hfil]
    exact Round.no (by simp) (Round.done (Evt.some _))
/- (impl.Cam).with -/
theorem e139 {c : List Int} (hr : Rng c) (h0 : 0 < c.length) (h1 : c.length ≤ 1000000) {f : Int} (f0 : 0 ≤ f) (f1 : f ≤ 1000000) (l : List Int) (hl : (l.length : Int) ≤ 1000000) : Evt (fun n => call T C n 139 (c, f, l, ())) ((putP c f l, ()), ()) := by
  refine Evt.next (Evt.bind (e74 c (by omega) (by omega)) ?_) (fun n => r139 n c f l)
  refine for_evt' 0 (l.length : Int) (fun i (_ : Unit) => (c, f, putP c f (l.take i.toNat), l, (l.length : Int), i, ())) (fun _ _ => True) (b0 := ()) (by simp [putP]) (by omega) trivial ?_ ?_
  · intro i _ i0 i1 _
    obtain ⟨v, hv⟩ := at_of (l := l) i0 i1
    have e0 := Int.emod_nonneg (f + i) (show (c.length : Int) ≠ 0 by omega)
    have e1 := Int.emod_lt_of_pos (f + i) (show 0 < (c.length : Int) by omega)
    have hlen := putP_len (l.take i.toNat) c f
    dsimp only
    rw [hlen, wrap_id (x := f + i) (by omega) (by omega), wrap_id (x := i + 1) (by omega) (by omega)]
    obtain ⟨u, hu⟩ := get_of_lt (b := putP c f (l.take i.toNat)) e0 (by rw [hlen]; exact e1)
    refine Round.yes (decide_eq_true i1) (Round.at hv.idx (Round.bind (e113 c) (Round.bind (e136 (a := f + i) (b := (c.length : Int)) (by omega) (by omega) (by omega) (by omega)) (Round.chk (decide_eq_true ⟨e0, e1⟩) (Round.at hu (Round.again _ ⟨(), ?_, trivial⟩))))))
    dsimp only
    rw [hv.take, putP_snoc]
    have : ((l.take i.toNat).length : Int) = i := by rw [List.length_take]; omega
    rw [this]
  · intro _ _
    dsimp only
    rw [take_all]
    exact Round.no (by simp) (Round.done (Evt.some _))
/- impl.RepairCam -/
theorem e54 {c : List Int} (hr : Rng c) (b lo : Int) : Evt (fun n => call T C n 54 (c, b, lo, ())) (rpR c b lo, ()) := by
  have hl := hr.len'
  refine Evt.next (Evt.bind (e39 c (by omega)) (Evt.bind (e69 _ _) (Evt.bind (e103 _ _ _) ?_))) (fun n => r54 n c b lo)
  unfold rpR
  cases hc : okC c with
  | false =>
    have bad1 : ∀ (v : Int) (X : Nat → Option ((List Int × (List Int × (Int × Unit))) × Unit)), Evt (fun n => (call T C n 68 (([(if (!false) = true then (1 : Int) else 0), v] : List Int), ())).bind fun r => if (r.1.1 != (0 : Int)) = true then some ((([] : List Int), ([] : List Int), r.1.1, ()), ()) else X n) (([], [], 1, ()), ()) := fun v X => Evt.bind (e68 _ (by simp)) (Evt.yes rfl (Evt.some _))
    refine Evt.ite (fun _ => Evt.bind (e69 _ _) (bad1 _ _)) (fun _ => Evt.bind (e103 _ _ _) (Evt.bind (e69 _ _) (bad1 _ _)))
  | true =>
  have hlen := okC_len hc
  have bad2 : ∀ (X : Nat → Option ((List Int × (List Int × (Int × Unit))) × Unit)), Evt (fun n => (call T C n 68 (([(if (!true) = true then (1 : Int) else 0), (if true = true then (2 : Int) else 0)] : List Int), ())).bind fun r => if (r.1.1 != (0 : Int)) = true then some ((([] : List Int), ([] : List Int), r.1.1, ()), ()) else X n) (([], [], 2, ()), ()) := fun X => Evt.bind (e68 _ (by simp)) (Evt.yes rfl (Evt.some _))
  cases h2 : inR b 0 40000 with
  | false => exact Evt.yes rfl (Evt.bind (e69 _ _) (bad2 _))
  | true =>
  refine Evt.no (by simp) (Evt.bind (e103 _ _ _) (Evt.bind (e69 _ _) ?_))
  cases h3 : inR lo 0 9937 with
  | false => exact bad2 _
  | true =>
  have g2 := inR_iff.1 h2
  have g3 := inR_iff.1 h3
  refine Evt.bind (e68 _ (by simp)) (Evt.no (by decide) (Evt.bind (e74 c (by omega) (by omega)) (Evt.bind (e113 c) ?_)))
  refine for_evt' 0 (c.length : Int) (fun i (_ : Unit) => (c, b, lo, (rp b lo c i.toNat).1, (rp b lo c i.toNat).2, (c.length : Int), i, ())) (fun _ _ => True) (b0 := ()) (by simp [rp]) (by omega) trivial ?_ ?_
  · intro i _ i0 i1 _
    obtain ⟨k, rfl⟩ : ∃ k : Nat, i = k := ⟨i.toNat, by omega⟩
    have G := rp_good hr hc (b := b) (lo := lo) g3.1 g3.2 k
    have hs : rp b lo c ((k : Int) + 1).toNat = rpS b lo (rp b lo c k) k := by rw [show ((k : Int) + 1).toNat = k + 1 by omega]; rfl
    rw [Int.toNat_natCast, hs]
    obtain ⟨s, hss⟩ : ∃ s, s = rp b lo c k := ⟨_, rfl⟩
    rw [← hss] at G ⊢
    have gl := G.len
    have gm := G.many
    have b1 := G.rng.el _ (cAt_mem (by omega) ((k : Int) + 1))
    have b2 := G.rng.el _ (cAt_mem (by omega) (k : Int))
    have b3 := G.rng.el _ (cAt_mem (by omega) ((k : Int) - 1))
    dsimp only
    rw [wrap_id (x := (k : Int) + 1) (by omega) (by omega), wrap_id (x := (k : Int) - 1) (by omega) (by omega)]
    refine Round.yes (decide_eq_true i1) (Round.bind (e135 G.rng (by omega) (by omega) (by omega) (by omega)) (Round.bind (e134 (a := bendP s.1 (k : Int)) (by unfold bendP; omega) (by unfold bendP; omega)) ?_))
    unfold rpS
    refine Round.ite (fun h => ?_) (fun h => ?_)
    · rw [if_pos (of_decide_eq_true h)]
      exact Round.again _ ⟨(), rfl, trivial⟩
    have h : ¬ siz (bendP s.1 k) ≤ b := by simpa using h
    rw [if_neg h]
    obtain ⟨nx, hnx⟩ : ∃ nx, nx = (if askP s.1 (((k : Int) - 1) % s.1.length) 3 lo b = 0 ∧ cq s.1 (((k : Int) - 1) % s.1.length) 3 lo b = true then (putP s.1 (((k : Int) - 1) % s.1.length) (filP s.1 (((k : Int) - 1) % s.1.length) 3 lo b), s.2 ++ [(k : Int)]) else s) := ⟨_, rfl⟩
    rw [← hnx]
    have hn1 : ∀ hh : (askP s.1 (((k : Int) - 1) % s.1.length) 3 lo b = 0 ∧ cq s.1 (((k : Int) - 1) % s.1.length) 3 lo b = true), nx = (putP s.1 (((k : Int) - 1) % s.1.length) (filP s.1 (((k : Int) - 1) % s.1.length) 3 lo b), s.2 ++ [(k : Int)]) := fun hh => by rw [hnx, if_pos hh]
    have hn2 : ∀ hh : ¬ (askP s.1 (((k : Int) - 1) % s.1.length) 3 lo b = 0 ∧ cq s.1 (((k : Int) - 1) % s.1.length) 3 lo b = true), nx = s := fun hh => by rw [hnx, if_neg hh]
    have hn : ((c.length : Int)) = (s.1.length : Int) := by omega
    have f0 := Int.emod_nonneg ((k : Int) - 1) (show (s.1.length : Int) ≠ 0 by omega)
    have f1 := Int.emod_lt_of_pos ((k : Int) - 1) (show 0 < (s.1.length : Int) by omega)
    refine Round.bind (e113 c) (Round.bind (e136 (a := (k : Int) - 1) (b := (c.length : Int)) (by omega) (by omega) (by omega) (by omega)) ?_)
    dsimp only
    rw [show ((k : Int) - 1) % (c.length : Int) = ((k : Int) - 1) % (s.1.length : Int) by rw [hn]]
    refine Round.bind (e137 G.rng _ 3 lo b) (Round.ite (fun h => ?_) (fun h => ?_))
    · have h : askP s.1 (((k : Int) - 1) % s.1.length) 3 lo b ≠ 0 := by simpa using h
      rw [hn2 fun hh => h hh.1]
      exact Round.again _ ⟨(), rfl, trivial⟩
    have h : askP s.1 (((k : Int) - 1) % s.1.length) 3 lo b = 0 := by simpa using h
    refine Round.bind (e138 G.rng (goodS h)) ?_
    unfold fillR
    by_cases hq : cq s.1 (((k : Int) - 1) % s.1.length) 3 lo b = true
    · rw [if_pos hq, hn1 ⟨h, hq⟩]
      have hfl : ((filP s.1 (((k : Int) - 1) % s.1.length) 3 lo b).length : Int) ≤ 1000000 := by unfold filP; rw [fil_len]; decide
      exact Round.yes rfl (Round.bind (e139 G.rng (by omega) (by omega) f0 (by omega) _ hfl) (Round.chk (decide_eq_true (by simp; omega)) (Round.again _ ⟨(), rfl, trivial⟩)))
    · rw [if_neg hq, hn2 fun hh => hq hh.2]
      exact Round.no (by simp) (Round.again _ ⟨(), rfl, trivial⟩)
  · intro _ _
    dsimp only
    rw [Int.toNat_natCast]
    exact Round.no (by simp) (Round.done (Evt.some _))
/- spec.P6Pick -/
theorem e11 {b : List Int} (hb : ∀ v ∈ b, 0 ≤ v ∧ v ≤ 255) (hl : (b.length : Int) ≤ 4096) {m : Int} (m1 : 1 ≤ m) (m2 : m ≤ 1000000) : ∃ v : Int, Evt (fun n => call T C n 11 (b, m, ())) ((v, ()), ()) ∧ 0 ≤ v ∧ v < m := by
  have h0 : SrcAt 0 ((b, 0, 0, ()) : Src) := ⟨hb, by show (b.length : Int) ≤ 1000000; omega, Int.le_refl _, Int.le_refl _⟩
  obtain ⟨v, s1, hE, v0, v1, _⟩ := e72 h0 (by omega) m1 m2
  refine ⟨v, Evt.next ?_ (fun n => r11 n b m), v0, v1⟩
  exact Evt.bind (e63 b) (Evt.bind hE (Evt.some _))
/- spec.l05Bound -/
theorem e140 (a : Int) : Evt (fun n => call T C n 140 (a, ())) ((inR a 0 40000, ()), ()) := Evt.next (Evt.bind (e116 a 0 40000) (Evt.some _)) (fun n => r140 n a)
/- spec.l05Low -/
theorem e141 (a : Int) : Evt (fun n => call T C n 141 (a, ())) ((inR a 0 9937, ()), ()) := Evt.next (Evt.bind (e116 a 0 9937) (Evt.some _)) (fun n => r141 n a)
/- spec.l05Asked -/
theorem e146 {c : List Int} (hr : Rng c) (f m lo b : Int) : Evt (fun n => call T C n 146 (c, f, m, lo, b, ())) ((askP c f m lo b, ()), ()) := by
  have hl := hr.len'
  refine Evt.next (Evt.bind (e121 c (by omega)) ?_) (fun n => r146 n c f m lo b)
  unfold askP
  cases hc : okC c with
  | false => exact Evt.yes rfl (Evt.some _)
  | true =>
  have hlen := okC_len hc
  rw [wrap_id (x := (c.length : Int) - 1) (by omega) (by omega), wrap_id (x := (c.length : Int) - 4) (by omega) (by omega)]
  refine Evt.no (by simp) (Evt.bind (e116 f 0 _) ?_)
  cases h1 : inR f 0 ((c.length : Int) - 1) with
  | false => exact Evt.yes rfl (Evt.some _)
  | true =>
  refine Evt.no (by simp) (Evt.bind (e150 40 _) (Evt.bind (e116 m 1 _) ?_))
  cases h2 : inR m 1 (min 40 ((c.length : Int) - 4)) with
  | false => exact Evt.yes rfl (Evt.some _)
  | true =>
  refine Evt.no (by simp) (Evt.bind (e141 lo) ?_)
  cases h3 : inR lo 0 9937 with
  | false => exact Evt.yes rfl (Evt.some _)
  | true =>
  refine Evt.no (by simp) (Evt.bind (e140 b) ?_)
  cases h4 : inR b 0 40000 with
  | false => exact Evt.yes rfl (Evt.some _)
  | true =>
  have g1 := inR_iff.1 h1
  have g2 := inR_iff.1 h2
  have g3 := inR_iff.1 h3
  rw [wrap_id (x := f - 2) (by omega) (by omega), wrap_id (x := f - 1) (by omega) (by omega), wrap_id (x := f + m) (by omega) (by omega), wrap_id (x := f + m + 1) (by omega) (by omega)]
  have one : ∀ s : Int, -4000000 ≤ s → s ≤ 4000000 → inR (cAt c s) lo (wr .i64 (wr .i64 (lo + 64) - 1)) = inR (hgt c lo s) 0 63 := by
    intro s _ _
    rw [wrap_id (x := lo + 64) (by omega) (by omega), wrap_id (x := lo + 64 - 1) (by omega) (by omega), Bool.eq_iff_iff, inR_iff, inR_iff]
    unfold hgt
    omega
  refine Evt.no (by simp) ?_
  refine for_evt' 0 4 (fun i (_ : Unit) => (c, lo, [f - 2, f - 1, f + m, f + m + 1], i, ())) (fun i _ => (0 < i → inR (hgt c lo (f - 2)) 0 63 = true) ∧ (1 < i → inR (hgt c lo (f - 1)) 0 63 = true) ∧ (2 < i → inR (hgt c lo (f + m)) 0 63 = true) ∧ (3 < i → inR (hgt c lo (f + m + 1)) 0 63 = true)) (b0 := ()) rfl (by omega) ⟨by omega, by omega, by omega, by omega⟩ ?_ ?_
  · intro i _ i0 i1 hp
    obtain ⟨s, s0, s1, hs, hbad, hgood⟩ : ∃ s : Int, -4000000 ≤ s ∧ s ≤ 4000000 ∧ idx [f - 2, f - 1, f + m, f + m + 1] i = some s ∧ (inR (hgt c lo s) 0 63 = false → (inR (hgt c lo (f - 2)) 0 63 && inR (hgt c lo (f - 1)) 0 63 && inR (hgt c lo (f + m)) 0 63 && inR (hgt c lo (f + m + 1)) 0 63) = false) ∧ (inR (hgt c lo s) 0 63 = true → (0 < i + 1 → inR (hgt c lo (f - 2)) 0 63 = true) ∧ (1 < i + 1 → inR (hgt c lo (f - 1)) 0 63 = true) ∧ (2 < i + 1 → inR (hgt c lo (f + m)) 0 63 = true) ∧ (3 < i + 1 → inR (hgt c lo (f + m + 1)) 0 63 = true)) := by
      rcases (show i = 0 ∨ i = 1 ∨ i = 2 ∨ i = 3 by omega) with e | e | e | e <;> subst e
      · exact ⟨f - 2, by omega, by omega, rfl, fun h => by rw [h]; rfl, fun h => ⟨fun _ => h, by omega, by omega, by omega⟩⟩
      · exact ⟨f - 1, by omega, by omega, rfl, fun h => by rw [h]; simp, fun h => ⟨fun _ => hp.1 (by omega), fun _ => h, by omega, by omega⟩⟩
      · exact ⟨f + m, by omega, by omega, rfl, fun h => by rw [h]; simp, fun h => ⟨fun _ => hp.1 (by omega), fun _ => hp.2.1 (by omega), fun _ => h, by omega⟩⟩
      · exact ⟨f + m + 1, by omega, by omega, rfl, fun h => by rw [h]; simp, fun h => ⟨fun _ => hp.1 (by omega), fun _ => hp.2.1 (by omega), fun _ => hp.2.2.1 (by omega), fun _ => h⟩⟩
    refine Round.yes (decide_eq_true (show i < ((4 : Nat) : Int) from i1)) (Round.at hs (Round.bind (e122' hr (by omega) (by omega) s0 s1) (Round.bind (e116 _ _ _) (Round.ite (fun h => ?_) (fun h => ?_)))))
    · have h : inR (hgt c lo s) 0 63 = false := by rw [one s s0 s1] at h; simpa using h
      rw [hbad h]
      exact Round.done (Evt.some _)
    · have h : inR (hgt c lo s) 0 63 = true := by rw [one s s0 s1] at h; simpa using h
      refine Round.again _ ⟨(), ?_, hgood h⟩
      rw [wrap_id (x := i + 1) (by omega) (by omega)]
  · intro _ hp
    rw [hp.1 (by omega), hp.2.1 (by omega), hp.2.2.1 (by omega), hp.2.2.2 (by omega)]
    exact Round.no (by simp) (Round.done (Evt.some _))
/- (*spec.l05Stretch).at -/
theorem e219 {c : List Int} (hr : Rng c) (h0 : 0 < (c.length : Int)) (h1 : (c.length : Int) ≤ 1000000) (f m lo b : Int) (l0 : 0 ≤ lo) (l1 : lo ≤ 9937) {s : Int} (s0 : -4000000 ≤ s) (s1 : s ≤ 4000000) : Evt (fun n => call T C n 219 ((c, (f, (m, (lo, (b, ()))))), s, ())) ((hgt c lo s, ()), ()) := by
  have b1 := hr.el _ (cAt_mem (by omega) s)
  refine Evt.next (Evt.bind (e122' hr h0 h1 s0 s1) ((Evt.some _).of_eq fun n => ?_)) (fun n => r219 n _ s)
  show some ((wr .i64 (cAt c s - lo), ()), ()) = _
  rw [wrap_id (x := cAt c s - lo) (by omega) (by omega)]
  rfl
/- (*spec.l05Stretch).first -/
theorem e194 {c : List Int} (hr : Rng c) {f m lo b : Int} (G : GoodS c f m lo b) : Evt (fun n => call T C n 194 ((c, (f, (m, (lo, (b, ()))))), ())) ((gR (fwd (qq c f m lo b) (px c f lo) (py c f lo) 0), ()), ()) := by
  have hl := G.len; have hf := G.hf; have hlo := G.hlo
  obtain ⟨ex, hx⟩ := G.px
  obtain ⟨ey, hy⟩ := G.py
  refine Evt.next (Evt.bind (e219 hr (by omega) (by omega) f m lo b (by omega) (by omega) (s := wr .i64 (f - 2)) (by rw [wrap_id (by omega) (by omega)]; omega) (by rw [wrap_id (by omega) (by omega)]; omega)) (Evt.bind (e219 hr (by omega) (by omega) f m lo b (by omega) (by omega) (s := wr .i64 (f - 1)) (by rw [wrap_id (by omega) (by omega)]; omega) (by rw [wrap_id (by omega) (by omega)]; omega)) ?_)) (fun n => r194 n _)
  rw [wrap_id (x := f - 2) (by omega) (by omega), wrap_id (x := f - 1) (by omega) (by omega), ex, ey]
  dsimp only
  rw [wrU (x := ((py c f lo : Nat) : Int)) (by omega) (by omega)]
  have key : (List.replicate 64 (0 : Int)).set (Int.toNat ((px c f lo : Nat) : Int)) (shl_ .u64 (1 : Int) ((py c f lo : Nat) : Int)) = gR (fwd (qq c f m lo b) (px c f lo) (py c f lo) 0) := by
    rw [Int.toNat_natCast, row_one hy, gR_zero, gR_set]
    exact gR_ext fun x y _ _ => by
      unfold fwd
      by_cases e : x = px c f lo <;> simp [e]
  rw [key]
  refine Evt.chk (decide_eq_true (by omega)) (Evt.chk (decide_eq_true ?_) (Evt.at (x := (0 : Int)) (by rw [Int.toNat_natCast, List.getElem?_replicate, if_pos hx]) (Evt.some _)))
  exact ⟨Int.natCast_nonneg _, Int.ofNat_lt.2 hx⟩
/- (*spec.l05Stretch).may -/
theorem e195 {c : List Int} (hr : Rng c) {f m lo b : Int} (G : GoodS c f m lo b) {x y k : Nat} (hx : x < 64) (hy : y < 64) (hk : (k : Int) ≤ m + 1) {ix : Int} (hix : ix = (k : Int) + 1) : Evt (fun n => call T C n 195 ((c, (f, (m, (lo, (b, ()))))), (x : Int), (y : Int), ix, ())) ((row (qq c f m lo b k x y), ()), ()) := by
  subst hix
  have hl := G.len; have hf := G.hf; have hlo := G.hlo; have hb := G.hb; have hm := G.hm
  refine Evt.next (Evt.bind (e149 _ _) (Evt.bind (e150 _ _) ?_)) (fun n => r195 n _ x y _)
  rw [wrap_id (x := 2 * (y : Int)) (by omega) (by omega), wrap_id (x := 2 * (y : Int) - x) (by omega) (by omega), wrap_id (x := 2 * (y : Int) - x - b) (by omega) (by omega), wrap_id (x := 2 * (y : Int) - x + b) (by omega) (by omega)]
  have fin : ∀ A B : Int, 0 ≤ A → B ≤ 63 → (∀ z : Nat, z < 64 → (A ≤ z ∧ (z : Int) ≤ B ↔ qq c f m lo b k x y z = true)) → Evt (fun n => if decide (A > B) = true then some (((0 : Int), ()), ()) else chk (decide (0 ≤ wr .u64 (wr .i64 (63 - B)))) (chk (decide (0 ≤ wr .u64 A)) (chk (decide (0 ≤ wr .u64 A)) (some ((shl_ .u64 (shr_ .u64 (shr_ .u64 (18446744073709551615 : Int) (wr .u64 (wr .i64 (63 - B)))) (wr .u64 A)) (wr .u64 A), ()), ()))))) ((row (qq c f m lo b k x y), ()), ()) := by
    intro A B hA hB hq
    refine Evt.ite (fun h => ?_) (fun h => ?_)
    · have h : A > B := of_decide_eq_true h
      rw [row_none fun z hz => by
        cases e : qq c f m lo b k x y z with
        | false => rfl
        | true => have := (hq z hz).2 e; omega]
      exact Evt.some _
    · have h : ¬ A > B := by simpa using h
      refine Evt.chk (decide_eq_true ?_) (Evt.chk (decide_eq_true ?_) (Evt.chk (decide_eq_true ?_) ((Evt.some _).of_eq fun n => ?_)))
      · rw [wrap_id (x := 63 - B) (by omega) (by omega), wrU (x := 63 - B) (by omega) (by omega)]; omega
      · rw [wrU (x := A) (by omega) (by omega)]; omega
      · rw [wrU (x := A) (by omega) (by omega)]; omega
      · rw [may_val hA hB h]
        have : row (fun z => decide (A ≤ z ∧ (z : Int) ≤ B)) = row (qq c f m lo b k x y) := row_congr fun z hz => by rw [Bool.eq_iff_iff, decide_eq_true_eq]; exact hq z hz
        rw [this]
  refine Evt.ite (fun h => ?_) (fun h => ?_)
  · have h : (k : Int) + 1 > m := of_decide_eq_true h
    have hw := G.fix (k := k) (by omega) hk
    rw [wrap_id (x := f + ((k : Int) + 1)) (by omega) (by omega), wrap_id (x := f + ((k : Int) + 1) - 1) (by omega) (by omega), show f + ((k : Int) + 1) - 1 = f + k by omega]
    refine Evt.bind (e219 hr (by omega) (by omega) f m lo b (by omega) (by omega) (by omega) (by omega)) (Evt.bind (e149 _ _) (Evt.bind (e150 _ _) ?_))
    dsimp only
    refine fin _ _ (by omega) (by omega) fun z hz => ?_
    unfold qq sp al
    rw [show decide ((k : Int) < m) = false from decide_eq_false (by omega)]
    simp only [Bool.false_or, Bool.and_eq_true, decide_eq_true_eq]
    omega
  · have h : ¬ (k : Int) + 1 > m := by simpa using h
    dsimp only
    refine fin _ _ (by omega) (by omega) fun z hz => ?_
    unfold qq sp al
    rw [show decide ((k : Int) < m) = true from decide_eq_true (by omega)]
    simp only [Bool.true_or, Bool.and_true, decide_eq_true_eq]
    omega
/- (*spec.l05Stretch).reach -/
theorem e147 {c : List Int} (hr : Rng c) {f m lo b : Int} (G : GoodS c f m lo b) : Evt (fun n => call T C n 147 ((c, (f, (m, (lo, (b, ()))))), ())) ((tb (m.toNat + 3) (fun i => gR (fwd (qq c f m lo b) (px c f lo) (py c f lo) i)), ()), ()) := by
  have hm := G.hm
  obtain ⟨F, hF⟩ : ∃ F, F = fwd (qq c f m lo b) (px c f lo) (py c f lo) := ⟨_, rfl⟩
  rw [← hF]
  refine Evt.next (Evt.bind (e194 hr G) ?_) (fun n => r147 n _)
  rw [← hF]
  have w0 : wr .i64 (m + 2) = m + 2 := wrap_id (by omega) (by omega)
  refine for_evt' 1 (m + 3) (fun i (_ : Unit) => ((c, (f, (m, (lo, (b, ()))))), tb i.toNat (fun i => gR (F i)), i, ())) (fun _ _ => True) (b0 := ()) (by show (_, [gR (F 0)], _) = _; simp [tb]) (by omega) trivial ?_ ?_
  · intro i _ i0 i1 _
    obtain ⟨k, rfl⟩ : ∃ k : Nat, i = ((k + 1 : Nat) : Int) := ⟨(i - 1).toNat, by omega⟩
    have hk : (k : Int) ≤ m + 1 := by omega
    have w1 : wr .i64 (((k + 1 : Nat) : Int) - 1) = (k : Int) := by rw [wrap_id (by omega) (by omega)]; omega
    have w2 : wr .i64 (((k + 1 : Nat) : Int) + 1) = ((k + 1 : Nat) : Int) + 1 := wrap_id (by omega) (by omega)
    rw [Int.toNat_natCast]
    dsimp only
    rw [w0, w1]
    refine Round.yes (decide_eq_true (by omega)) (Round.chk (decide_eq_true ⟨by omega, by rw [tb_len]; omega⟩) ?_)
    rw [Int.toNat_natCast]
    -- the pairs of the grid ahead, one by one
    have step1 : ∀ x y : Nat, x < 64 → y < 64 → F k x y = false → gR (fun y' z => (List.range 64).any fun x' => (decide (x' < x) || (x' == x && decide (y' < y))) && F k x' y' && qq c f m lo b k x' y' z) = gR (fun y' z => (List.range 64).any fun x' => (decide (x' < x) || (x' == x && decide (y' < y + 1))) && F k x' y' && qq c f m lo b k x' y' z) := by
      intro x y hx hy hf
      refine gR_ext fun y' z _ _ => ?_
      congr 1
      funext x'
      by_cases h1 : x' = x
      · subst h1
        by_cases h2 : y' = y
        · subst h2; simp [hf]
        · have : decide (y' < y) = decide (y' < y + 1) := by rw [decide_eq_decide]; omega
          rw [this]
      · have : (x' == x) = false := by simpa using h1
        rw [this]; rfl
    have step2 : ∀ x y : Nat, x < 64 → y < 64 → F k x y = true → (gR (fun y' z => (List.range 64).any fun x' => (decide (x' < x) || (x' == x && decide (y' < y))) && F k x' y' && qq c f m lo b k x' y' z)).set y (bitsI .or .u64 (row fun z => (List.range 64).any fun x' => (decide (x' < x) || (x' == x && decide (y < y))) && F k x' y && qq c f m lo b k x' y z) (row (qq c f m lo b k x y))) = gR (fun y' z => (List.range 64).any fun x' => (decide (x' < x) || (x' == x && decide (y' < y + 1))) && F k x' y' && qq c f m lo b k x' y' z) := by
      intro x y hx hy hf
      rw [row_or, gR_set]
      refine gR_ext fun y' z _ _ => ?_
      by_cases h2 : y' = y
      · subst h2
        rw [if_pos rfl, Bool.eq_iff_iff, Bool.or_eq_true, any64, any64]
        constructor
        · rintro (⟨x', hx', h⟩ | h)
          · refine ⟨x', hx', ?_⟩
            simp only [Bool.and_eq_true, Bool.or_eq_true, decide_eq_true_eq, beq_iff_eq] at h ⊢
            exact ⟨⟨by omega, h.1.2⟩, h.2⟩
          · exact ⟨x, hx, by simp [hf, h]⟩
        · rintro ⟨x', hx', h⟩
          simp only [Bool.and_eq_true, Bool.or_eq_true, decide_eq_true_eq, beq_iff_eq] at h
          by_cases h3 : x' = x
          · subst h3; exact .inr h.2
          · refine .inl ⟨x', hx', ?_⟩
            simp only [Bool.and_eq_true, Bool.or_eq_true, decide_eq_true_eq, beq_iff_eq]
            exact ⟨⟨by omega, h.1.2⟩, h.2⟩
      · rw [if_neg h2]
        congr 1
        funext x'
        have : decide (y' < y) = decide (y' < y + 1) := by rw [decide_eq_decide]; omega
        rw [this]
    refine for_round' 0 64 (fun x (_ : Unit) => ((c, (f, (m, (lo, (b, ()))))), tb (k + 1) (fun i => gR (F i)), ((k + 1 : Nat) : Int), gR (fun y' z => (List.range 64).any fun x' => (decide (x' < x.toNat) || (x' == x.toNat && decide (y' < 0))) && F k x' y' && qq c f m lo b k x' y' z), (k : Int), x, ())) (fun _ _ => True) (b0 := ()) ?_ (by omega) trivial ?_ ?_
    · rw [gR_zero, show gR (fun _ _ => false) = gR (fun y' z => (List.range 64).any fun x' => (decide (x' < (0 : Int).toNat) || (x' == (0 : Int).toNat && decide (y' < 0))) && F k x' y' && qq c f m lo b k x' y' z) from gR_ext fun y' z _ _ => by simp]
    · intro x _ x0 x1 _
      obtain ⟨x, rfl⟩ : ∃ x' : Nat, x = x' := ⟨x.toNat, by omega⟩
      have hx : x < 64 := by omega
      rw [Int.toNat_natCast]
      refine Round.yes (decide_eq_true x1) ?_
      dsimp only
      rw [Int.toNat_natCast]
      refine for_round' 0 64 (fun y (_ : Unit) => ((c, (f, (m, (lo, (b, ()))))), tb (k + 1) (fun i => gR (F i)), ((k + 1 : Nat) : Int), gR (fun y' z => (List.range 64).any fun x' => (decide (x' < x) || (x' == x && decide (y' < y.toNat))) && F k x' y' && qq c f m lo b k x' y' z), (k : Int), (x : Int), y, ())) (fun _ _ => True) (b0 := ()) rfl (by omega) trivial ?_ ?_
      · intro y _ y0 y1 _
        obtain ⟨y, rfl⟩ : ∃ y' : Nat, y = y' := ⟨y.toNat, by omega⟩
        have hy : y < 64 := by omega
        rw [Int.toNat_natCast]
        refine Round.yes (decide_eq_true y1) (Round.chk (decide_eq_true ⟨by omega, Int.ofNat_lt.2 hx⟩) (Round.at (v := gR (F k)) (by dsimp only; rw [Int.toNat_natCast]; exact tb_get (by omega)) (Round.at (v := row (F k x)) (by dsimp only; rw [Int.toNat_natCast]; exact gR_get _ hx) ?_)))
        dsimp only
        rw [Int.toNat_natCast, wrU (x := (y : Int)) (by omega) (by omega), row_bit _ hy, wrap_id (x := (y : Int) + 1) (by omega) (by omega)]
        refine Round.chk (decide_eq_true (by omega)) (Round.ite (fun h => ?_) (fun h => ?_))
        · refine Round.chk (decide_eq_true ⟨by omega, Int.ofNat_lt.2 hy⟩) (Round.at (gR_get _ hy) (Round.bind (e195 hr G hx hy hk (ix := ((k + 1 : Nat) : Int)) (by omega)) (Round.chk (decide_eq_true ⟨by omega, Int.ofNat_lt.2 hy⟩) (Round.at (gR_get _ hy) (Round.inr _ ⟨(), ?_, trivial⟩)))))
          try dsimp only
          rw [step2 x y hx hy h, show ((y : Int) + 1).toNat = y + 1 by omega]
        · have h : F k x y = false := by simpa using h
          refine Round.inr _ ⟨(), ?_, trivial⟩
          rw [step1 x y hx hy h, show ((y : Int) + 1).toNat = y + 1 by omega]
      · intro _ _
        refine Round.no (by simp) (Round.inl _ ⟨(), ?_, trivial⟩)
        dsimp only
        rw [Int.toNat_natCast, wrap_id (x := (x : Int) + 1) (by omega) (by omega)]
        have : gR (fun y' z => (List.range 64).any fun x' => (decide (x' < x) || (x' == x && decide (y' < (64 : Int).toNat))) && F k x' y' && qq c f m lo b k x' y' z) = gR (fun y' z => (List.range 64).any fun x' => (decide (x' < ((x : Int) + 1).toNat) || (x' == ((x : Int) + 1).toNat && decide (y' < 0))) && F k x' y' && qq c f m lo b k x' y' z) := by
          refine gR_ext fun y' z hy' _ => ?_
          congr 1
          funext x'
          congr 2
          rw [Bool.eq_iff_iff]
          simp
          omega
        rw [this]
    · intro _ _
      refine Round.no (by simp) (Round.chk (decide_eq_true ?_) (Round.again _ ⟨(), ?_, trivial⟩))
      · dsimp only
        rw [tb_len]
        simp only [List.length_cons, List.length_nil]
        omega
      · dsimp only
        have : gR (fun y' z => (List.range 64).any fun x' => (decide (x' < (64 : Int).toNat) || (x' == (64 : Int).toNat && decide (y' < 0))) && F k x' y' && qq c f m lo b k x' y' z) = gR (F (k + 1)) := by
          refine gR_ext fun y' z _ _ => ?_
          rw [hF]
          show _ = (List.range 64).any fun x => fwd (qq c f m lo b) (px c f lo) (py c f lo) k x y' && qq c f m lo b k x y' z
          rw [Bool.eq_iff_iff, any64, any64]
          constructor
          · rintro ⟨x', hx', h⟩
            exact ⟨x', hx', by simp only [Bool.and_eq_true] at h ⊢; exact ⟨h.1.2, h.2⟩⟩
          · rintro ⟨x', hx', h⟩
            exact ⟨x', hx', by simp only [Bool.and_eq_true, Bool.or_eq_true, decide_eq_true_eq] at h ⊢; exact ⟨⟨.inl hx', h.1⟩, h.2⟩⟩
        rw [this, tb_snoc, w2, show (((k + 1 : Nat) : Int) + 1).toNat = k + 1 + 1 by omega]
  · intro _ _
    dsimp only
    rw [w0, show (m + 3).toNat = m.toNat + 3 by omega]
    exact Round.no (by simp) (Round.done (Evt.some _))
/- (*spec.l05Stretch).fill -/
theorem e193 {c : List Int} (hr : Rng c) {f m lo b : Int} (G : GoodS c f m lo b) : Evt (fun n => call T C n 193 ((c, (f, (m, (lo, (b, ()))))), ())) (fillR c f m lo b, ()) := by
  have hm := G.hm; have hb := G.hb; have hlo := G.hlo; have hl := G.len; have hf := G.hf
  obtain ⟨ex, hx0⟩ := G.px
  obtain ⟨ey, hy0⟩ := G.py
  obtain ⟨M, hM⟩ : ∃ M : Nat, (M : Int) = m := ⟨m.toNat, by omega⟩
  have hMm : m.toNat = M := by omega
  obtain ⟨q, hq⟩ : ∃ q, q = qq c f m lo b := ⟨_, rfl⟩
  obtain ⟨F, hF⟩ : ∃ F, F = fwd q (px c f lo) (py c f lo) := ⟨_, rfl⟩
  obtain ⟨tt, htt⟩ : ∃ tt : Nat → Nat → Nat → Bool, tt = fun j => can q (M + 2 - j) j := ⟨_, rfl⟩
  have tk : ∀ k x y : Nat, (k : Int) ≤ m + 1 → tt k x y = (List.range 64).any fun z => q k x y z && tt (k + 1) y z := by
    intro k x y hk
    rw [htt]
    show can q (M + 2 - k) k x y = _
    rw [show M + 2 - k = (M + 2 - (k + 1)) + 1 by omega]
    rfl
  have tl : ∀ x y, tt (M + 2) x y = true := by
    intro x y
    rw [htt]
    show can q (M + 2 - (M + 2)) (M + 2) x y = true
    rw [Nat.sub_self]; rfl
  have Fk : ∀ k x y z, x < 64 → F k x y = true → q k x y z = true → F (k + 1) y z = true := by
    intro k x y z hx h1 h2
    rw [hF] at h1 ⊢
    simp only [fwd]
    exact any64.2 ⟨x, hx, by simp [h1, h2]⟩
  refine Evt.next (Evt.bind (e147 hr G) ?_) (fun n => r193 n _)
  rw [hMm, ← hq, ← hF]
  dsimp only
  have w1 : wr .i64 (m + 1) = ((M + 1 : Nat) : Int) := by rw [wrap_id (by omega) (by omega)]; omega
  rw [w1]
  refine for_evt' 0 ((M + 2 : Nat) : Int) (fun i (_ : Unit) => ((c, (f, (m, (lo, (b, ()))))), tb (M + 3) (fun j => if M + 2 - i.toNat ≤ j then gR (fun x y => F j x y && tt j x y) else gR (F j)), ((M + 1 : Nat) : Int) - i, ())) (fun _ _ => True) (b0 := ()) ?_ (by omega) trivial ?_ ?_
  · rw [show tb (M + 3) (fun j => if M + 2 - (0 : Int).toNat ≤ j then gR (fun x y => F j x y && tt j x y) else gR (F j)) = tb (M + 3) (fun i => gR (F i)) from tb_ext fun j hj => by
      split
      · rename_i h
        have : j = M + 2 := by have : (0 : Int).toNat = 0 := rfl; omega
        subst this
        exact gR_ext fun x y _ _ => by rw [tl, Bool.and_true]
      · rfl, Int.sub_zero]
  · intro i _ i0 i1 _
    obtain ⟨k, hk⟩ : ∃ k : Nat, (k : Int) = ((M + 1 : Nat) : Int) - i := ⟨(((M + 1 : Nat) : Int) - i).toNat, by omega⟩
    have hk1 : (k : Int) ≤ m + 1 := by omega
    have hi : M + 2 - i.toNat = k + 1 := by omega
    have hi2 : M + 2 - (i + 1).toNat = k := by omega
    rw [hi, hi2, ← hk, show ((M + 1 : Nat) : Int) - (i + 1) = (k : Int) - 1 by omega]
    have w4 : wr .i64 ((k : Int) + 1) = ((k + 1 : Nat) : Int) := by rw [wrap_id (by omega) (by omega)]; omega
    have w5 : wr .i64 ((k : Int) - 1) = (k : Int) - 1 := wrap_id (by omega) (by omega)
    refine Round.yes (decide_eq_true (show (k : Int) ≥ 0 by omega)) ?_
    dsimp only
    refine for_round' 0 64 (fun x (_ : Unit) => ((c, (f, (m, (lo, (b, ()))))), tb (M + 3) (fun j => if k + 1 ≤ j then gR (fun x y => F j x y && tt j x y) else if j = k then pm (F k) (tt k) x.toNat 0 else gR (F j)), (k : Int), x, ())) (fun _ _ => True) (b0 := ()) ?_ (by omega) trivial ?_ ?_
    · rw [show tb (M + 3) (fun j => if k + 1 ≤ j then gR (fun x y => F j x y && tt j x y) else gR (F j)) = tb (M + 3) (fun j => if k + 1 ≤ j then gR (fun x y => F j x y && tt j x y) else if j = k then pm (F k) (tt k) (0 : Int).toNat 0 else gR (F j)) from tb_ext fun j _ => by
        split
        · rfl
        · split
          · rename_i h; subst h; exact (pm_zero _ _).symm
          · rfl]
    · intro x _ x0 x1 _
      obtain ⟨x, rfl⟩ : ∃ x' : Nat, x = x' := ⟨x.toNat, by omega⟩
      have hx : x < 64 := by omega
      rw [Int.toNat_natCast]
      refine Round.yes (decide_eq_true x1) ?_
      dsimp only
      refine for_round' 0 64 (fun y (_ : Unit) => ((c, (f, (m, (lo, (b, ()))))), tb (M + 3) (fun j => if k + 1 ≤ j then gR (fun x y => F j x y && tt j x y) else if j = k then pm (F k) (tt k) x y.toNat else gR (F j)), (k : Int), (x : Int), y, ())) (fun _ _ => True) (b0 := ()) rfl (by omega) trivial ?_ ?_
      · intro y _ y0 y1 _
        obtain ⟨y, rfl⟩ : ∃ y' : Nat, y = y' := ⟨y.toNat, by omega⟩
        have hy : y < 64 := by omega
        rw [Int.toNat_natCast]
        have hat : (tb (M + 3) (fun j => if k + 1 ≤ j then gR (fun x y => F j x y && tt j x y) else if j = k then pm (F k) (tt k) x y else gR (F j)))[(Int.toNat (k : Int))]? = some (pm (F k) (tt k) x y) := by
          rw [Int.toNat_natCast, tb_get (by omega), if_neg (by omega), if_pos rfl]
        have hat2 : (tb (M + 3) (fun j => if k + 1 ≤ j then gR (fun x y => F j x y && tt j x y) else if j = k then pm (F k) (tt k) x y else gR (F j)))[(Int.toNat ((k + 1 : Nat) : Int))]? = some (gR (fun x y => F (k + 1) x y && tt (k + 1) x y)) := by
          rw [Int.toNat_natCast, tb_get (by omega), if_pos (Nat.le_refl _)]
        dsimp only
        rw [w4, tb_len, hat, hat2, wrU (x := (y : Int)) (by omega) (by omega), wrap_id (x := (y : Int) + 1) (by omega) (by omega)]
        refine Round.yes (decide_eq_true y1) (Round.chk (decide_eq_true (by omega)) (Round.chk (decide_eq_true ⟨by omega, by omega⟩) (Round.chk (decide_eq_true ⟨by omega, Int.ofNat_lt.2 hx⟩) (Round.at rfl (Round.at (pm_get _ _ hx) ?_)))))
        rw [row_has _ hy, show (F k x y && (!decide (y < y) || tt k x y)) = F k x y by simp]
        have again : ∀ g, g = pm (F k) (tt k) x (y + 1) → (tb (M + 3) (fun j => if k + 1 ≤ j then gR (fun x y => F j x y && tt j x y) else if j = k then pm (F k) (tt k) x y else gR (F j))).set k g = tb (M + 3) (fun j => if k + 1 ≤ j then gR (fun x y => F j x y && tt j x y) else if j = k then pm (F k) (tt k) x ((y : Int) + 1).toNat else gR (F j)) := by
          intro g hg
          rw [hg, tb_set, show ((y : Int) + 1).toNat = y + 1 by omega]
          refine tb_ext fun j _ => ?_
          by_cases e : j = k
          · subst e; rw [if_pos rfl, if_neg (by omega), if_pos rfl]
          · rw [if_neg e, if_neg e, if_neg e]
        have skip : (F k x y = false ∨ tt k x y = true) → tb (M + 3) (fun j => if k + 1 ≤ j then gR (fun x y => F j x y && tt j x y) else if j = k then pm (F k) (tt k) x y else gR (F j)) = tb (M + 3) (fun j => if k + 1 ≤ j then gR (fun x y => F j x y && tt j x y) else if j = k then pm (F k) (tt k) x ((y : Int) + 1).toNat else gR (F j)) := by
          intro hs
          rw [pm_skip hs, show ((y : Int) + 1).toNat = y + 1 by omega]
        refine Round.ite (fun hc => ?_) (fun hc => ?_)
        · refine Round.bind (e195 hr G hx hy hk1 (ix := ((k + 1 : Nat) : Int)) (by omega)) (Round.chk (decide_eq_true ⟨by omega, by omega⟩) (Round.chk (decide_eq_true ⟨by omega, Int.ofNat_lt.2 hy⟩) (Round.at rfl (Round.at (gR_get _ hy) ?_))))
          dsimp only
          have key : (bitsI .and .u64 (row (qq c f m lo b k x y)) (row fun z => F (k + 1) y z && tt (k + 1) y z) == (0 : Int)) = !tt k x y := by
            have h1 := row_ne fun z => qq c f m lo b k x y z && (F (k + 1) y z && tt (k + 1) y z)
            rw [row_and]
            have h2 : ∀ v : Int, (v == 0) = !(v != 0) := fun v => by simp [bne]
            have h3 : ((List.range 64).any fun z => qq c f m lo b k x y z && (F (k + 1) y z && tt (k + 1) y z)) = tt k x y := by
              rw [tk k x y hk1, ← hq, Bool.eq_iff_iff, any64, any64]
              constructor
              · rintro ⟨z, hz, h⟩
                simp only [Bool.and_eq_true] at h
                exact ⟨z, hz, by rw [h.1, h.2.2]; rfl⟩
              · rintro ⟨z, hz, h⟩
                simp only [Bool.and_eq_true] at h
                exact ⟨z, hz, by rw [h.1, h.2, Fk k x y z hx hc h.1]; rfl⟩
            rw [h2, h1, h3]
          rw [key]
          refine Round.ite (fun hd => ?_) (fun hd => ?_)
          · have hd : tt k x y = false := by simpa using hd
            refine Round.chk (decide_eq_true ⟨by omega, by omega⟩) (Round.chk (decide_eq_true ⟨by omega, Int.ofNat_lt.2 hx⟩) (Round.at rfl (Round.at (pm_get _ _ hx) (Round.chk (decide_eq_true ⟨by omega, by omega⟩) (Round.chk (decide_eq_true ⟨by omega, Int.ofNat_lt.2 hx⟩) (Round.at rfl (Round.at (pm_get _ _ hx) (Round.inr _ ⟨(), ?_, trivial⟩))))))))
            rw [show (Int.toNat (k : Int)) = k from rfl, show (Int.toNat (x : Int)) = x from rfl, again _ (pm_cut hy hc hd)]
          · have hd : tt k x y = true := by simpa using hd
            refine Round.inr _ ⟨(), ?_, trivial⟩
            rw [← skip (.inr hd)]
        · have hc : F k x y = false := by simpa using hc
          refine Round.inr _ ⟨(), ?_, trivial⟩
          rw [← skip (.inl hc)]
      · intro _ _
        refine Round.no (by simp) (Round.inl _ ⟨(), ?_, trivial⟩)
        dsimp only
        rw [wrap_id (x := (x : Int) + 1) (by omega) (by omega), show (64 : Int).toNat = 64 from rfl, pm_next, show ((x : Int) + 1).toNat = x + 1 by omega]
    · intro _ _
      refine Round.no (by simp) (Round.again _ ⟨(), ?_, trivial⟩)
      dsimp only
      rw [w5, show (64 : Int).toNat = 64 from rfl, pm_full]
      rw [show tb (M + 3) (fun j => if k + 1 ≤ j then gR (fun x y => F j x y && tt j x y) else if j = k then gR (fun x y => F k x y && tt k x y) else gR (F j)) = tb (M + 3) (fun j => if k ≤ j then gR (fun x y => F j x y && tt j x y) else gR (F j)) from tb_ext fun j _ => by
        by_cases e : j = k
        · subst e; rw [if_neg (by omega), if_pos rfl, if_pos (Nat.le_refl _)]
        · by_cases e2 : k ≤ j
          · rw [if_pos (by omega), if_pos e2]
          · rw [if_neg (by omega), if_neg e, if_neg e2]]
  · intro _ _
    refine Round.no (by simp <;> omega) (Round.done ?_)
    dsimp only
    rw [show tb (M + 3) (fun j => if M + 2 - ((M + 2 : Nat) : Int).toNat ≤ j then gR (fun x y => F j x y && tt j x y) else gR (F j)) = tb (M + 3) (fun j => gR (fun x y => F j x y && tt j x y)) from tb_ext fun j _ => if_pos (by rw [Int.toNat_natCast]; omega)]
    rw [wrap_id (x := f - 2) (by omega) (by omega), wrap_id (x := f - 1) (by omega) (by omega), tb_len]
    refine Evt.bind (e219 hr (by omega) (by omega) f m lo b (by omega) (by omega) (by omega) (by omega)) (Evt.bind (e219 hr (by omega) (by omega) f m lo b (by omega) (by omega) (by omega) (by omega)) ?_)
    rw [ex, ey]
    dsimp only
    refine Evt.chk (decide_eq_true ⟨by omega, by omega⟩) (Evt.chk (decide_eq_true ⟨Int.natCast_nonneg _, Int.ofNat_lt.2 hx0⟩) (Evt.at (x := gR fun x y => F 0 x y && tt 0 x y) (tb_get (i := 0) (by omega)) (Evt.at (x := row fun y => F 0 (px c f lo) y && tt 0 (px c f lo) y) (gR_get _ hx0) ?_)))
    rw [wrU (x := ((py c f lo : Nat) : Int)) (by omega) (by omega)]
    refine Evt.chk (decide_eq_true (by omega)) ?_
    have h00 : F 0 (px c f lo) (py c f lo) = true := by rw [hF]; simp [fwd]
    have hcq : cq c f m lo b = tt 0 (px c f lo) (py c f lo) := by unfold cq; rw [hMm, htt, ← hq]; rfl
    have key0 : (bitsI .and .u64 (shr_ .u64 (row fun y => F 0 (px c f lo) y && tt 0 (px c f lo) y) ((py c f lo : Nat) : Int)) (1 : Int) == (0 : Int)) = !tt 0 (px c f lo) (py c f lo) := by
      have h1 := row_bit (fun y => F 0 (px c f lo) y && tt 0 (px c f lo) y) hy0
      rw [h00, Bool.true_and] at h1
      rw [← h1]
      have h2 : bitsI .and .u64 (shr_ .u64 (row fun y => F 0 (px c f lo) y && tt 0 (px c f lo) y) ((py c f lo : Nat) : Int)) (1 : Int) = 0 ∨ bitsI .and .u64 (shr_ .u64 (row fun y => F 0 (px c f lo) y && tt 0 (px c f lo) y) ((py c f lo : Nat) : Int)) (1 : Int) = 1 := bit_or _ hy0
      rcases h2 with h2 | h2 <;> rw [h2] <;> rfl
    rw [key0]
    unfold fillR
    rw [hcq]
    refine Evt.ite (fun h => ?_) (fun h => ?_)
    · rw [if_neg (by simpa using h)]; exact Evt.some _
    have h : tt 0 (px c f lo) (py c f lo) = true := by simpa using h
    rw [if_pos h]
    have hfil : filP c f m lo b = fil q lo (M + 2) M 0 (px c f lo) (py c f lo) := by unfold filP; rw [hMm, hq]
    rw [hfil]
    refine for_evt' 0 m (fun k (s : Nat × Nat × List Int) => ((c, (f, (m, (lo, (b, ()))))), tb (M + 3) (fun j => gR (fun x y => F j x y && tt j x y)), (s.1 : Int), (s.2.1 : Int), s.2.2, k + 1, ())) (fun k s => s.1 < 64 ∧ s.2.1 < 64 ∧ F k.toNat s.1 s.2.1 = true ∧ tt k.toNat s.1 s.2.1 = true ∧ s.2.2.length = k.toNat ∧ s.2.2 ++ fil q lo (M + 2) (M - k.toNat) k.toNat s.1 s.2.1 = fil q lo (M + 2) M 0 (px c f lo) (py c f lo)) (b0 := (px c f lo, py c f lo, [])) rfl (by omega) ⟨hx0, hy0, h00, h, rfl, rfl⟩ ?_ ?_
    · rintro k ⟨x, y, out⟩ k0 k1 ⟨hx, hy, hFk, ht, hlen, hfil⟩
      obtain ⟨k, rfl⟩ : ∃ k' : Nat, k = k' := ⟨k.toNat, by omega⟩
      dsimp only at hx hy hFk ht hlen hfil ⊢
      rw [Int.toNat_natCast] at hFk ht hlen hfil
      rw [tk k x y (by omega)] at ht
      obtain ⟨z1, z2, z3⟩ := fstZ_some ht
      obtain ⟨z, hzz⟩ : ∃ z, z = fstZ fun z => q k x y z && tt (k + 1) y z := ⟨_, rfl⟩
      rw [← hzz] at z1 z2 z3
      have z2' := z2
      simp only [Bool.and_eq_true] at z2'
      rw [tb_len, show (k : Int) + 1 = ((k + 1 : Nat) : Int) by omega]
      refine Round.yes (decide_eq_true (by omega)) (Round.bind (e195 hr G hx hy (k := k) (by omega) (ix := ((k + 1 : Nat) : Int)) (by omega)) (Round.chk (decide_eq_true ⟨by omega, by omega⟩) (Round.chk (decide_eq_true ⟨by omega, Int.ofNat_lt.2 hy⟩) (Round.at (v := gR (fun x y => F (k + 1) x y && tt (k + 1) x y)) (by rw [Int.toNat_natCast]; exact tb_get (by omega)) (Round.at (v := row fun z => F (k + 1) y z && tt (k + 1) y z) (gR_get _ hy) ?_)))))
      dsimp only
      have hrow : bitsI .and .u64 (row (qq c f m lo b k x y)) (row fun z => F (k + 1) y z && tt (k + 1) y z) = row fun z => q k x y z && tt (k + 1) y z := by
        rw [row_and, ← hq]
        refine row_congr fun z hz => ?_
        cases e : q k x y z with
        | false => rfl
        | true => rw [Fk k x y z hx hFk e]; simp
      rw [hrow]
      have hbit : ∀ w : Nat, w < 64 → (bitsI .and .u64 (shr_ .u64 (row fun z => q k x y z && tt (k + 1) y z) (w : Int)) (1 : Int) == (0 : Int)) = !(q k x y w && tt (k + 1) y w) := by
        intro w hw
        have h1 := row_bit (fun z => q k x y z && tt (k + 1) y z) hw
        rw [← h1]
        rcases bit_or (fun z => q k x y z && tt (k + 1) y z) hw with h2 | h2 <;> rw [h2] <;> rfl
      refine for_round' 0 (z : Int) (fun w (_ : Unit) => ((c, (f, (m, (lo, (b, ()))))), tb (M + 3) (fun j => gR (fun x y => F j x y && tt j x y)), (y : Int), out, ((k + 1 : Nat) : Int), (row fun z => q k x y z && tt (k + 1) y z), w, ())) (fun _ _ => True) (b0 := ()) rfl (by omega) trivial ?_ ?_
      · intro w _ w0 w1 _
        obtain ⟨w, rfl⟩ : ∃ w' : Nat, w = w' := ⟨w.toNat, by omega⟩
        dsimp only
        rw [wrU (x := (w : Int)) (by omega) (by omega), hbit w (by omega), z3 w (by omega), wrap_id (x := (w : Int) + 1) (by omega) (by omega)]
        exact Round.chk (decide_eq_true (by omega)) (Round.yes rfl (Round.inr _ ⟨(), rfl, trivial⟩))
      · intro _ _
        dsimp only
        rw [wrU (x := (z : Int)) (by omega) (by omega), hbit z z1, z2, wrap_id (x := (z : Int) + lo) (by omega) (by omega), wrap_id (x := ((k + 1 : Nat) : Int) + 1) (by omega) (by omega)]
        refine Round.chk (decide_eq_true (by omega)) (Round.no (by simp) (Round.chk (decide_eq_true (by simp; omega)) (Round.inl _ ⟨(y, z, out ++ [lo + (z : Int)]), ?_, hy, z1, ?_, ?_, ?_, ?_⟩)))
        · dsimp only
          rw [Int.add_comm (z : Int) lo]
        · dsimp only; rw [Int.toNat_natCast]; exact Fk k x y z hx hFk z2'.1
        · dsimp only; rw [Int.toNat_natCast]; exact z2'.2
        · dsimp only; rw [List.length_append, hlen, Int.toNat_natCast]; rfl
        · dsimp only
          rw [← hfil, Int.toNat_natCast, show M - k = (M - (k + 1)) + 1 by omega, List.append_assoc]
          congr 1
          have : (fstZ fun z => q k x y z && can q (M + 2 - (k + 1)) (k + 1) y z) = z := by rw [hzz, htt]
          show _ = (lo + (fstZ fun z => q k x y z && can q (M + 2 - (k + 1)) (k + 1) y z : Nat)) :: fil q lo (M + 2) (M - (k + 1)) (k + 1) y (fstZ fun z => q k x y z && can q (M + 2 - (k + 1)) (k + 1) y z)
          rw [this]
          rfl
    · rintro ⟨x, y, out⟩ ⟨hx, hy, hFk, ht, hlen, hfil⟩
      dsimp only at hfil ⊢
      rw [hMm, Nat.sub_self] at hfil
      rw [show ∀ k, fil q lo (M + 2) 0 k x y = [] from fun _ => rfl, List.append_nil] at hfil
      rw [hfil]
      exact Round.no (by simp <;> omega) (Round.done (Evt.some _))
/- spec.FillWithin -/
theorem e143 {c : List Int} (hr : Rng c) (f m lo b : Int) : Evt (fun n => call T C n 143 (c, f, m, lo, b, ())) (fwR c f m lo b, ()) := by
  refine Evt.next (Evt.bind (e146 hr f m lo b) ?_) (fun n => r143 n c f m lo b)
  unfold fwR
  refine Evt.ite (fun h => ?_) (fun h => ?_)
  · rw [if_pos (by simpa using h)]; exact Evt.some _
  · have h : askP c f m lo b = 0 := by simpa using h
    rw [if_neg (by simp [h])]
    refine Evt.bind (e193 hr (goodS h)) ?_
    unfold fillR
    cases hc : cq c f m lo b with
    | false => exact Evt.yes rfl (Evt.some _)
    | true => exact Evt.no (by simp) (Evt.some _)
/- spec.l05Put -/
theorem e144 {c : List Int} (hr : Rng c) (h0 : 0 < c.length) (h1 : c.length ≤ 1000000) {f : Int} (f0 : 0 ≤ f) (f1 : f ≤ 1000000) (l : List Int) (hl : (l.length : Int) ≤ 1000000) : Evt (fun n => call T C n 144 (c, f, l, ())) ((putP c f l, ()), ()) := by
  refine Evt.next (Evt.chk (decide_eq_true (by have := hr.len; simp; omega)) ?_) (fun n => r144 n c f l)
  refine for_evt' 0 (l.length : Int) (fun i (_ : Unit) => (c, f, l, putP c f (l.take i.toNat), i, ())) (fun _ _ => True) (b0 := ()) (by simp [putP]) (by omega) trivial ?_ ?_
  · intro i _ i0 i1 _
    obtain ⟨v, hv⟩ := at_of (l := l) i0 i1
    have e0 := Int.emod_nonneg (f + i) (show (c.length : Int) ≠ 0 by omega)
    have e1 := Int.emod_lt_of_pos (f + i) (show 0 < (c.length : Int) by omega)
    have hm : Int.tmod (wr .i64 (f + i)) (c.length : Int) = (f + i) % c.length := by rw [wrap_id (by omega) (by omega)]; exact Int.tmod_eq_emod_of_nonneg (by omega)
    have hlen := putP_len (l.take i.toNat) c f
    dsimp only
    rw [hm, hlen, wrap_id (x := i + 1) (by omega) (by omega)]
    obtain ⟨u, hu⟩ := get_of_lt (b := putP c f (l.take i.toNat)) e0 (by rw [hlen]; exact e1)
    refine Round.yes (decide_eq_true i1) (Round.chk (bne_pos (by omega)) (Round.at hv.idx (Round.chk (decide_eq_true ⟨e0, e1⟩) (Round.at hu (Round.again _ ⟨(), ?_, trivial⟩)))))
    rw [hv.take, putP_snoc]
    have : ((l.take i.toNat).length : Int) = i := by rw [List.length_take]; omega
    rw [this]
  · intro _ _
    dsimp only
    rw [take_all]
    exact Round.no (by simp) (Round.done (Evt.some _))
/- spec.RepairCam -/
theorem e55 {c : List Int} (hr : Rng c) (b lo : Int) : Evt (fun n => call T C n 55 (c, b, lo, ())) (rpR c b lo, ()) := by
  have hl := hr.len'
  refine Evt.next (Evt.bind (e121 c (by omega)) ?_) (fun n => r55 n c b lo)
  unfold rpR
  cases hc : okC c with
  | false => exact Evt.yes rfl (Evt.some _)
  | true =>
  have hlen := okC_len hc
  refine Evt.no (by simp) (Evt.bind (e140 b) ?_)
  cases h2 : inR b 0 40000 with
  | false => exact Evt.yes rfl (Evt.some _)
  | true =>
  refine Evt.no (by simp) (Evt.bind (e141 lo) ?_)
  cases h3 : inR lo 0 9937 with
  | false => exact Evt.yes rfl (Evt.some _)
  | true =>
  have g2 := inR_iff.1 h2
  have g3 := inR_iff.1 h3
  refine Evt.no (by simp) (Evt.chk (decide_eq_true (by simp; omega)) ?_)
  refine for_evt' 0 (c.length : Int) (fun i (_ : Unit) => (b, lo, (c.length : Int), (rp b lo c i.toNat).1, (rp b lo c i.toNat).2, i, ())) (fun _ _ => True) (b0 := ()) (by simp [rp]) (by omega) trivial ?_ ?_
  · intro i _ i0 i1 _
    obtain ⟨k, rfl⟩ : ∃ k : Nat, i = k := ⟨i.toNat, by omega⟩
    have G := rp_good hr hc (b := b) (lo := lo) g3.1 g3.2 k
    have hs : rp b lo c ((k : Int) + 1).toNat = rpS b lo (rp b lo c k) k := by rw [show ((k : Int) + 1).toNat = k + 1 by omega]; rfl
    rw [Int.toNat_natCast, hs]
    obtain ⟨s, hss⟩ : ∃ s, s = rp b lo c k := ⟨_, rfl⟩
    rw [← hss] at G ⊢
    have gl := G.len
    have gm := G.many
    have b1 := G.rng.el _ (cAt_mem (by omega) ((k : Int) + 1))
    have b2 := G.rng.el _ (cAt_mem (by omega) (k : Int))
    have b3 := G.rng.el _ (cAt_mem (by omega) ((k : Int) - 1))
    dsimp only
    rw [wrap_id (x := (k : Int) + 1) (by omega) (by omega), wrap_id (x := (k : Int) - 1) (by omega) (by omega)]
    refine Round.yes (decide_eq_true i1) (Round.bind (e122' G.rng (by omega) (by omega) (by omega) (by omega)) (Round.bind (e122' G.rng (by omega) (by omega) (by omega) (by omega)) (Round.bind (e122' G.rng (by omega) (by omega) (by omega) (by omega)) ?_)))
    dsimp only
    rw [wrap_id (x := 2 * cAt s.1 (k : Int)) (by omega) (by omega), wrap_id (x := cAt s.1 ((k : Int) + 1) - 2 * cAt s.1 (k : Int)) (by omega) (by omega), wrap_id (x := cAt s.1 ((k : Int) + 1) - 2 * cAt s.1 (k : Int) + cAt s.1 ((k : Int) - 1)) (by omega) (by omega)]
    refine Round.bind (e142 (a := cAt s.1 ((k : Int) + 1) - 2 * cAt s.1 (k : Int) + cAt s.1 ((k : Int) - 1)) (by omega) (by omega)) ?_
    unfold rpS
    rw [show cAt s.1 ((k : Int) + 1) - 2 * cAt s.1 (k : Int) + cAt s.1 ((k : Int) - 1) = bendP s.1 k from rfl]
    refine Round.ite (fun h => ?_) (fun h => ?_)
    · rw [if_pos (of_decide_eq_true h)]
      exact Round.again _ ⟨(), rfl, trivial⟩
    have h : ¬ siz (bendP s.1 k) ≤ b := by simpa using h
    rw [if_neg h]
    have hn : ((c.length : Int)) = (s.1.length : Int) := by omega
    have hfrom : Int.tmod (wr .i64 (wr .i64 ((k : Int) + (c.length : Int)) - 1)) (c.length : Int) = ((k : Int) - 1) % (s.1.length : Int) := by
      rw [wrap_id (x := (k : Int) + (c.length : Int)) (by omega) (by omega), wrap_id (by omega) (by omega), hn, Int.tmod_eq_emod_of_nonneg (by omega), show (k : Int) + (s.1.length : Int) - 1 = (k : Int) - 1 + s.1.length by omega, Int.add_emod_right]
    have f0 := Int.emod_nonneg ((k : Int) - 1) (show (s.1.length : Int) ≠ 0 by omega)
    have f1 := Int.emod_lt_of_pos ((k : Int) - 1) (show 0 < (s.1.length : Int) by omega)
    rw [hfrom]
    refine Round.chk (bne_pos (by omega)) (Round.bind (e143 G.rng _ 3 lo b) ?_)
    have hF : ((fwR s.1 (((k : Int) - 1) % s.1.length) 3 lo b).2.1 == (0 : Int)) = true ↔ askP s.1 (((k : Int) - 1) % s.1.length) 3 lo b = 0 ∧ cq s.1 (((k : Int) - 1) % s.1.length) 3 lo b = true := fwR_zero _ _ _ _ _
    refine Round.ite (fun h => ?_) (fun h => ?_)
    · have h := hF.1 h
      have hfw : (fwR s.1 (((k : Int) - 1) % s.1.length) 3 lo b).1 = filP s.1 (((k : Int) - 1) % s.1.length) 3 lo b := by unfold fwR; rw [if_neg (by simp [h.1]), if_pos h.2]
      rw [if_pos h]
      refine Round.bind (e144 G.rng (by omega) (by omega) f0 (by omega) (fwR s.1 (((k : Int) - 1) % s.1.length) 3 lo b).1 (by have := fwR_len s.1 (((k : Int) - 1) % s.1.length) 3 lo b; omega)) (Round.chk (decide_eq_true (by simp; omega)) (Round.again _ ⟨(), ?_, trivial⟩))
      rw [hfw]
    · rw [if_neg fun hh => h (hF.2 hh)]
      exact Round.again _ ⟨(), rfl, trivial⟩
  · intro _ _
    dsimp only
    rw [Int.toNat_natCast]
    exact Round.no (by simp) (Round.done (Evt.some _))
/- spec.l01Same -/
theorem e75 (l : List Int) (hl : (l.length : Int) ≤ 1000000) : Evt (fun n => call T C n 75 (l, l, ())) ((true, ()), ()) := by
  refine Evt.next (Evt.no (by simp) ?_) (fun n => r75 n l l)
  refine for_evt' 0 (l.length : Int) (fun i (_ : Unit) => (l, l, i, ())) (fun _ _ => True) (b0 := ()) rfl (by omega) trivial ?_ ?_
  · intro i _ h2 h3 _
    obtain ⟨v, hv⟩ := at_of h2 h3
    exact Round.yes (decide_eq_true h3) (Round.at hv.idx (Round.at hv.idx (Round.no (by simp) (Round.again _ ⟨(), by rw [wr_succ h2 h3 (by omega)], trivial⟩))))
  · intro _ _
    exact Round.no (by simp) (Round.done (Evt.some _))
theorem e75_2 (a b : List Int) (hl : (a.length : Int) ≤ 1000000) : Evt (fun n => call T C n 75 (a, b, ())) ((decide (a = b), ()), ()) := by
  by_cases hlen : a.length = b.length
  · refine Evt.next (Evt.no (by simp [hlen]) ?_) (fun n => r75 n a b)
    refine for_evt' 0 (a.length : Int) (fun i (_ : Unit) => (a, b, i, ())) (fun i _ => a.take i.toNat = b.take i.toNat) (b0 := ()) rfl (by omega) (by simp) ?_ ?_
    · intro i _ h2 h3 he
      obtain ⟨u, hu⟩ := at_of h2 h3
      obtain ⟨v, hv⟩ := at_of (l := b) h2 (by omega)
      refine Round.yes (decide_eq_true h3) (Round.at hu.idx (Round.at hv.idx (Round.ite (fun h => ?_) (fun h => ?_))))
      · have h : u ≠ v := by simpa using h
        have : a ≠ b := fun e => by
          subst e
          have := hu.get.symm.trans hv.get
          exact h (Option.some.inj this)
        rw [decide_eq_false this]
        exact Round.done (Evt.some _)
      · have h : u = v := by simpa using h
        exact Round.again _ ⟨(), by rw [wr_succ h2 h3 (by omega)], by rw [hu.take, hv.take, he, h]⟩
    · intro _ he
      have he : a = b := by rwa [take_all, hlen, take_all] at he
      rw [decide_eq_true he]
      exact Round.no (by simp) (Round.done (Evt.some _))
  · have : a ≠ b := fun e => hlen (by rw [e])
    rw [decide_eq_false this]
    exact Evt.next (Evt.yes (by simp; omega) (Evt.some _)) (fun n => r75 n a b)
/- spec.SameCam -/
theorem e35 (l : List Int) (hl : (l.length : Int) ≤ 1000000) : Evt (fun n => call T C n 35 (l, l, ())) ((true, ()), ()) := Evt.next (Evt.bind (e75 l hl) (Evt.some _)) (fun n => r35 n l l)
theorem e35_2 (a b : List Int) (hl : (a.length : Int) ≤ 1000000) : Evt (fun n => call T C n 35 (a, b, ())) ((decide (a = b), ()), ()) := Evt.next (Evt.bind (e75_2 a b hl) (Evt.some _)) (fun n => r35 n a b)
/- spec.l00Same -/
theorem e145 (l : List Int) (hl : (l.length : Int) ≤ 1000000) : Evt (fun n => call T C n 145 (l, l, ())) ((true, ()), ()) := by
  refine Evt.next (Evt.no (by simp) ?_) (fun n => r145 n l l)
  refine for_evt' 0 (l.length : Int) (fun i (_ : Unit) => (l, l, i, ())) (fun _ _ => True) (b0 := ()) rfl (by omega) trivial ?_ ?_
  · intro i _ h2 h3 _
    obtain ⟨v, hv⟩ := at_of h2 h3
    exact Round.yes (decide_eq_true h3) (Round.at hv.idx (Round.at hv.idx (Round.no (by simp) (Round.again _ ⟨(), by rw [wr_succ h2 h3 (by omega)], trivial⟩))))
  · intro _ _
    exact Round.no (by simp) (Round.done (Evt.some _))
/- spec.SameNumbers -/
theorem e56 (l : List Int) (hl : (l.length : Int) ≤ 1000000) : Evt (fun n => call T C n 56 (l, l, ())) ((true, ()), ()) := Evt.next (Evt.bind (e145 l hl) (Evt.some _)) (fun n => r56 n l l)
/- spec.ReachOf -/
theorem e57 {c : List Int} (hr : Rng c) {f m lo b : Int} (h : askP c f m lo b = 0) : Evt (fun n => call T C n 57 (c, f, m, lo, b, ())) ((tb (m.toNat + 3) (fun i => gR (fwd (qq c f m lo b) (px c f lo) (py c f lo) i)), 0, ()), ()) := by
  have G := goodS h
  have hco := e146 hr f m lo b
  rw [h] at hco
  refine Evt.next ?_ (fun n => r57 n c f m lo b)
  exact Evt.bind hco (Evt.no (by simp) (Evt.bind (e147 hr G) (Evt.some _)))
/- strconv.FormatInt -/
theorem e178 (u : Nat) (h : u ≤ 9223372036854775807) : Evt (fun n => call T C n 178 ((u : Int), 10, ())) ((tx (Lib.decDigits u), ()), ()) := by
  refine Evt.next ?_ (fun n => r178 n u 10)
  dsimp only
  rw [if_pos ⟨rfl, by omega, by omega⟩, Lib.itoa_nonneg]
  exact Evt.some _
theorem e178_2 (v : Int) (h0 : -9223372036854775808 ≤ v) (h1 : v ≤ 9223372036854775807) : Evt (fun n => call T C n 178 (v, 10, ())) ((tx (Lib.itoa v), ()), ()) := by
  refine Evt.next ?_ (fun n => r178 n v 10)
  dsimp only
  rw [if_pos ⟨rfl, h0, h1⟩]
  exact Evt.some _
/- impl.decimal -/
theorem e105 (u : Nat) (h : u ≤ 9223372036854775807) : Evt (fun n => call T C n 105 ((u : Int), ())) ((tx (Lib.decDigits u), ()), ()) :=
  Evt.next (Evt.bind (e178 u h) (Evt.some _)) (fun n => r105 n u)
theorem e105_2 (v : Int) (h0 : -9223372036854775808 ≤ v) (h1 : v ≤ 9223372036854775807) : Evt (fun n => call T C n 105 (v, ())) ((tx (Lib.itoa v), ()), ()) :=
  Evt.next (Evt.bind (e178_2 v h0 h1) (Evt.some _)) (fun n => r105 n v)
/- strconv.FormatUint -/
theorem e170 {u : Nat} (h : u < 18446744073709551616) : Evt (fun n => call T C n 170 ((u : Int), (16 : Int), ())) ((tx (hexD u), ()), ()) := by
  refine Evt.next ?_ (fun n => r170 n (u : Int) 16)
  dsimp only
  rw [if_pos ⟨by omega, by omega, rfl⟩, Int.toNat_natCast]
  exact Evt.some _
/- strings.Repeat -/
theorem e171 {k : Nat} (h : k ≤ 15) : Evt (fun n => call T C n 171 (tx [48], (k : Int), ())) ((tx (List.replicate k 48), ()), ()) := by
  refine Evt.next ?_ (fun n => r171 n (tx [48]) (k : Int))
  dsimp only
  rw [if_pos ⟨rfl, by omega, by omega⟩, Int.toNat_natCast]
  exact Evt.some _
/- impl.hex -/
theorem e93 {u : Nat} (h : u < 18446744073709551616) : Evt (fun n => call T C n 93 ((u : Int), ())) ((tx (hxN 16 u), ()), ()) := by
  obtain ⟨h1, h2⟩ := hex16 h
  have hpos : 1 ≤ (hexD u).length := by
    by_cases hu : u < 16
    · rw [hexD_lt hu]; simp
    · rw [hexD_ge (by omega)]; simp
  have c48 : (⟨#[48]⟩ : ByteArray) = tx [48] := rfl
  refine Evt.next (Evt.bind (e170 h) ?_) (fun n => r93 n (u : Int))
  have hw : wr .i64 ((16 : Int) - ((tx (hexD u)).size : Int)) = ((16 - (hexD u).length : Nat) : Int) := by
    rw [tx_size, wrap_id (by omega) (by omega)]; omega
  simp only [hw, c48]
  refine Evt.bind (e171 (k := 16 - (hexD u).length) (by omega)) ?_
  simp only [tx_app]
  rw [h2]
  exact Evt.chk (szT (by simp; omega) (by omega)) (Evt.some _)
/- (*strings.Builder).WriteString -/
theorem e92 (x s : List UInt8) (h : x.length + s.length ≤ 1000000000) : Evt (fun n => call T C n 92 (tx x, tx s, ())) ((((s.length : Nat) : Int), false, ()), (tx (x ++ s), ())) := by
  refine Evt.next ?_ (fun n => r92 n (tx x) (tx s))
  dsimp only
  rw [if_pos (by rw [tx_size, tx_size]; omega), tx_app, tx_size]
  exact Evt.some _
/- (*strings.Builder).String -/
theorem e94 (x : ByteArray) : Evt (fun n => call T C n 94 (x, ())) ((x, ()), ()) :=
  Evt.next (Evt.some _) (fun n => r94 n x)
/- impl.GridText -/
theorem e59 {g : List Int} (hg : g.length = 64) (hb : ∀ v ∈ g, 0 ≤ v ∧ v < 18446744073709551616) : Evt (fun n => call T C n 59 (g, ())) ((tx (grT g 64), ()), ()) := by
  have c10 : (⟨#[10]⟩ : ByteArray) = tx [10] := rfl
  have c32 : (⟨#[32]⟩ : ByteArray) = tx [32] := rfl
  refine Evt.next ?_ (fun n => r59 n g)
  refine for_evt' 0 64 (fun i (_ : Unit) => (tx (grT g i.toNat), g, i, ())) (fun _ _ => True) (b0 := ()) rfl (by omega) trivial ?_ ?_
  · intro i _ i0 i1 _
    obtain ⟨i, rfl⟩ := Int.eq_ofNat_of_zero_le i0
    have hi : i < g.length := by omega
    have hgm := hb _ (getD_mem hi)
    have hat : idx g (i : Int) = some (g.getD i 0) := by
      unfold idx
      rw [if_pos (by omega), Int.toNat_natCast, List.getD_eq_getElem?_getD, List.getElem?_eq_getElem hi]
      rfl
    have hws := wr_succ (i := (i : Int)) i0 i1 (by omega)
    have hTl := grT_len g i (by omega)
    have hLl := grL_len (g := g) (r := i) (by omega)
    have hdl := dec_lenK 1 i (by omega)
    have hyes := grT_yes (g := g) (n := i)
    have hno := grT_no (g := g) (n := i)
    have eL : grL g i = Lib.decDigits i ++ 32 :: hxN 16 (g.getD i 0).toNat := rfl
    rw [Int.toNat_natCast]
    generalize g.getD i 0 = v at *
    obtain ⟨u, rfl⟩ := Int.eq_ofNat_of_zero_le hgm.1
    rw [Int.toNat_natCast] at eL
    have hxl := hxN_len 16 u
    dsimp only
    refine Round.yes (decide_eq_true i1) (Round.at hat ?_)
    by_cases hz : (u : Int) = 0
    · refine Round.no (by simp [hz]) (Round.again _ ⟨(), ?_, trivial⟩)
      rw [hws, show ((i : Int) + 1).toNat = i + 1 by omega, hno hz]
    · refine Round.yes (by simpa using hz) (Round.bind (e105 i (by omega)) ?_)
      simp only [c10, c32, tx_app]
      refine Round.chk (szT (by omega) (by simp)) (Round.bind (e93 (u := u) (by omega)) ?_)
      simp only [tx_app]
      refine Round.chk (szT (by simp; omega) (by omega)) (Round.chk (szT (by simp; omega) (by simp)) (Round.bind (e92 _ _ (by simp; omega)) (Round.again _ ⟨(), ?_, trivial⟩)))
      rw [hws, show ((i : Int) + 1).toNat = i + 1 by omega, hyes hz, eL]
      simp
  · intro _ _
    exact Round.no (by simp) (Round.bind (e94 _) (Round.done (Evt.some _)))
/- strings.Split -/
theorem e90 {c : UInt8} {w : List UInt8} {ws : List (List UInt8)} (h : c ∉ w) (hs : ∀ v ∈ ws, c ∉ v) (hl : (Lib.join (w :: ws) [c]).length ≤ 1000000) : Evt (fun n => call T C n 90 (tx (Lib.join (w :: ws) [c]), tx [c], ())) (((w :: ws).map tx, ()), ()) := by
  refine Evt.next ?_ (fun n => r90 n (tx (Lib.join (w :: ws) [c])) (tx [c]))
  dsimp only
  rw [if_pos ⟨by rw [tx_size]; omega, by rw [tx_size]; simp⟩, split_tx h hs]
  exact Evt.some _
theorem e90_2 (c : UInt8) (l : List UInt8) (hl : l.length ≤ 10000000) : Evt (fun n => call T C n 90 (tx l, tx [c], ())) (((splitC c l).map tx, ()), ()) := by
  refine Evt.next ?_ (fun n => r90 n (tx l) (tx [c]))
  dsimp only
  rw [if_pos ⟨by rw [tx_size]; omega, by rw [tx_size]; simp⟩, split_all]
  exact Evt.some _
/- strings.Cut -/
theorem e86 (l s : List UInt8) (hl : l.length ≤ 10000000) : Evt (fun n => call T C n 86 (tx l, tx s, ())) ((tx (Lib.cut l s).1, tx (Lib.cut l s).2.1, (Lib.cut l s).2.2, ()), ()) := by
  refine Evt.next ?_ (fun n => r86 n (tx l) (tx s))
  dsimp only
  rw [if_pos (by rw [tx_size]; omega)]
  exact Evt.some _
/- strconv.ParseInt -/
theorem e176 {u : Nat} (h : u ≤ 9223372036854775807) : Evt (fun n => call T C n 176 (tx (Lib.decDigits u), 10, 64, ())) (((u : Int), false, ()), ()) := by
  have l1 := dec_len h
  refine Evt.next ?_ (fun n => r176 n (tx (Lib.decDigits u)) 10 64)
  dsimp only
  rw [if_pos ⟨by rw [tx_size]; omega, rfl, rfl⟩, tx_list, parse_int h]
  exact Evt.some _
/- impl.number -/
theorem e101 {u : Nat} (h : u ≤ 9223372036854775807) : Evt (fun n => call T C n 101 (tx (Lib.decDigits u), ())) (((u : Int), true, ()), ()) := by
  refine Evt.next (Evt.bind (e176 h) (Evt.chk rfl (Evt.yes rfl (Evt.bind (e105 u h) ?_)))) (fun n => r101 n (tx (Lib.decDigits u)))
  simp only [beq_self_eq_true, cond_true]
  exact Evt.some _
theorem e101_2 (l : List UInt8) (hl : l.length ≤ 10000000) : Evt (fun n => call T C n 101 (tx l, ())) (((numI l).1, (numI l).2, ()), ()) := by
  have hP : Evt (fun n => call T C n 176 (tx l, 10, 64, ())) (((numI l).1, (match Lib.parseIntB 64 l with | .ok _ => false | _ => true), ()), ()) := by
    refine Evt.next ?_ (fun n => r176 n (tx l) 10 64)
    dsimp only
    rw [if_pos ⟨by rw [tx_size]; omega, rfl, rfl⟩, tx_list]
    unfold numI
    cases Lib.parseIntB 64 l <;> exact Evt.some _
  have hb := numI_bd l
  refine Evt.next (Evt.bind hP (Evt.chk rfl ?_)) (fun n => r101 n (tx l))
  have hd := e105_2 (numI l).1 hb.1 hb.2
  revert hd
  rcases h : Lib.parseIntB 64 l with v | _ | _
  · intro hd
    refine Evt.yes rfl (Evt.bind hd ?_)
    simp only [tx_toList, cond_true]
    have e1 : (numI l).2 = (Lib.itoa (numI l).1 == l) := by unfold numI; rw [h]
    rw [e1]
    exact Evt.some _
  · intro _
    have e1 : (numI l).2 = false := by unfold numI; rw [h]
    rw [e1]
    exact Evt.no (by simp) (Evt.some _)
  · intro _
    have e1 : (numI l).2 = false := by unfold numI; rw [h]
    rw [e1]
    exact Evt.no (by simp) (Evt.some _)
/- strconv.ParseUint -/
theorem e168 (l : List UInt8) (hl : l.length ≤ 10000000) : Evt (fun n => call T C n 168 (tx l, (16 : Int), (64 : Int), ())) ((((puT l).1 : Int), decide ((puT l).2 ≠ 0), ()), ()) := by
  refine Evt.next ?_ (fun n => r168 n (tx l) 16 64)
  dsimp only
  rw [if_pos ⟨by rw [tx_size]; omega, rfl, rfl⟩]
  exact Evt.some _
/- impl.unhex -/
theorem e91 (l : List UInt8) (hl : l.length ≤ 10000000) : Evt (fun n => call T C n 91 (tx l, ())) ((uhx l, ()), ()) := by
  refine Evt.next (Evt.bind (e168 l hl) (Evt.chk rfl ?_)) (fun n => r91 n (tx l))
  dsimp only
  unfold uhx
  by_cases h : (puT l).2 = 0
  · rw [if_pos h]
    exact Evt.no (by simp [h]) (Evt.some _)
  · rw [if_neg h]
    exact Evt.yes (by simp [h]) (Evt.some _)
/- impl.ReadGrid -/
theorem e58 {g : List Int} (hg : g.length = 64) (hb : ∀ v ∈ g, 0 ≤ v ∧ v < 18446744073709551616) : Evt (fun n => call T C n 58 (tx (grT g 64), ())) ((g, 0, ()), ()) := by
  have hTl := grT_len g 64 (by omega)
  have hlen : (nzN g 64).length ≤ 64 := by
    unfold nzN
    exact Nat.le_trans (List.length_filter_le _ _) (by simp)
  refine Evt.next (Evt.bind (e90_2 10 (grT g 64) (by omega)) ?_) (fun n => r58 n (tx (grT g 64)))
  rw [grT_split]
  have hmem : ∀ r ∈ nzN g 64, r < 64 ∧ g.getD r 0 ≠ 0 := fun r hr => nzN_mem hr
  have hfin := setAll_nz hg
  have hll : (((nzN g 64).map (grL g) ++ [[]]).map tx).length = (nzN g 64).length + 1 := by simp
  generalize nzN g 64 = rs at *
  dsimp only
  refine for_evt' 0 ((rs.length : Int) + 1) (fun i (_ : Unit) => (tx (grT g 64), List.replicate 64 (0 : Int), setAll g (rs.take i.toNat), (rs.map (grL g) ++ [[]]).map tx, (((rs.map (grL g) ++ [[]]).map tx).length : Int), i, ())) (fun _ _ => True) (b0 := ()) rfl (by omega) trivial ?_ ?_
  · intro i _ i0 i1 _
    obtain ⟨i, rfl⟩ := Int.eq_ofNat_of_zero_le i0
    have hws := wr_succ (i := (i : Int)) i0 i1 (by omega)
    have hsl := setAll_len g (rs.take i)
    rw [Int.toNat_natCast]
    dsimp only
    refine Round.yes (decide_eq_true (by rw [hll]; omega)) ?_
    by_cases hi : i < rs.length
    · obtain ⟨r, hr⟩ : ∃ r, rs[i]? = some r := ⟨_, List.getElem?_eq_getElem hi⟩
      have hrm := List.mem_of_getElem? hr
      obtain ⟨r64, rz⟩ := hmem r hrm
      have hvi : idx ((rs.map (grL g) ++ [[]]).map tx) (i : Int) = some (tx (grL g r)) := by
        unfold idx
        rw [if_pos (by omega), Int.toNat_natCast, List.getElem?_map, List.getElem?_append_left (by simpa using hi), List.getElem?_map, hr]
        rfl
      have hLl := grL_len (g := g) (r := r) r64
      have hC := e86 (grL g r) [32] (by omega)
      rw [grL_cut] at hC
      have hgm := hb _ (getD_mem (l := g) (i := r) (by omega))
      have hX := e91 (hxN 16 (g.getD r 0).toNat) (by rw [hxN_len]; omega)
      rw [uhx_hx (by omega), Int.toNat_of_nonneg hgm.1] at hX
      have hP := e148 (r : Int) 64
      have hin : inR (r : Int) 0 (wr .i64 (64 - 1)) = true := by
        rw [show wr .i64 (64 - 1) = 63 from by decide, inR_iff]
        omega
      rw [hin] at hP
      have hrc : decide (0 ≤ (r : Int) ∧ (r : Int) < ((64 : Nat) : Int)) = true := decide_eq_true (by omega)
      refine Round.at hvi (Round.bind hC (Round.bind (e101 (u := r) (by omega)) (Round.yes rfl (Round.yes rfl (Round.bind hP (Round.yes rfl (Round.bind hX (Round.chk hrc ?_))))))))
      obtain ⟨v, hv⟩ : ∃ v, (setAll g (rs.take i))[r]? = some v := ⟨_, List.getElem?_eq_getElem (by omega)⟩
      simp only [Int.toNat_natCast, hv, Option.bind_some]
      refine Round.again _ ⟨(), ?_, trivial⟩
      rw [hws, show ((i : Int) + 1).toNat = i + 1 by omega, List.take_add_one, hr]
      show _ = (_, _, setAll g (rs.take i ++ [r]), _)
      rw [setAll_snoc]
    · have ei : i = rs.length := by omega
      have hvi : idx ((rs.map (grL g) ++ [[]]).map tx) (i : Int) = some (tx []) := by
        unfold idx
        rw [if_pos (by omega), Int.toNat_natCast, List.getElem?_map, List.getElem?_append_right (by simp; omega)]
        simp [ei]
      have hC := e86 [] [32] (by simp)
      have ec : Lib.cut ([] : List UInt8) [32] = ([], [], false) := cut_miss (by simp)
      rw [ec] at hC
      refine Round.at hvi (Round.bind hC (Round.bind (e101_2 [] (by simp)) (Round.no (by simp) (Round.again _ ⟨(), ?_, trivial⟩))))
      rw [hws, show ((i : Int) + 1).toNat = i + 1 by omega, List.take_of_length_le (by omega), List.take_of_length_le (by omega)]
  · intro _ _
    have et : rs.take ((rs.length : Int) + 1).toNat = rs := List.take_of_length_le (by omega)
    dsimp only
    rw [et, hfin]
    refine Round.no (by rw [hll]; simp) (Round.bind (e59 hg hb) (Round.no (by simp) (Round.done (Evt.some _))))
/- bits.OnesCount64 -/
theorem e76 {x : Nat} (hx : x < 18446744073709551616) : Evt (fun n => call T C n 76 ((x : Int), ())) ((((bct x 64 : Nat) : Int), ()), ()) := by
  have h := pop_swar hx rfl
  dsimp only at h
  refine Evt.next (Evt.chk rfl (Evt.chk rfl (Evt.chk rfl (Evt.chk rfl (Evt.chk rfl (Evt.chk rfl ?_)))))) (fun n => r76 n x)
  rw [h]
  exact Evt.some _
/- impl.CountPairs -/
theorem e61 {W : Nat → Nat} (hW : ∀ j, j < 64 → W j < 18446744073709551616) : Evt (fun n => call T C n 61 (tb 64 (fun j => ((W j : Nat) : Int)), ())) ((((tot W 64 : Nat) : Int), ()), ()) := by
  refine Evt.next ?_ (fun n => r61 n _)
  refine for_evt' 0 64 (fun i (_ : Unit) => (((tot W i.toNat : Nat) : Int), tb 64 (fun j => ((W j : Nat) : Int)), i, ())) (fun _ _ => True) (b0 := ()) rfl (by omega) trivial ?_ ?_
  · intro i _ h2 h3 _
    have hl := tot_le W i.toNat
    have hb := bct_le (W i.toNat) 64
    have hi : idx (tb 64 (fun j => ((W j : Nat) : Int))) i = some ((W i.toNat : Nat) : Int) := by unfold idx; rw [if_pos h2, tb_get (by omega)]
    refine Round.yes (decide_eq_true h3) (Round.at hi (Round.bind (e76 (hW i.toNat (by omega))) (Round.again _ ⟨(), ?_, trivial⟩)))
    rw [wr_succ h2 h3 (by omega), show (i + 1).toNat = i.toNat + 1 by omega, wrap_id (x := ((tot W i.toNat : Nat) : Int) + ((bct (W i.toNat) 64 : Nat) : Int)) (by omega) (by omega)]
    simp only [tot, Int.natCast_add]
  · intro _ _
    exact Round.no (by simp) (Round.done (Evt.some _))
/- laws.FnRepaired -/
theorem e5 (x y : List Int) (hd : DomA (C 5).params (x, y, ())) : Evt (fun n => call T C n 5 (x, y, ())) ((true, ()), ()) := by
  have hx : ∀ v ∈ x, 0 ≤ v ∧ v ≤ 255 := byte_of hd.1
  have hy : ∀ v ∈ y, 0 ≤ v ∧ v ≤ 255 := byte_of hd.2.1
  refine Evt.next (Evt.bind (e6 x) (Evt.ite (fun _ => Evt.some _) (fun hx2 => Evt.bind (e6 y) (Evt.ite (fun _ => Evt.some _) (fun hy2 => ?_))))) (fun n => r5 n x y)
  have hx2 : ¬ (x.length : Int) > 4096 := by simpa using hx2
  have hy2 : ¬ (y.length : Int) > 4096 := by simpa using hy2
  obtain ⟨c, hC, S⟩ := e52 hx (by omega)
  have hl := S.len
  have h0 : 0 < c.length := by omega
  have hr := S.rng
  have ok := S.ok
  have hA : ∀ x, 0 ≤ cAt c x ∧ cAt c x ≤ 60 := fun x => S.el _ (cAt_mem h0 x)
  obtain ⟨k, hRo⟩ := e53 S
  have hM := gr_bends_bd h0 (fun v hv => by have := S.el v hv; omega)
  have hMx := gr_bends c
  generalize (gr (bends c)).2.1 = M at hRo hM hMx
  have hin : ∀ b, 0 ≤ b → b ≤ 40000 → ¬ (inR b 0 40000 && inR 0 0 9937) = false := fun b b0 b1 => by
    simp only [Bool.not_eq_false, Bool.and_eq_true, inR_iff]
    omega
  have hR1 := e54 hr M 0
  have e1 : rpR c M 0 = (c, [], 0, ()) := by
    unfold rpR
    rw [if_neg (by rw [ok]; simp), if_neg (hin M (by omega) (by omega)), rp_same (fun i hi => hMx i hi) c.length (Nat.le_refl _)]
  rw [e1] at hR1
  obtain ⟨b, hPb, b0, b1⟩ := e11 hy (by omega) (m := 6) (by omega) (by omega)
  have hR2 := e54 hr b 0
  have hR3 := e55 hr b 0
  have hlen := rpR_len hr b 0
  have e2 : rpR c b 0 = ((rp b 0 c c.length).1, (rp b 0 c c.length).2, 0, ()) := by
    unfold rpR
    rw [if_neg (by rw [ok]; simp), if_neg (hin b (by omega) (by omega))]
  have hnone := rp_none (b := b) (lo := 0) (c := c) c.length
  rw [e2] at hR2 hR3 hlen
  generalize rp b 0 c c.length = q at hR2 hR3 hlen hnone
  obtain ⟨d, s⟩ := q
  simp only at hR2 hR3 hlen hnone
  refine Evt.bind hC (Evt.bind hRo (Evt.bind hR1 (Evt.bind hPb (Evt.bind hR2 (Evt.bind hR3 ?_)))))
  refine Evt.no (by simp) (Evt.no (by simp) (Evt.bind (e35 c (by omega)) (Evt.no (by simp) (Evt.no (by simp) (Evt.no (by simp) (Evt.no (by simp) (Evt.bind (e35 d (by omega)) (Evt.no (by simp) (Evt.bind (e56 s (by omega)) (Evt.no (by simp) ?_))))))))))
  have ask : askP c 0 3 0 2 = 0 := by
    unfold askP
    rw [if_neg (by rw [ok]; simp), if_neg, if_neg]
    · simp only [Bool.not_eq_false, Bool.and_eq_true, inR_iff, hgt]
      have a1 := hA (0 - 2)
      have a2 := hA (0 - 1)
      have a3 := hA (0 + 3)
      have a4 := hA (0 + 3 + 1)
      omega
    · simp only [Bool.not_eq_false, Bool.and_eq_true, inR_iff]
      omega
  have hRe := e57 hr ask
  obtain ⟨t, et⟩ : ∃ t : Nat → Nat → Nat → Bool, t = fun i => fwd (qq c 0 3 0 2) (px c 0 0) (py c 0 0) i := ⟨_, rfl⟩
  have eL : tb ((3 : Int).toNat + 3) (fun i => gR (fwd (qq c 0 3 0 2) (px c 0 0) (py c 0 0) i)) = tb 6 (fun i => gR (t i)) := by rw [et]; rfl
  rw [eL] at hRe
  clear eL et
  have hgl : ∀ i, (gR (t i)).length = 64 := fun i => gR_len _
  have hgb : ∀ i, ∀ v ∈ gR (t i), 0 ≤ v ∧ v < 18446744073709551616 := fun i v hv => by
    obtain ⟨j, _, rfl⟩ := tb_mem hv
    have := row_lt (t i j)
    unfold row
    omega
  have hgW : ∀ i, gR (t i) = tb 64 (fun j => ((mkN (t i j) 64 : Nat) : Int)) := fun i => rfl
  have hll : ((tb 6 (fun i => gR (t i))).length : Int) = 6 := by rw [tb_len]; rfl
  refine Evt.ite (fun hs0 => ?_) (fun hs0 => ?_)
  · have es : s = [] := by
      have : (s.length : Int) = 0 := by simpa using hs0
      exact List.length_eq_zero_iff.1 (by omega)
    have ed : d = c := hnone es
    subst ed
    refine Evt.bind (e35 d (by omega)) (Evt.no (by simp) (Evt.bind hRe (Evt.no (by simp) ?_)))
    refine for_evt' 0 6 (fun i (_ : Unit) => (tb 6 (fun i => gR (t i)), i, ())) (fun _ _ => True) (b0 := ()) rfl (by omega) trivial ?_ ?_
    · intro i _ i0 i1 _
      obtain ⟨i, rfl⟩ := Int.eq_ofNat_of_zero_le i0
      have hws := wr_succ (i := (i : Int)) i0 i1 (by omega)
      have hat : idx (tb 6 (fun i => gR (t i))) (i : Int) = some (gR (t i)) := by
        unfold idx
        rw [if_pos (by omega), Int.toNat_natCast, tb_get (by omega)]
      have hW : ∀ j, j < 64 → mkN (t i j) 64 < 18446744073709551616 := fun j _ => row_lt _
      have hCP := e61 hW
      rw [← hgW] at hCP
      have htl := tot_le (fun j => mkN (t i j) 64)
      dsimp only
      refine Round.yes (decide_eq_true (by rw [hll]; exact i1)) (Round.at hat (Round.bind (e59 (hgl i) (hgb i)) (Round.bind (e58 (hgl i) (hgb i)) ?_)))
      dsimp only
      refine for_round' 0 64 (fun x (_ : Unit) => (tb 6 (fun i => gR (t i)), (i : Int), gR (t i), (0 : Int), ((tot (fun j => mkN (t i j) 64) x.toNat : Nat) : Int), x, ())) (fun _ _ => True) (b0 := ()) rfl (by omega) trivial ?_ ?_
      · intro x _ x0 x1 _
        obtain ⟨x, rfl⟩ := Int.eq_ofNat_of_zero_le x0
        have hxs := wr_succ (i := (x : Int)) x0 x1 (by omega)
        have htx := htl x
        rw [Int.toNat_natCast]
        dsimp only
        refine Round.yes (decide_eq_true x1) ?_
        refine for_round' 0 64 (fun y (_ : Unit) => (tb 6 (fun i => gR (t i)), (i : Int), gR (t i), (0 : Int), ((tot (fun j => mkN (t i j) 64) x + bct (mkN (t i x) 64) y.toNat : Nat) : Int), (x : Int), y, ())) (fun _ _ => True) (b0 := ()) rfl (by omega) trivial ?_ ?_
        · intro y _ y0 y1 _
          obtain ⟨y, rfl⟩ := Int.eq_ofNat_of_zero_le y0
          have hys := wr_succ (i := (y : Int)) y0 y1 (by omega)
          have hby := bct_le (mkN (t i x) 64) y
          have hbr := bct_row (t i x) (y := y) (by omega)
          rw [Int.toNat_natCast]
          dsimp only
          refine Round.yes (decide_eq_true y1) (Round.at hat (Round.bind (e60 (t i) (x := x) (y := y) (by omega) (by omega)) ?_))
          dsimp only
          cases hp : t i x y with
          | true =>
            refine Round.yes rfl (Round.inr _ ⟨(), ?_, trivial⟩)
            rw [hp, if_pos rfl] at hbr
            rw [hys, show ((y : Int) + 1).toNat = y + 1 by omega, hbr, wrap_id (by omega) (by omega), ← Nat.add_assoc, Int.natCast_add _ 1]
            rfl
          | false =>
            refine Round.no (by simp) (Round.inr _ ⟨(), ?_, trivial⟩)
            rw [hp, if_neg (by simp)] at hbr
            rw [hys, show ((y : Int) + 1).toNat = y + 1 by omega, hbr]
        · intro _ _
          dsimp only
          refine Round.no (by simp) (Round.inl (Sum.inr _) ⟨(), ?_, trivial⟩)
          rw [hxs, show ((x : Int) + 1).toNat = x + 1 by omega]
          rfl
      · intro _ _
        dsimp only
        refine Round.no (by simp) (Round.no (by simp) (Round.at hat (Round.no (by simp) (Round.at hat (Round.bind hCP (Round.no (by simp) (Round.inl _ ⟨(), ?_, trivial⟩)))))))
        rw [hws]
    · intro _ _
      exact Round.no (by rw [hll]; simp) (Round.done (Evt.some _))
  · refine Evt.bind hRe (Evt.no (by simp) ?_)
    refine for_evt' 0 6 (fun i (_ : Unit) => (tb 6 (fun i => gR (t i)), i, ())) (fun _ _ => True) (b0 := ()) rfl (by omega) trivial ?_ ?_
    · intro i _ i0 i1 _
      obtain ⟨i, rfl⟩ := Int.eq_ofNat_of_zero_le i0
      have hws := wr_succ (i := (i : Int)) i0 i1 (by omega)
      have hat : idx (tb 6 (fun i => gR (t i))) (i : Int) = some (gR (t i)) := by
        unfold idx
        rw [if_pos (by omega), Int.toNat_natCast, tb_get (by omega)]
      have hW : ∀ j, j < 64 → mkN (t i j) 64 < 18446744073709551616 := fun j _ => row_lt _
      have hCP := e61 hW
      rw [← hgW] at hCP
      have htl := tot_le (fun j => mkN (t i j) 64)
      dsimp only
      refine Round.yes (decide_eq_true (by rw [hll]; exact i1)) (Round.at hat (Round.bind (e59 (hgl i) (hgb i)) (Round.bind (e58 (hgl i) (hgb i)) ?_)))
      dsimp only
      refine for_round' 0 64 (fun x (_ : Unit) => (tb 6 (fun i => gR (t i)), (i : Int), gR (t i), (0 : Int), ((tot (fun j => mkN (t i j) 64) x.toNat : Nat) : Int), x, ())) (fun _ _ => True) (b0 := ()) rfl (by omega) trivial ?_ ?_
      · intro x _ x0 x1 _
        obtain ⟨x, rfl⟩ := Int.eq_ofNat_of_zero_le x0
        have hxs := wr_succ (i := (x : Int)) x0 x1 (by omega)
        have htx := htl x
        rw [Int.toNat_natCast]
        dsimp only
        refine Round.yes (decide_eq_true x1) ?_
        refine for_round' 0 64 (fun y (_ : Unit) => (tb 6 (fun i => gR (t i)), (i : Int), gR (t i), (0 : Int), ((tot (fun j => mkN (t i j) 64) x + bct (mkN (t i x) 64) y.toNat : Nat) : Int), (x : Int), y, ())) (fun _ _ => True) (b0 := ()) rfl (by omega) trivial ?_ ?_
        · intro y _ y0 y1 _
          obtain ⟨y, rfl⟩ := Int.eq_ofNat_of_zero_le y0
          have hys := wr_succ (i := (y : Int)) y0 y1 (by omega)
          have hby := bct_le (mkN (t i x) 64) y
          have hbr := bct_row (t i x) (y := y) (by omega)
          rw [Int.toNat_natCast]
          dsimp only
          refine Round.yes (decide_eq_true y1) (Round.at hat (Round.bind (e60 (t i) (x := x) (y := y) (by omega) (by omega)) ?_))
          dsimp only
          cases hp : t i x y with
          | true =>
            refine Round.yes rfl (Round.inr _ ⟨(), ?_, trivial⟩)
            rw [hp, if_pos rfl] at hbr
            rw [hys, show ((y : Int) + 1).toNat = y + 1 by omega, hbr, wrap_id (by omega) (by omega), ← Nat.add_assoc, Int.natCast_add _ 1]
            rfl
          | false =>
            refine Round.no (by simp) (Round.inr _ ⟨(), ?_, trivial⟩)
            rw [hp, if_neg (by simp)] at hbr
            rw [hys, show ((y : Int) + 1).toNat = y + 1 by omega, hbr]
        · intro _ _
          dsimp only
          refine Round.no (by simp) (Round.inl (Sum.inr _) ⟨(), ?_, trivial⟩)
          rw [hxs, show ((x : Int) + 1).toNat = x + 1 by omega]
          rfl
      · intro _ _
        dsimp only
        refine Round.no (by simp) (Round.no (by simp) (Round.at hat (Round.no (by simp) (Round.at hat (Round.bind hCP (Round.no (by simp) (Round.inl _ ⟨(), ?_, trivial⟩)))))))
        rw [hws]
    · intro _ _
      exact Round.no (by rw [hll]; simp) (Round.done (Evt.some _))

end Go.Cams.YtipjblnjaicbfaaGreatDoorLRq
