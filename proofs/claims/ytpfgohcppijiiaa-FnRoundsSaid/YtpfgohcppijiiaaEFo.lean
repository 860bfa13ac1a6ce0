/- What the functions that the law reaches come to. -/
import Derived.Test.YtpfgohcppijiiaaRFo
import Derived.Test.YtpfgohcppijiiaaPuAll
namespace Go.Cams.YtpfgohcppijiiaaLFo
open Go Go.Fw Go.Proofs Go.Proofs.Ytpfgohcppijiiaa.LFo
/- laws.f6big -/
theorem e14 (a : List Int) : Evt (fun n => call T C n 14 (a, ())) ((decide ((a.length : Int) > 4096), ()), ()) := Evt.next (Evt.some _) (fun n => r14 n a)
/- spec.l00From -/
theorem e46 (a : List Int) : Evt (fun n => call T C n 46 (a, ())) (((a, 0, 0, ()), ()), ()) := Evt.next (Evt.some _) (fun n => r46 n a)
/- (*spec.l00Src).next -/
theorem e80 {k : Int} {s : Src} (h : SrcAt k s) (hk : k ≤ 1000000000000) : ∃ (v : Int) (s' : Src), Evt (fun n => call T C n 80 (s, ())) ((v, ()), (s', ())) ∧ 0 ≤ v ∧ v ≤ 255 ∧ SrcAt (k + 1) s' := by
  obtain ⟨h1, h2, h3, h4⟩ := h
  have hw : wr .i64 (s.2.1 + 1) = s.2.1 + 1 := wrap_id (by omega) (by omega)
  by_cases hp : s.2.1 < (s.1.length : Int)
  · obtain ⟨v, hv⟩ := at_of h3 hp
    have hb := h1 v hv.mem
    have ev : wr .i64 v = v := wrap_id (by omega) (by omega)
    obtain ⟨z, hz⟩ : ∃ z, z = wr .u64 ((wr .u64 ((wr .u64 (s.2.2.1 * (6364136223846793005 : Int))) + (wr .u64 (wr .i64 v)))) + (1442695040888963407 : Int)) := ⟨_, rfl⟩
    refine ⟨v, (s.1, s.2.1 + 1, z, ()), Evt.next (Evt.yes (decide_eq_true hp) (Evt.at hv.idx (Evt.yes (decide_eq_true (by rw [hw]; omega)) ((Evt.some _).of_eq fun n => ?_)))) (fun n => r80 n s), hb.1, hb.2, h1, h2, by show 0 ≤ s.2.1 + 1; omega, by show s.2.1 + 1 ≤ k + 1; omega⟩
    rw [← hz, hw, ev]
    rfl
  · obtain ⟨z, hz⟩ : ∃ z, z = wr .u64 ((wr .u64 ((wr .u64 (s.2.2.1 * (6364136223846793005 : Int))) + (wr .u64 (0 : Int)))) + (1442695040888963407 : Int)) := ⟨_, rfl⟩
    have hzb : 0 ≤ z ∧ z < 18446744073709551616 := by rw [hz]; exact wrap_u64 _
    obtain ⟨y, rfl⟩ : ∃ y : Nat, z = y := ⟨z.toNat, by omega⟩
    have hval : wr .i64 (bitsI .and .u64 (shr_ .u64 (y : Int) (40 : Int)) (255 : Int)) = ((y / 2 ^ 40 % 256 : Nat) : Int) := by
      rw [show (40 : Int) = ((40 : Nat) : Int) from rfl, shr_nat (by omega), and_255 (Nat.lt_of_le_of_lt (Nat.div_le_self _ _) (by omega))]
      have := Nat.mod_lt (y / 2 ^ 40) (show 0 < 256 by omega)
      exact wrap_id (by omega) (by omega)
    have hm := Nat.mod_lt (y / 2 ^ 40) (show 0 < 256 by omega)
    refine ⟨((y / 2 ^ 40 % 256 : Nat) : Int), (s.1, s.2.1 + 1, (y : Int), ()), Evt.next (Evt.no (by simpa using hp) (Evt.no (by rw [hw]; simp; omega) (Evt.chk rfl ((Evt.some _).of_eq fun n => ?_)))) (fun n => r80 n s), by omega, by omega, h1, h2, by show 0 ≤ s.2.1 + 1; omega, by show s.2.1 + 1 ≤ k + 1; omega⟩
    rw [← hz, hw, hval]
    rfl
/- (*spec.l00Src).pick -/
theorem e64 {k : Int} {s : Src} (h : SrcAt k s) (hk : k ≤ 999999999000) {m : Int} (m1 : 1 ≤ m) (m2 : m ≤ 1000000) : ∃ (v : Int) (s' : Src), Evt (fun n => call T C n 64 (s, m, ())) ((v, ()), (s', ())) ∧ 0 ≤ v ∧ v < m ∧ SrcAt (k + 2) s' := by
  by_cases hm : m ≤ 1
  · exact ⟨0, s, Evt.next (Evt.yes (decide_eq_true hm) (Evt.some _)) (fun n => r64 n s m), by omega, by omega, h.mono (by omega)⟩
  · obtain ⟨v, s1, hE, v0, v1, hs1⟩ := e80 h (by omega)
    by_cases hb : m > 200
    · obtain ⟨u, s2, hE2, u0, u1, hs2⟩ := e80 hs1 (by omega)
      have hx : wr .i64 (wr .i64 (v * 256) + u) = v * 256 + u := by rw [wrap_id (x := v * 256) (by omega) (by omega), wrap_id (by omega) (by omega)]
      have ht0 := Int.tmod_nonneg m (show 0 ≤ v * 256 + u by omega)
      have ht1 := Int.tmod_lt_of_pos (v * 256 + u) (show 0 < m by omega)
      refine ⟨Int.tmod (v * 256 + u) m, s2, Evt.next (Evt.no (by simpa using hm) (Evt.bind hE (Evt.yes (decide_eq_true hb) (Evt.bind hE2 (Evt.chk (bne_pos (by omega)) ((Evt.some _).of_eq fun n => ?_)))))) (fun n => r64 n s m), ht0, ht1, hs2.mono (by omega)⟩
      rw [hx]
      rfl
    · have ht0 := Int.tmod_nonneg m v0
      have ht1 := Int.tmod_lt_of_pos v (show 0 < m by omega)
      exact ⟨Int.tmod v m, s1, Evt.next (Evt.no (by simpa using hm) (Evt.bind hE (Evt.no (by simpa using hb) (Evt.chk (bne_pos (by omega)) (Evt.some _))))) (fun n => r64 n s m), ht0, ht1, hs1.mono (by omega)⟩
/- (*spec.l00Src).among -/
theorem e70 {k : Int} {s : Src} (h : SrcAt k s) (hk : k ≤ 999999999000) {l : List Int} (l1 : 1 ≤ (l.length : Int)) (l2 : (l.length : Int) ≤ 1000000) : ∃ (v : Int) (s' : Src), Evt (fun n => call T C n 70 (s, l, ())) ((v, ()), (s', ())) ∧ v ∈ l ∧ SrcAt (k + 2) s' := by
  obtain ⟨i, s1, hE, i0, i1, hs1⟩ := e64 h hk l1 l2
  obtain ⟨v, hv⟩ := at_of i0 i1
  refine ⟨v, s1, Evt.next ?_ (fun n => r70 n s l), hv.mem, hs1⟩
  exact Evt.bind hE (Evt.at hv.idx (Evt.some _))
/- spec.l00Min -/
theorem e72 (a b : Int) : Evt (fun n => call T C n 72 (a, b, ())) ((min a b, ()), ()) := by
  refine Evt.next (Evt.ite (fun h => ?_) (fun h => ?_)) (fun n => r72 n a b)
  · have h : a < b := of_decide_eq_true h
    rw [show min a b = a by omega]; exact Evt.some _
  · have h : ¬ a < b := by simpa using h
    rw [show min a b = b by omega]; exact Evt.some _
/- spec.l00Max -/
theorem e71 (a b : Int) : Evt (fun n => call T C n 71 (a, b, ())) ((max a b, ()), ()) := by
  refine Evt.next (Evt.ite (fun h => ?_) (fun h => ?_)) (fun n => r71 n a b)
  · have h : a > b := of_decide_eq_true h
    rw [show max a b = a by omega]; exact Evt.some _
  · have h : ¬ a > b := by simpa using h
    rw [show max a b = b by omega]; exact Evt.some _
/- (*spec.l00Src).one -/
theorem e47 {k : Int} {s : Src} (h : SrcAt k s) (hk : k ≤ 999999999000) {m : Int} (m1 : 1 ≤ m) (m2 : m ≤ 1000000) : ∃ (b : Bool) (s' : Src), Evt (fun n => call T C n 47 (s, m, ())) ((b, ()), (s', ())) ∧ SrcAt (k + 2) s' := by
  obtain ⟨v, s1, hE, v0, v1, hs1⟩ := e64 h hk m1 m2
  exact ⟨v == 0, s1, Evt.next (Evt.bind hE (Evt.some _)) (fun n => r47 n s m), hs1⟩
/- spec.l01Drawn -/
theorem e45 {k : Int} {s : Src} (h : SrcAt k s) (hk : k ≤ 999999990000) : ∃ (c : List Int) (s' : Src), Evt (fun n => call T C n 45 (s, ())) ((c, ()), (s', ())) ∧ SmD c ∧ SrcAt (k + 200) s' := by
  obtain ⟨n0, s1, hE1, hn0, hs1⟩ := e70 h (by omega) (l := [8, 9, 12, 16, 24, 36]) (by simp) (by simp)
  have hn : 8 ≤ n0 ∧ n0 ≤ 36 := by simp at hn0; omega
  obtain ⟨nn, rfl⟩ : ∃ m : Nat, n0 = m := ⟨n0.toNat, by omega⟩
  obtain ⟨l0, s2, hE2, l00, l01, hs2⟩ := e64 hs1 (by omega) (m := 20) (by omega) (by omega)
  have key : EvtX (fun n => call T C n 45 (s, ())) (fun y => SmD y.1.1 ∧ SrcAt (k + 200) y.2.1) := by
    refine EvtX.next (EvtX.bind hE1 (EvtX.bind hE2 ?_)) (fun n => r45 n s)
    refine EvtX.loop (fun x => ∃ (src : Src) (o : List Int) (l : Int), x = (src, (nn : Int), o, l, ()) ∧ SrcAt (k + 4 + 4 * o.length) src ∧ GoodG2 nn (o, l)) (fun x => nn - x.2.2.1.length)
      ⟨s2, [], l0, rfl, hs2.mono (by simp; omega), ⟨fun v hv => (by cases hv), by show 0 ≤ l0 ∧ l0 ≤ 60; omega, by show 0 ≤ nn; omega⟩⟩ ?_
    rintro x ⟨src, out, l, rfl, hsrc, G⟩
    have hle : out.length ≤ nn := G.le
    by_cases hlt : out.length < nn
    · right
      obtain ⟨a, a1, hA, a0, al, hs3⟩ := e64 hsrc (by omega) (m := 7) (by omega) (by omega)
      obtain ⟨b, b1, hB, b0, bl, hs4⟩ := e64 hs3 (by omega) (m := 5) (by omega) (by omega)
      obtain ⟨m, hm⟩ : ∃ m : Nat, 1 + b = m := ⟨(1 + b).toNat, by omega⟩
      have G2 := grow_good (b := a - 3) m G
      have G3 := grow_more (b := a - 3) (k := m) G hlt (by omega)
      obtain ⟨R, eR⟩ : ∃ R, R = grow (a - 3) nn m (out, l) := ⟨_, rfl⟩
      rw [← eR] at G2 G3
      have G3 : out.length < R.1.length := G3
      have hRle : R.1.length ≤ nn := G2.1.le
      refine ⟨(b1, (nn : Int), R.1, R.2, ()), ⟨b1, R.1, R.2, rfl, hs4.mono (by omega), G2.1⟩, by show nn - R.1.length < nn - out.length; omega, fun y => ?_⟩
      refine Round.yes (decide_eq_true (show (out.length : Int) < (nn : Int) by omega)) (Round.bind hA (Round.bind hB ?_))
      simp only [wrap_id (x := a - 3) (by omega) (by omega), hm, wrap_id (x := (m : Int)) (by omega) (by omega)]
      refine for_round' 0 (m : Int) (fun i (s : List Int × Int) => (b1, (nn : Int), s.1, s.2, a - 3, (m : Int) - i, ())) (fun i s => GoodG2 nn s ∧ grow (a - 3) nn ((m : Int) - i).toNat s = R) (b0 := (out, l)) (by rw [Int.sub_zero]) (by omega) ⟨G, by rw [Int.sub_zero, Int.toNat_natCast, eR]⟩ ?_ ?_
      · intro i s h2 h3 ⟨hG, he⟩
        rw [show ((m : Int) - i).toNat = ((m : Int) - (i + 1)).toNat + 1 by omega, grow] at he
        refine Round.yes (decide_eq_true (show (m : Int) - i > 0 by omega)) ?_
        have hsle : s.1.length ≤ nn := hG.le
        have hlf := hG.lf
        by_cases hl : s.1.length < nn
        · rw [if_pos hl] at he
          have hone := grow_one (b := a - 3) hG hl
          refine Round.yes (show (bif true then decide ((s.1.length : Int) < (nn : Int)) else false) = true from decide_eq_true (by omega)) ?_
          simp only [wrap_id (x := s.2 + (a - 3)) (by omega) (by omega)]
          refine Round.bind (e72 60 _) (Round.bind (e71 0 _) (Round.chk (decide_eq_true (by simp only [List.length_cons, List.length_nil]; omega)) (Round.inr _ ⟨(s.1 ++ [max 0 (min 60 (s.2 + (a - 3)))], max 0 (min 60 (s.2 + (a - 3)))), ?_, hone, he⟩)))
          rw [wrap16 (x := max 0 (min 60 (s.2 + (a - 3)))) (by omega) (by omega), wrap_id (x := (m : Int) - i - 1) (by omega) (by omega), show (m : Int) - (i + 1) = (m : Int) - i - 1 by omega]
        · rw [if_neg hl] at he
          refine Round.no (show ¬ (bif true then decide ((s.1.length : Int) < (nn : Int)) else false) = true from fun h => by have := of_decide_eq_true (p := (s.1.length : Int) < (nn : Int)) h; omega) (Round.inl _ ?_)
          rw [← he]
      · intro s ⟨hG, he⟩
        rw [Int.sub_self] at he
        have he : s = R := he
        rw [he]
        exact Round.no (by simp) (Round.inl _ rfl)
    · left
      have hlen : out.length = nn := by omega
      obtain ⟨bo, s3, hO, hs3⟩ := e47 hsrc (by omega) (m := 8) (by omega) (by omega)
      have S0 : SmD out := ⟨by omega, G.el⟩
      have hs5 : SrcAt (k + 200) s3 := hs3.mono (by omega)
      cases bo with
      | false => exact ⟨((out, ()), (s3, ())), ⟨S0, hs5⟩, Round.no (by simp; omega) (Round.bind hO (Round.no (by simp) (Round.done (Evt.some _))))⟩
      | true =>
        have ht : wr .i64 (Int.tdiv (nn : Int) 2) = ((nn / 2 : Nat) : Int) := by
          rw [Int.tdiv_eq_ediv_of_nonneg (by omega), wrap_id (by omega) (by omega)]; omega
        by_cases he : nn % 2 = 0
        · obtain ⟨p, hp⟩ : ∃ p, p = (out.take (nn / 2)).drop 0 := ⟨_, rfl⟩
          have lp : p.length = nn / 2 := by rw [hp, List.drop_zero, List.length_take]; omega
          refine ⟨(((([] : List Int) ++ p) ++ p, ()), (s3, ())), ⟨⟨by show 8 ≤ (((([] : List Int) ++ p) ++ p).length : Int) ∧ (((([] : List Int) ++ p) ++ p).length : Int) ≤ 36; simp only [List.length_append, List.length_nil, lp]; omega, fun v hv => ?_⟩, hs5⟩, ?_⟩
          · have hv : v ∈ p := by simpa using hv
            rw [hp, List.drop_zero] at hv
            exact G.el v (List.mem_of_mem_take hv)
          · refine Round.no (by simp; omega) (Round.bind hO (Round.yes rfl (Round.chk rfl ?_)))
            simp only [ht, Int.toNat_natCast, show Int.toNat 0 = 0 from rfl, ← hp]
            refine Round.chk (decide_eq_true (by omega)) (Round.chk rfl (Round.yes (by rw [beq_iff_eq, Int.tmod_eq_emod_of_nonneg (by omega)]; omega) (Round.chk (decide_eq_true (by simp only [List.length_append, List.length_nil, lp]; omega)) (Round.chk (decide_eq_true (by simp only [List.length_append, List.length_nil, lp]; omega)) (Round.done (Evt.some _))))))
        · refine ⟨((out, ()), (s3, ())), ⟨S0, hs5⟩, Round.no (by simp; omega) (Round.bind hO (Round.yes rfl (Round.chk rfl ?_)))⟩
          simp only [ht]
          exact Round.chk (decide_eq_true (by omega)) (Round.chk rfl (Round.no (by rw [beq_iff_eq, Int.tmod_eq_emod_of_nonneg (by omega)]; omega) (Round.done (Evt.some _))))
  obtain ⟨⟨⟨c, _⟩, ⟨s', _⟩⟩, ⟨h1, h2⟩, hE⟩ := key
  exact ⟨c, s', hE, h1, h2⟩
/- spec.P6Cam -/
theorem e15 {b : List Int} (hb : ∀ v ∈ b, 0 ≤ v ∧ v ≤ 255) (hl : (b.length : Int) ≤ 4096) : ∃ c : List Int, Evt (fun n => call T C n 15 (b, ())) ((c, ()), ()) ∧ SmD c := by
  have h0 : SrcAt 0 ((b, 0, 0, ()) : Src) := ⟨hb, by show (b.length : Int) ≤ 1000000; omega, Int.le_refl _, Int.le_refl _⟩
  obtain ⟨c, s1, hE, S, _⟩ := e45 h0 (by omega)
  refine ⟨c, Evt.next ?_ (fun n => r15 n b), S⟩
  exact Evt.bind (e46 b) (Evt.bind hE (Evt.some _))
/- spec.P6Held -/
theorem e16 {b c : List Int} (hb : ∀ v ∈ b, 0 ≤ v ∧ v ≤ 255) (hl : (b.length : Int) ≤ 4096) (hc0 : 0 < c.length) (hc : c.length ≤ 1000) : ∃ h : List Bool, Evt (fun n => call T C n 16 (b, c, ())) ((h, ()), ()) ∧ h.length = c.length ∧ hF h 0 = true := by
  have h0 : SrcAt 0 ((b, 0, 0, ()) : Src) := ⟨hb, by show (b.length : Int) ≤ 1000000; omega, Int.le_refl _, Int.le_refl _⟩
  have key : EvtX (fun n => call T C n 16 (b, c, ())) (fun y => y.1.1.length = c.length ∧ hF y.1.1 0 = true) := by
    refine EvtX.next (EvtX.bind (e46 b) (EvtX.chk (by simp; omega) ?_)) (fun n => r16 n b c)
    refine EvtX.loop (fun x => ∃ (src : Src) (d : List Bool) (i : Nat), x = (c, src, d, (i : Int), ()) ∧ SrcAt (2 * i) src ∧ d.length = c.length ∧ i ≤ c.length) (fun x => c.length - x.2.2.2.1.toNat)
      ⟨_, List.replicate (Int.toNat (c.length : Int)) false, 0, rfl, h0, by simp, by omega⟩ ?_
    rintro x ⟨src, d, i, rfl, hsrc, hd, hle⟩
    by_cases hlt : i < c.length
    · right
      obtain ⟨v, s1, hV, hs1⟩ := e47 hsrc (by omega) (m := 2) (by omega) (by omega)
      refine ⟨(c, s1, d.set i v, ((i + 1 : Nat) : Int), ()), ⟨s1, d.set i v, i + 1, rfl, hs1.mono (by omega), by simpa using hd, by omega⟩, by show c.length - (((i + 1 : Nat) : Int)).toNat < c.length - ((i : Nat) : Int).toNat; omega, fun y => ?_⟩
      obtain ⟨u, hu⟩ : ∃ u, d[i]? = some u := ⟨_, List.getElem?_eq_getElem (by omega)⟩
      have hck : decide (0 ≤ (i : Int) ∧ (i : Int) < (d.length : Int)) = true := decide_eq_true (by omega)
      refine Round.yes (decide_eq_true (show (i : Int) < (c.length : Int) by omega)) (Round.bind hV (Round.chk hck ?_))
      simp only [Int.toNat_natCast, hu, Option.bind_some]
      refine Round.again _ ?_
      rw [wrap_id (x := (i : Int) + 1) (by omega) (by omega)]
      rfl
    · left
      obtain ⟨u, hu⟩ : ∃ u, d[0]? = some u := ⟨_, List.getElem?_eq_getElem (by omega)⟩
      have hck : decide (0 ≤ (0 : Int) ∧ (0 : Int) < (d.length : Int)) = true := decide_eq_true (by omega)
      refine ⟨((d.set 0 true, ()), ()), ⟨by simpa using hd, ?_⟩, Round.no (by simp; omega) (Round.chk hck ?_)⟩
      · show hF (d.set 0 true) 0 = true
        unfold hF
        rw [Nat.zero_mod, List.getD_eq_getElem?_getD, List.getElem?_set_self (by omega)]
        rfl
      · simp only [show Int.toNat (0 : Int) = 0 from rfl, hu, Option.bind_some]
        exact Round.done (Evt.some _)
  obtain ⟨⟨⟨d, _⟩, _⟩, ⟨h1, h2⟩, hE⟩ := key
  exact ⟨d, hE, h1, h2⟩
/- spec.l00In -/
theorem e59 (a b c : Int) : Evt (fun n => call T C n 59 (a, b, c, ())) ((inR a b c, ()), ()) := by
  refine Evt.next ?_ (fun n => r59 n a b c)
  refine Evt.ite (fun h => ?_) (fun h => ?_)
  · refine (Evt.some _).of_eq fun n => ?_
    have h : b ≤ a := of_decide_eq_true h
    simp [inR, h]
    rfl
  · refine (Evt.some _).of_eq fun n => ?_
    have h : ¬ b ≤ a := by simpa using h
    simp [inR, h]
    rfl
/- spec.l01Steps -/
theorem e54 (a : Int) : Evt (fun n => call T C n 54 (a, ())) ((inR a 8 360, ()), ()) := Evt.next (Evt.bind (e59 a 8 360) (Evt.some _)) (fun n => r54 n a)
/- spec.l01Lift -/
theorem e73 (a : Int) : Evt (fun n => call T C n 73 (a, ())) ((inR a 0 10000, ()), ()) := Evt.next (Evt.bind (e59 a 0 10000) (Evt.some _)) (fun n => r73 n a)
/- spec.l01Ok -/
theorem e48 (l : List Int) (hl : (l.length : Int) ≤ 140737488351232) : Evt (fun n => call T C n 48 (l, ())) ((okC l, ()), ()) := by
  refine Evt.next ?_ (fun n => r48 n l)
  refine Evt.bind (e54 _) ?_
  refine Evt.ite (fun h => ?_) (fun h => ?_)
  · refine (Evt.some _).of_eq fun n => ?_
    have h : inR (l.length : Int) 8 360 = false := by simpa using h
    simp [okC, h]
    rfl
  · have h : inR (l.length : Int) 8 360 = true := by simpa using h
    have he : okC l = l.all okV := by simp [okC, h]
    rw [he]
    refine loop_evt (fun (x : List Int × Int × Unit) => x.1 = l ∧ 0 ≤ x.2.1 ∧ x.2.1 ≤ (l.length : Int) ∧ l.all okV = (l.drop x.2.1.toNat).all okV) (fun (x : List Int × Int × Unit) => ((l.length : Int) - x.2.1).toNat) (x := (l, 0, ())) ⟨rfl, Int.le_refl _, by simp, by simp⟩ ?_
    rintro ⟨x1, i, _⟩ ⟨h', h0, h1, h2⟩
    simp only at h' h0 h1 h2
    subst h'
    refine Round.ite (fun hlt => ?_) (fun hge => ?_)
    · have hlt : i < (x1.length : Int) := of_decide_eq_true hlt
      obtain ⟨v, hv, hv'⟩ := idx_at h0 hlt
      have hd := drop_cons hv'
      refine Round.at hv (Round.bind (e73 _) (Round.ite (fun hb => ?_) (fun hb => ?_)))
      · have hb : okV v = false := by simpa [okV] using hb
        have h3 : x1.all okV = false := by rw [h2, hd]; simp [hb]
        rw [h3]
        exact Round.done (Evt.some _)
      · have hb : okV v = true := by simpa [okV] using hb
        have hw : wr .i64 (i + 1) = i + 1 := wrap_id (by omega) (by omega)
        refine Round.again _ ⟨⟨rfl, ?_, ?_, ?_⟩, ?_⟩ <;> simp only [hw]
        · omega
        · omega
        · rw [h2, hd, show (i + 1).toNat = i.toNat + 1 by omega]
          simp [hb]
        · omega
    · have hge : ¬ i < (x1.length : Int) := by simpa using hge
      have : x1.drop i.toNat = [] := List.drop_of_length_le (by omega)
      rw [h2, this]
      exact Round.done (Evt.some _)
/- spec.l01Range -/
theorem e49 (l : List Int) (hr : Rng l) (h0 : 0 < (l.length : Int)) : Evt (fun n => call T C n 49 (l, ())) ((mnL l, mxL l, ()), ()) := by
  have hlen := hr.len'
  obtain ⟨v0, hv0⟩ := at_of (l := l) (Int.le_refl 0) h0
  refine Evt.next (Evt.at hv0.idx ?_) (fun n => r49 n l)
  rw [hr.id hv0.mem]
  have hh := (head_at hv0).1
  refine for_evt' 1 (l.length : Int) (fun i (_ : Unit) => (l, mnF (l.take i.toNat) v0, mxF (l.take i.toNat) v0, i, ())) (fun _ _ => True) (b0 := ()) (by
    have := (head_at hv0).2
    show _ = (l, mnF (l.take 1) v0, mxF (l.take 1) v0, 1, ())
    rw [this]; simp [mnF, mxF]) (by omega) trivial ?_ ?_
  · intro i _ h2 h3 _
    obtain ⟨v, hv⟩ := at_of (l := l) (show 0 ≤ i by omega) h3
    simp only [wrap_id (x := i + 1) (by omega) (by omega)]
    refine Round.yes (decide_eq_true h3) (Round.at hv.idx (Round.bind (e72 _ _) (Round.at hv.idx (Round.bind (e71 _ _) (Round.again _ ⟨(), ?_, trivial⟩)))))
    rw [hv.take, mnF_snoc, mxF_snoc, hr.id hv.mem]
  · intro _ _
    have e1 : mnF (l.take (l.length : Int).toNat) v0 = mnL l := by rw [take_all, mnL, hh]
    have e2 : mxF (l.take (l.length : Int).toNat) v0 = mxL l := by rw [take_all, mxL, hh]
    simp only [e1, e2]
    exact Round.no (by simp) (Round.done (Evt.some _))
/- spec.RangeOf -/
theorem e17 {c : List Int} (hr : Rng c) (ok : okC c = true) : Evt (fun n => call T C n 17 (c, ())) ((mnL c, mxL c, 0, ()), ()) := by
  have hl := okC_len ok
  have hv := e48 c (by omega)
  rw [ok] at hv
  refine Evt.next ?_ (fun n => r17 n c)
  exact Evt.bind hv (Evt.no (by simp) (Evt.bind (e49 c hr (by omega)) (Evt.some _)))
/- (impl.Cam).steps -/
theorem e44 (a : List Int) : Evt (fun n => call T C n 44 (a, ())) (((a.length : Int), ()), ()) := Evt.next (Evt.some _) (fun n => r44 n a)
/- impl.inRange -/
theorem e56 (a b c : Int) : Evt (fun n => call T C n 56 (a, b, c, ())) ((inR a b c, ()), ()) := by
  refine Evt.next ?_ (fun n => r56 n a b c)
  refine Evt.ite (fun h => ?_) (fun h => ?_)
  · refine (Evt.some _).of_eq fun n => ?_
    have h : b ≤ a := of_decide_eq_true h
    simp [inR, h]
    rfl
  · refine (Evt.some _).of_eq fun n => ?_
    have h : ¬ b ≤ a := by simpa using h
    simp [inR, h]
    rfl
/- impl.isSteps -/
theorem e53 (a : Int) : Evt (fun n => call T C n 53 (a, ())) ((inR a 8 360, ()), ()) := Evt.next (Evt.bind (e56 a 8 360) (Evt.some _)) (fun n => r53 n a)
/- impl.isLift -/
theorem e78 (a : Int) : Evt (fun n => call T C n 78 (a, ())) ((inR a 0 10000, ()), ()) := Evt.next (Evt.bind (e56 a 0 10000) (Evt.some _)) (fun n => r78 n a)
/- impl.ValidCam$1 -/
theorem e77 (v : Int) : Evt (fun n => call T C n 77 (v, ())) ((!okV v, ()), ()) := Evt.next (Evt.bind (e78 _) (Evt.some _)) (fun n => r77 n v)
/- slices.IndexFunc[impl.Cam,int16]{impl.ValidCam$1} -/
theorem e83 (l : List Int) (hl : (l.length : Int) ≤ 140737488351232) : Evt (fun n => call T C n 83 (l, ((), ()), ())) ((fi (fun v => !okV v) l 0, ()), ()) := by
  refine Evt.next ?_ (fun n => r83 n l ((), ()))
  refine loop_evt (fun (x : List Int × (Unit × Unit) × Int × Int × Unit) => x.1 = l ∧ x.2.2.1 = (l.length : Int) ∧ 0 ≤ x.2.2.2.1 ∧ x.2.2.2.1 ≤ (l.length : Int) ∧ fi (fun v => !okV v) l 0 = fi (fun v => !okV v) (l.drop x.2.2.2.1.toNat) x.2.2.2.1) (fun (x : List Int × (Unit × Unit) × Int × Int × Unit) => ((l.length : Int) - x.2.2.2.1).toNat) (x := (l, ((), ()), (l.length : Int), 0, ())) ⟨rfl, rfl, Int.le_refl _, by simp, by simp⟩ ?_
  rintro ⟨x1, u, m, i, _⟩ ⟨h', hm, h0, h1, h2⟩
  simp only at h' hm h0 h1 h2
  subst h'; subst hm
  refine Round.ite (fun hlt => ?_) (fun hge => ?_)
  · have hlt : i < (x1.length : Int) := of_decide_eq_true hlt
    obtain ⟨v, hv, hv'⟩ := idx_at h0 hlt
    have hd := drop_cons hv'
    refine Round.at hv (Round.bind (e77 _) (Round.ite (fun hb => ?_) (fun hb => ?_)))
    · have hb : okV v = false := by simpa using hb
      have h3 : fi (fun v => !okV v) x1 0 = i := by rw [h2, hd]; simp [fi, hb]
      rw [h3]
      exact Round.done (Evt.some _)
    · have hb : okV v = true := by simpa using hb
      have hw : wr .i64 (i + 1) = i + 1 := wrap_id (by omega) (by omega)
      refine Round.again _ ⟨⟨rfl, rfl, ?_, ?_, ?_⟩, ?_⟩ <;> simp only [hw]
      · omega
      · omega
      · rw [h2, hd, show (i + 1).toNat = i.toNat + 1 by omega]
        simp [fi, hb]
      · omega
  · have hge : ¬ i < (x1.length : Int) := by simpa using hge
    have : x1.drop i.toNat = [] := List.drop_of_length_le (by omega)
    rw [h2, this]
    exact Round.done (Evt.some _)
/- slices.ContainsFunc[impl.Cam,int16]{impl.ValidCam$1} -/
theorem e76 (l : List Int) (hl : (l.length : Int) ≤ 140737488351232) : Evt (fun n => call T C n 76 (l, ((), ()), ())) ((l.any (fun v => !okV v), ()), ()) := by
  refine Evt.next (Evt.bind (e83 l hl) ((Evt.some _).of_eq fun n => ?_)) (fun n => r76 n l ((), ()))
  simp only [fi_any _ l 0 (Int.le_refl _)]
  rfl
/- impl.ValidCam -/
theorem e55 (l : List Int) (hl : (l.length : Int) ≤ 140737488351232) : Evt (fun n => call T C n 55 (l, ())) ((okC l, ()), ()) := by
  refine Evt.next (Evt.bind (e44 l) (Evt.bind (e53 _) ?_)) (fun n => r55 n l)
  refine Evt.ite (fun h => ?_) (fun h => ?_)
  · refine Evt.bind (e76 l hl) ((Evt.some _).of_eq fun n => ?_)
    have h : inR (l.length : Int) 8 360 = true := h
    have : okC l = !l.any (fun v => !okV v) := by simp [okC, h, List.any_eq_not_all_not]
    rw [this]
    rfl
  · refine (Evt.some _).of_eq fun n => ?_
    have h : inR (l.length : Int) 8 360 = false := by simpa using h
    simp [okC, h]
    rfl
/- impl.codeIf -/
theorem e37 (c : Bool) (v : Int) : Evt (fun n => call T C n 37 (c, v, ())) (((if c = true then v else 0), ()), ()) := by
  refine Evt.next ?_ (fun n => r37 n c v)
  cases c with
  | true => exact Evt.yes rfl (Evt.some _)
  | false => exact Evt.no (by simp) (Evt.some _)
/- impl.firstCode -/
theorem e35 (l : List Int) (hl : (l.length : Int) ≤ 140737488351232) : Evt (fun n => call T C n 35 (l, ())) ((fst0 l, ()), ()) := by
  refine Evt.next ?_ (fun n => r35 n l)
  refine loop_evt (fun (x : List Int × Int × Int × Unit) => x.1 = l ∧ x.2.1 = (l.length : Int) ∧ 0 ≤ x.2.2.1 ∧ x.2.2.1 ≤ (l.length : Int) ∧ fst0 l = fst0 (l.drop x.2.2.1.toNat)) (fun (x : List Int × Int × Int × Unit) => ((l.length : Int) - x.2.2.1).toNat) (x := (l, (l.length : Int), 0, ())) ⟨rfl, rfl, Int.le_refl _, by simp, by simp⟩ ?_
  rintro ⟨x1, m, i, _⟩ ⟨h', hm, h0, h1, h2⟩
  simp only at h' hm h0 h1 h2
  subst h'; subst hm
  refine Round.ite (fun hlt => ?_) (fun hge => ?_)
  · have hlt : i < (x1.length : Int) := of_decide_eq_true hlt
    obtain ⟨v, hv, hv'⟩ := idx_at h0 hlt
    have hd := drop_cons hv'
    refine Round.at hv (Round.ite (fun hb => ?_) (fun hb => ?_))
    · have hb : v ≠ 0 := by simpa using hb
      have h3 : fst0 x1 = v := by rw [h2, hd]; simp [fst0, hb]
      rw [h3]
      exact Round.done (Evt.some _)
    · have hb : v = 0 := by simpa using hb
      have hw : wr .i64 (i + 1) = i + 1 := wrap_id (by omega) (by omega)
      refine Round.again _ ⟨⟨rfl, rfl, ?_, ?_, ?_⟩, ?_⟩ <;> simp only [hw]
      · omega
      · omega
      · rw [h2, hd, show (i + 1).toNat = i.toNat + 1 by omega]
        simp [fst0, hb]
      · omega
  · have hge : ¬ i < (x1.length : Int) := by simpa using hge
    have : x1.drop i.toNat = [] := List.drop_of_length_le (by omega)
    rw [h2, this]
    exact Round.done (Evt.some _)
/- impl.heldCode -/
theorem e36 (c : List Int) (h : List Bool) (hl : (c.length : Int) ≤ 140737488351232) : Evt (fun n => call T C n 36 (c, h, ())) ((hcode c h, ()), ()) := by
  refine Evt.next (Evt.bind (e55 c hl) (Evt.bind (e37 _ _) (Evt.bind (e37 _ _) (Evt.bind (e35 _ (by simp)) ?_)))) (fun n => r36 n c h)
  have e : fst0 [if (!okC c) = true then (1 : Int) else 0, if ((h.length : Int) != (c.length : Int)) = true then (2 : Int) else 0] = hcode c h := by
    unfold hcode
    cases ho : okC c with
    | false => simp [fst0]
    | true =>
      by_cases hn : h.length = c.length
      · simp [fst0, hn]
      · have h2 : ¬ (h.length : Int) = c.length := by omega
        simp [fst0, hn, h2]
  dsimp only
  rw [e]
  exact Evt.some _
/- impl.floorDiv -/
theorem e69 {a b : Int} (hb : 0 < b) (h1 : -4500000000000000000 ≤ a) (h2 : a ≤ 4500000000000000000) : Evt (fun n => call T C n 69 (a, b, ())) ((a / b, ()), ()) := by
  have hbd := ediv_bd hb h1 h2 (by omega)
  have he := floorDiv_eq (a := a) hb
  refine Evt.next (Evt.chk (bne_pos hb) (Evt.chk (bne_pos hb) (Evt.ite (fun h => ?_) (fun h => ?_)))) (fun n => r69 n a b)
  · have h : Int.tmod a b < 0 := of_decide_eq_true h
    rw [if_pos h] at he
    refine (Evt.some _).of_eq fun n => ?_
    rw [wrap_id (x := Int.tdiv a b) (by omega) (by omega), wrap_id (by omega) (by omega), he]
    rfl
  · have h : ¬ Int.tmod a b < 0 := by simpa using h
    rw [if_neg h] at he
    refine (Evt.some _).of_eq fun n => ?_
    rw [wrap_id (x := Int.tdiv a b) (by omega) (by omega), he]
    rfl
/- impl.mod -/
theorem e43 {a b : Int} (hb : 0 < b) (hb' : b ≤ 1000000000000) (h1 : -1000000000000 ≤ a) (h2 : a ≤ 1000000000000) : Evt (fun n => call T C n 43 (a, b, ())) ((a % b, ()), ()) := by
  have hd := Int.emod_def a b
  have h3 := Int.emod_nonneg a (show b ≠ 0 by omega)
  have h4 := Int.emod_lt_of_pos a hb
  refine Evt.next (Evt.bind (e69 hb (by omega) (by omega)) ((Evt.some _).of_eq fun n => ?_)) (fun n => r43 n a b)
  simp only
  rw [wrap_id (x := b * (a / b)) (by omega) (by omega), ← hd, wrap_id (by omega) (by omega)]
  rfl
/- (impl.Cam).at -/
theorem e41 {l : List Int} (hr : Rng l) (h0 : 0 < (l.length : Int)) (h1 : (l.length : Int) ≤ 1000000) {x : Int} (hx : -4000000 ≤ x) (hx' : x ≤ 4000000) : Evt (fun n => call T C n 41 (l, x, ())) ((cAt l x, ()), ()) := by
  have hp := Int.emod_nonneg x (show (l.length : Int) ≠ 0 by omega)
  have hq := Int.emod_lt_of_pos x h0
  have hv := g_idx (l := l) hp hq
  refine Evt.next (Evt.bind (e44 l) (Evt.bind (e43 (a := x) h0 (by omega) (by omega) (by omega)) (Evt.at hv.idx ((Evt.some _).of_eq fun n => ?_)))) (fun n => r41 n l x)
  rw [hr.id hv.mem]
  rfl
/- impl.nearest -/
theorem e42 {x n : Int} (hn : 0 < n) (hn' : n ≤ 10000000000000) (h1 : -2000000000000000000 ≤ x) (h2 : x ≤ 2000000000000000000) : Evt (fun m => call T C m 42 (x, n, ())) ((nr x n, ()), ()) := by
  refine Evt.next ?_ (fun m => r42 m x n)
  rw [wrap_id (x := 2 * n) (by omega) (by omega), wrap_id (x := 2 * x) (by omega) (by omega), wrap_id (x := 2 * x + n) (by omega) (by omega)]
  exact Evt.bind (e69 (by omega) (by omega) (by omega)) (Evt.some _)
/- (impl.Cam).round$1 -/
theorem e75 {c : List Int} (hr : Rng c) (hc0 : 0 < c.length) (hc : c.length ≤ 1000) (hC : ∀ v ∈ c, 0 ≤ v ∧ v ≤ 10000) {h : List Bool} (hh : h.length = c.length) {i : Nat} (hi : i < c.length) : Evt (fun n => call T C n 75 ((i : Int), c, h, ())) ((rndV c h i, ()), (c, h, ())) := by
  have hb : ∀ x, 0 ≤ cAt c x ∧ cAt c x ≤ 10000 := fun x => hC _ (cAt_mem hc0 x)
  have b1 := hb ((i : Int) - 1)
  have b2 := hb (i : Int)
  have b3 := hb ((i : Int) + 1)
  have hat : idx h (i : Int) = some (hF h i) := by
    unfold idx hF
    rw [if_pos (by omega), Int.toNat_natCast, Nat.mod_eq_of_lt (by omega), List.getD_eq_getElem?_getD, List.getElem?_eq_getElem (by omega)]
    rfl
  have hA := e41 hr (by omega) (by omega) (x := (i : Int)) (by omega) (by omega)
  have w1 : wr .i64 ((i : Int) - 1) = (i : Int) - 1 := wrap_id (by omega) (by omega)
  have w2 : wr .i64 ((i : Int) + 1) = (i : Int) + 1 := wrap_id (by omega) (by omega)
  have hA1 := e41 hr (by omega) (by omega) (x := (i : Int) - 1) (by omega) (by omega)
  have hA2 := e41 hr (by omega) (by omega) (x := (i : Int) + 1) (by omega) (by omega)
  have er : rndV c h i = if hF h i = true then cAt c (i : Int) else nr (cAt c ((i : Int) - 1) + 2 * cAt c (i : Int) + cAt c ((i : Int) + 1)) 4 := rfl
  rw [er]
  generalize cAt c ((i : Int) - 1) = a at *
  generalize cAt c ((i : Int) + 1) = d at *
  generalize cAt c (i : Int) = v at *
  refine Evt.next (Evt.bind hA (Evt.at hat ?_)) (fun n => r75 n (i : Int) c h)
  cases hF h i with
  | true => exact Evt.yes rfl (Evt.some _)
  | false =>
    rw [if_neg (by simp)]
    refine Evt.no (by simp) ?_
    rw [w1, w2]
    refine Evt.bind hA1 (Evt.bind hA2 ?_)
    have w3 : wr .i64 (wr .i64 (a + wr .i64 (2 * v)) + d) = a + 2 * v + d := by
      rw [wrap_id (x := 2 * v) (by omega) (by omega), wrap_id (x := a + 2 * v) (by omega) (by omega), wrap_id (by omega) (by omega)]
    dsimp only
    rw [w3]
    exact Evt.bind (e42 (by omega) (by omega) (by omega) (by omega)) (Evt.some _)
/- impl.camOf{(impl.Cam).round$1} -/
theorem e74 {c : List Int} (hr : Rng c) (hc0 : 0 < c.length) (hc : c.length ≤ 1000) (hC : ∀ v ∈ c, 0 ≤ v ∧ v ≤ 10000) {h : List Bool} (hh : h.length = c.length) : Evt (fun n => call T C n 74 ((c.length : Int), ((), c, h, ()), ())) ((rnd c h, 0, ()), (((), c, h, ()), ())) := by
  have hb : ∀ x, 0 ≤ cAt c x ∧ cAt c x ≤ 10000 := fun x => hC _ (cAt_mem hc0 x)
  have hll := rnd_len c h
  refine Evt.next ?_ (fun n => r74 n (c.length : Int) ((), c, h, ()))
  refine for_evt' 0 (c.length : Int) (fun i (_ : Unit) => (((), (c, (h, ()))), (rnd c h).take i.toNat, (c.length : Int), i, ())) (fun _ _ => True) (b0 := ()) rfl (by omega) trivial ?_ ?_
  · intro i _ h2 h3 _
    obtain ⟨a, rfl⟩ : ∃ a : Nat, i = a := ⟨i.toNat, by omega⟩
    have hv := rndV_bd (h := h) hb a
    have hin : inR (rndV c h a) 0 10000 = true := inR_iff.2 hv
    have hws := wr_succ h2 h3 (by omega)
    have hlen : ((rnd c h).take a).length = a := by rw [List.length_take]; omega
    rw [Int.toNat_natCast]
    dsimp only
    refine Round.yes (decide_eq_true h3) (Round.bind (e75 hr hc0 hc hC hh (i := a) (by omega)) (Round.bind (e78 _) ?_))
    dsimp only
    rw [hin]
    refine Round.no (by simp) (Round.chk (decide_eq_true (by simp only [List.length_singleton]; omega)) (Round.again _ ⟨(), ?_, trivial⟩))
    have hget : (rnd c h)[a]? = some (rndV c h a) := tb_get (by omega)
    rw [hws, show ((a : Int) + 1).toNat = a + 1 by omega, List.take_add_one, hget, wr16_id (by omega) (by omega)]
    rfl
  · intro _ _
    rw [Int.toNat_natCast, List.take_of_length_le (by omega)]
    exact Round.no (by simp) (Round.done (Evt.some _))
/- (impl.Cam).round -/
theorem e50 {c : List Int} (hr : Rng c) (hc0 : 0 < c.length) (hc : c.length ≤ 1000) (hC : ∀ v ∈ c, 0 ≤ v ∧ v ≤ 10000) {h : List Bool} (hh : h.length = c.length) : Evt (fun n => call T C n 50 (c, h, ())) ((rnd c h, ()), ()) :=
  Evt.next (Evt.bind (e44 c) (Evt.bind (e74 hr hc0 hc hC hh) (Evt.some ((rnd c h, ()), ())))) (fun n => r50 n c h)
/- impl.SmoothRound -/
theorem e18 {c : List Int} (S : SmD c) {h : List Bool} (hh : h.length = c.length) : Evt (fun n => call T C n 18 (c, h, ())) ((rnd c h, 0, ()), ()) := by
  have hl := S.len
  have e : hcode c h = 0 := by unfold hcode; rw [S.ok, if_neg (by simp), if_neg (fun e => e hh)]
  have hC := e36 c h (by omega)
  rw [e] at hC
  refine Evt.next (Evt.bind hC ?_) (fun n => r18 n c h)
  exact Evt.no (by simp) (Evt.bind (e50 S.rng (by omega) (by omega) (fun v hv => by have := S.el v hv; omega) hh) (Evt.some _))
/- spec.l05Held -/
theorem e31 (c : List Int) (h : List Bool) (hl : (c.length : Int) ≤ 140737488351232) : Evt (fun n => call T C n 31 (c, h, ())) ((hcode c h, ()), ()) := by
  refine Evt.next (Evt.bind (e48 c hl) ?_) (fun n => r31 n c h)
  cases ho : okC c with
  | false =>
    have e : hcode c h = 1 := if_pos ho
    rw [e]
    exact Evt.yes (by simp) (Evt.some _)
  | true =>
    refine Evt.no (by simp) ?_
    have e1 : hcode c h = if h.length ≠ c.length then 2 else 0 := if_neg (by rw [ho]; simp)
    by_cases hn : h.length = c.length
    · have e2 : hcode c h = 0 := e1.trans (if_neg fun e => e hn)
      rw [e2]
      exact Evt.no (by simp [hn]) (Evt.some _)
    · have e2 : hcode c h = 2 := e1.trans (if_pos hn)
      rw [e2]
      exact Evt.yes (by simp; omega) (Evt.some _)
/- spec.l01At -/
theorem e33 {l : List Int} (hr : Rng l) (h0 : 0 < (l.length : Int)) (h1 : (l.length : Int) ≤ 1000000) {x : Int} (hx : -4000000 ≤ x) (hx' : x ≤ 4000000) : ∃ v, l[(x % l.length).toNat]? = some v ∧ v ∈ l ∧ Evt (fun n => call T C n 33 (l, x, ())) ((v, ()), ()) := by
  have hp := Int.emod_nonneg x (show (l.length : Int) ≠ 0 by omega)
  obtain ⟨v, hv⟩ := at_of (l := l) hp (Int.emod_lt_of_pos x h0)
  refine ⟨v, hv.get, hv.mem, ?_⟩
  refine Evt.next (Evt.chk (bne_pos h0) (Evt.chk (bne_pos h0) ?_)) (fun n => r33 n l x)
  rw [turn_at h0 h1 hx hx']
  refine Evt.at hv.idx ((Evt.some _).of_eq fun n => ?_)
  rw [hr.id hv.mem]
  rfl
theorem e33' {l : List Int} (hr : Rng l) (h0 : 0 < (l.length : Int)) (h1 : (l.length : Int) ≤ 1000000) {x : Int} (hx : -4000000 ≤ x) (hx' : x ≤ 4000000) : Evt (fun n => call T C n 33 (l, x, ())) ((cAt l x, ()), ()) := by
  obtain ⟨v, hv, hm, he⟩ := e33 hr h0 h1 hx hx'
  have : cAt l x = v := by unfold cAt g; rw [List.getD_eq_getElem?_getD, hv]; rfl
  rw [this]; exact he
/- spec.l01Near -/
theorem e34 {x n : Int} (hn : 0 < n) (hn' : n ≤ 10000000000000) (h1 : -2000000000000000000 ≤ x) (h2 : x ≤ 2000000000000000000) : Evt (fun m => call T C m 34 (x, n, ())) ((nr x n, ()), ()) := by
  have hbd := ediv_bd (a := 2 * x + n) (b := 2 * n) (M := 4500000000000000000) (by omega) (by omega) (by omega) (by omega)
  have he := floorDiv_eq (a := 2 * x + n) (b := 2 * n) (by omega)
  refine Evt.next ?_ (fun m => r34 m x n)
  rw [wrap_id (x := 2 * n) (by omega) (by omega), wrap_id (x := 2 * x) (by omega) (by omega), wrap_id (x := 2 * x + n) (by omega) (by omega)]
  refine Evt.chk (bne_pos (by omega)) (Evt.chk (bne_pos (by omega)) (Evt.ite (fun h => ?_) (fun h => ?_)))
  · have h : Int.tmod (2 * x + n) (2 * n) < 0 := of_decide_eq_true h
    rw [if_pos h] at he
    refine (Evt.some _).of_eq fun m => ?_
    rw [wrap_id (x := Int.tdiv (2 * x + n) (2 * n)) (by omega) (by omega), wrap_id (by omega) (by omega), he]
    rfl
  · have h : ¬ Int.tmod (2 * x + n) (2 * n) < 0 := by simpa using h
    rw [if_neg h] at he
    refine (Evt.some _).of_eq fun m => ?_
    rw [wrap_id (x := Int.tdiv (2 * x + n) (2 * n)) (by omega) (by omega), he]
    rfl
/- spec.l05Round -/
theorem e51 {c : List Int} (hr : Rng c) (hc0 : 0 < c.length) (hc : c.length ≤ 1000) (hC : ∀ v ∈ c, 0 ≤ v ∧ v ≤ 10000) {h : List Bool} (hh : h.length = c.length) : Evt (fun n => call T C n 51 (c, h, ())) ((rnd c h, ()), ()) := by
  have hb : ∀ x, 0 ≤ cAt c x ∧ cAt c x ≤ 10000 := fun x => hC _ (cAt_mem hc0 x)
  refine Evt.next (Evt.chk (decide_eq_true (by simp only [List.length_nil]; omega)) ?_) (fun n => r51 n c h)
  refine for_evt' 0 (c.length : Int) (fun i (_ : Unit) => (c, h, rndM c h i.toNat, i, ())) (fun _ _ => True) (b0 := ()) (by rw [show (0 : Int).toNat = 0 from rfl, rndM_zero]; rfl) (by omega) trivial ?_ ?_
  · intro i _ h2 h3 _
    obtain ⟨i, rfl⟩ : ∃ a : Nat, i = a := ⟨i.toNat, by omega⟩
    have hi : i < c.length := by omega
    have hat : idx h (i : Int) = some (hF h i) := by
      unfold idx hF
      rw [if_pos (by omega), Int.toNat_natCast, Nat.mod_eq_of_lt (by omega), List.getD_eq_getElem?_getD, List.getElem?_eq_getElem (by omega)]
      rfl
    have b1 := hb ((i : Int) - 1)
    have b2 := hb (i : Int)
    have b3 := hb ((i : Int) + 1)
    have hv := rndV_bd (h := h) hb i
    have w1 : wr .i64 ((i : Int) - 1) = (i : Int) - 1 := wrap_id (by omega) (by omega)
    have hws := wr_succ h2 h3 (by omega)
    have hA := e33' hr (by omega) (by omega) (x := (i : Int)) (by omega) (by omega)
    have hA1 := e33' hr (by omega) (by omega) (x := (i : Int) - 1) (by omega) (by omega)
    have hA2 := e33' hr (by omega) (by omega) (x := (i : Int) + 1) (by omega) (by omega)
    have er : rndV c h i = if hF h i = true then cAt c (i : Int) else nr (cAt c ((i : Int) - 1) + 2 * cAt c (i : Int) + cAt c ((i : Int) + 1)) 4 := rfl
    have hml := rndM_len c h i
    have hst := rndM_set (c := c) (h := h) hi
    have hhd := rndM_held (c := c) (h := h) hi
    have hck : decide (0 ≤ (i : Int) ∧ (i : Int) < ((rndM c h i).length : Int)) = true := decide_eq_true (by omega)
    rw [Int.toNat_natCast]
    dsimp only
    refine Round.yes (decide_eq_true h3) (Round.at hat ?_)
    cases hF' : hF h i with
    | true =>
      refine Round.no (by simp) (Round.again _ ⟨(), ?_, trivial⟩)
      rw [hws, show ((i : Int) + 1).toNat = i + 1 by omega, hhd hF']
    | false =>
      rw [hF', if_neg (by simp)] at er
      generalize cAt c ((i : Int) - 1) = a at *
      generalize cAt c ((i : Int) + 1) = d at *
      generalize cAt c (i : Int) = v at *
      have w3 : wr .i64 (wr .i64 (a + wr .i64 (2 * v)) + d) = a + 2 * v + d := by
        rw [wrap_id (x := 2 * v) (by omega) (by omega), wrap_id (x := a + 2 * v) (by omega) (by omega), wrap_id (by omega) (by omega)]
      refine Round.yes rfl ?_
      rw [w1, hws]
      refine Round.bind hA1 (Round.bind hA (Round.bind hA2 ?_))
      dsimp only
      rw [w3]
      refine Round.bind (e34 (by omega) (by omega) (by omega) (by omega)) (Round.chk hck ?_)
      obtain ⟨u, hu⟩ : ∃ u, (rndM c h i)[i]? = some u := ⟨_, List.getElem?_eq_getElem (by omega)⟩
      simp only [Int.toNat_natCast, hu, Option.bind_some]
      refine Round.again _ ⟨(), ?_, trivial⟩
      rw [show ((i : Int) + 1).toNat = i + 1 by omega, ← hst, ← er, wr16_id (by omega) (by omega)]
  · intro _ _
    rw [Int.toNat_natCast, rndM_all]
    exact Round.no (by simp) (Round.done (Evt.some _))
/- spec.SmoothRound -/
theorem e19 {c : List Int} (S : SmD c) {h : List Bool} (hh : h.length = c.length) : Evt (fun n => call T C n 19 (c, h, ())) ((rnd c h, 0, ()), ()) := by
  have hl := S.len
  have e : hcode c h = 0 := by unfold hcode; rw [S.ok, if_neg (by simp), if_neg (fun e => e hh)]
  have hC := e31 c h (by omega)
  rw [e] at hC
  refine Evt.next (Evt.bind hC ?_) (fun n => r19 n c h)
  exact Evt.no (by simp) (Evt.bind (e51 S.rng (by omega) (by omega) (fun v hv => by have := S.el v hv; omega) hh) (Evt.some _))
/- slices.Index[[]bool,bool] -/
theorem e66 (l : List Bool) (x : Bool) (hl : (l.length : Int) ≤ 4000000) : Evt (fun n => call T C n 66 (l, x, ())) ((fi (fun v => x == v) l 0, ()), ()) := by
  refine Evt.next ?_ (fun n => r66 n l x)
  refine for_evt' 0 (l.length : Int) (fun i (_ : Unit) => (l, x, (l.length : Int), i, ())) (fun i _ => fi (fun v => x == v) l 0 = fi (fun v => x == v) (l.drop i.toNat) i) (b0 := ()) rfl (by omega) (by simp) ?_ ?_
  · intro i _ h2 h3 hp
    obtain ⟨v, hv⟩ := at_of h2 h3
    rw [hv.drop] at hp
    simp only [fi] at hp
    refine Round.yes (decide_eq_true h3) (Round.at hv.idx ?_)
    cases hb : x == v with
    | true =>
      simp only [hb, if_true] at hp
      rw [hp]
      exact Round.yes rfl (Round.done (Evt.some _))
    | false =>
      simp only [hb, Bool.false_eq_true, if_false] at hp
      exact Round.no (by simp) (Round.again _ ⟨(), by rw [wr_succ h2 h3 (by omega)], hp⟩)
  · intro _ hp
    rw [drop_all] at hp
    rw [hp]
    exact Round.no (by simp) (Round.done (Evt.some _))
/- slices.Contains[[]bool,bool] -/
theorem e38 (l : List Bool) (x : Bool) (hl : (l.length : Int) ≤ 4000000) : Evt (fun n => call T C n 38 (l, x, ())) ((l.any (fun v => x == v), ()), ()) := by
  refine Evt.next (Evt.bind (e66 l x hl) ((Evt.some _).of_eq fun n => ?_)) (fun n => r38 n l x)
  simp only [fi_any _ l 0 (Int.le_refl _)]
  rfl
/- slices.Clone[impl.Cam,int16] -/
theorem e39 (l : List Int) (h0 : l.length ≠ 0) (hl : (l.length : Int) ≤ 1000000) : Evt (fun n => call T C n 39 (l, ())) ((l, ()), ()) :=
  Evt.next (Evt.yes (decide_eq_true h0) (Evt.chk (by simp; omega) (Evt.some _))) (fun n => r39 n l)
/- slices.SortFunc[[][2]int64,[2]int64]{impl.freeStretches$1} -/
theorem e67 {l : List (List Int)} (h : sortOk l = true) : Evt (fun n => call T C n 67 (l, ((), ()), ())) ((), (sortK l, ())) := by
  refine Evt.next ?_ (fun n => r67 n l ((), ()))
  dsimp only
  rw [if_pos h]
  exact Evt.some _
/- impl.freeStretches -/
theorem e40 (h : List Bool) (h0 : 0 < h.length) (hl : (h.length : Int) ≤ 1000000) : Evt (fun n => call T C n 40 (h, ())) ((frA h, ()), ()) := by
  refine Evt.next (Evt.bind (e66 h true (by omega)) ?_) (fun n => r40 n h)
  have hne : ((h.length : Int) != 0) = true := bne_iff_ne.2 (by omega)
  have hat : ∀ j : Nat, idx h ((j % h.length : Nat) : Int) = some (hF h j) := fun j => by
    have hm := Nat.mod_lt j h0
    unfold idx hF
    rw [if_pos (by omega), Int.toNat_natCast, List.getD_eq_getElem?_getD, List.getElem?_eq_getElem hm]
    rfl
  dsimp only
  by_cases ha : h.any (fun v => true == v) = true
  case neg =>
    have hn := fi_none (p := fun v => true == v) (l := h) fun v hv => by
      apply Classical.byContradiction
      intro hc
      exact ha (List.any_eq_true.2 ⟨v, hv, by simpa using hc⟩)
    have e : frA h = [[0, (h.length : Int)]] := if_neg ha
    rw [e]
    exact Evt.yes (decide_eq_true hn) (Evt.some _)
  obtain ⟨v, hv, ev⟩ := List.any_eq_true.1 ha
  obtain ⟨j, hj, rfl⟩ := List.getElem_of_mem hv
  obtain ⟨s, hs1, hs2, w, hw, ew⟩ := fi_first (p := fun v => true == v) (l := h) (i := 0) (j := j) (Int.le_refl _) ⟨_, List.getElem?_eq_getElem hj, ev⟩
  have hs : s < h.length := (List.getElem?_eq_some_iff.1 hw).1
  have hHs : hF h s = true := by
    unfold hF
    rw [Nat.mod_eq_of_lt hs, List.getD_eq_getElem?_getD, hw]
    have : w = true := by simpa using ew
    rw [this]; rfl
  rw [hs2, Int.zero_add]
  have eA : frA h = sortK (frI h s h.length) := by rw [frI_sort hs]; exact if_pos ha
  have hok := frI_ok hs (by omega)
  have hend : wr .i64 ((s : Int) + h.length) = (s : Int) + h.length := wrap_id (by omega) (by omega)
  have hlen : ∀ s m, (frI h s m).length ≤ m := fun s m => frI_len h s m
  refine Evt.no (by simp) ?_
  refine loop_evt (fun x => ∃ k : Nat, k ≤ h.length + 1 ∧ x = (h, (h.length : Int), frI h s k, (s : Int), ((s + k : Nat) : Int), ()) ∧ (k = 0 ∨ hF h (s + k - 1) = true)) (fun x => (2 * (s : Int) + 2 * h.length + 5 - x.2.2.2.2.1).toNat) ⟨0, by omega, rfl, .inl rfl⟩ ?_
  rintro x ⟨k, hk, rfl, hp⟩
  dsimp only
  rw [hend]
  by_cases hlt : k < h.length
  case neg =>
    refine Round.no (by simp; omega) ?_
    have e : frI h s k = frI h s h.length := by
      by_cases e : k = h.length
      · rw [e]
      · have e2 : k = h.length + 1 := by omega
        rw [e2, frI_app, frI_one]
        have hb : begF h (s + h.length) = false := by unfold begF; rw [hF_per, hHs]; rfl
        rw [hb, if_neg (by simp), List.append_nil]
    rw [e, eA]
    exact Round.bind (e67 hok) (Round.done (Evt.some _))
  refine Round.yes (decide_eq_true (by omega)) ?_
  have hkl := hlen s k
  refine for_round' ((s + k : Nat) : Int) ((s : Int) + h.length) (fun t (_ : Unit) => (h, (h.length : Int), frI h s k, (s : Int), ((s + k : Nat) : Int), t, ())) (fun t _ => ∀ j : Nat, (j : Int) < t - ((s + k : Nat) : Int) → hF h (s + k + j) = false) (b0 := ()) rfl (by omega) (fun j hj => absurd hj (by omega)) ?_ ?_
  · intro t _ t0 t1 hf
    obtain ⟨m, rfl⟩ : ∃ m : Nat, t = ((s + k + m : Nat) : Int) := ⟨(t - ((s + k : Nat) : Int)).toNat, by omega⟩
    have hf : ∀ j, j < m → hF h (s + k + j) = false := fun j hj => hf j (by omega)
    have hts := wr_succ (i := ((s + k + m : Nat) : Int)) (n := (s : Int) + h.length) (by omega) t1 (by omega)
    have hak := hat (s + k + m)
    have etk : Int.tmod ((s + k + m : Nat) : Int) h.length = (((s + k + m) % h.length : Nat) : Int) := by
      rw [Int.tmod_eq_emod_of_nonneg (by omega), Int.natCast_emod]
    dsimp only
    rw [hend]
    refine Round.yes (decide_eq_true t1) (Round.chk hne ?_)
    rw [etk]
    refine Round.at hak ?_
    cases hkk : hF h (s + k + m) with
    | false =>
      refine Round.yes rfl (Round.inr _ ⟨(), ?_, ?_⟩)
      · rw [hts]
      · intro j hj
        by_cases e : j = m
        · rw [e]; exact hkk
        · exact hf j (by omega)
    | true =>
      have hrun := frI_run (h := h) (s := s + k) (k := m) (by
        by_cases hm : m = 0
        · exact .inr hm
        · refine .inl ?_
          rcases hp with e | e
          · subst e
            have := hf 0 (by omega)
            simp only [Nat.add_zero, hHs] at this
            cases this
          · by_cases hz : s + k = 0
            · have ek : k = 0 := by omega
              have := hf 0 (by omega)
              simp only [ek, Nat.add_zero, hHs] at this
              cases this
            · omega) (by
        rcases hp with e | e
        · subst e
          refine .inl ?_
          apply Classical.byContradiction
          intro hm
          have := hf 0 (by omega)
          simp only [Nat.add_zero, hHs] at this
          cases this
        · exact .inr e) hf hkk
      have happ := frI_app h s k (m + 1)
      rw [hrun] at happ
      refine Round.no (by simp) ?_
      have hws : wr .i64 (((s + k + m : Nat) : Int) + 1) = ((s + (k + (m + 1)) : Nat) : Int) := by rw [hts]; omega
      by_cases hm : 0 < m
      · have etp : Int.tmod ((s + k : Nat) : Int) h.length = (((s + k) % h.length : Nat) : Int) := by
          rw [Int.tmod_eq_emod_of_nonneg (by omega), Int.natCast_emod]
        have ewd : wr .i64 (((s + k + m : Nat) : Int) - ((s + k : Nat) : Int)) = (m : Int) := by rw [wrap_id (by omega) (by omega)]; omega
        rw [if_pos hm] at happ
        refine Round.yes (decide_eq_true (by omega)) (Round.chk hne (Round.at rfl (Round.at rfl (Round.chk (decide_eq_true (by simp only [List.length_singleton]; omega)) (Round.inl _ ⟨⟨k + (m + 1), by omega, ?_, .inr ?_⟩, ?_⟩)))))
        · rw [hws, happ, etp, ewd, ← frl_eq hf hkk (show m ≤ h.length by omega)]
          rfl
        · rw [show s + (k + (m + 1)) - 1 = s + k + m by omega]; exact hkk
        · rw [hws]; dsimp only; omega
      · have em : m = 0 := by omega
        rw [if_neg hm, List.append_nil] at happ
        refine Round.no (by simp; omega) (Round.inl _ ⟨⟨k + (m + 1), by omega, ?_, .inr ?_⟩, ?_⟩)
        · rw [hws, happ]
        · rw [show s + (k + (m + 1)) - 1 = s + k + m by omega]; exact hkk
        · rw [hws]; dsimp only; omega
  · intro _ hf
    -- the first held step is reached again
    have hf : ∀ j, j < h.length - k → hF h (s + k + j) = false := fun j hj => hf j (by omega)
    have hkk : hF h (s + k + (h.length - k)) = true := by rw [show s + k + (h.length - k) = s + h.length by omega, hF_per]; exact hHs
    have hk0 : k ≠ 0 := fun e => by
      have := hf 0 (by omega)
      simp only [e, Nat.add_zero, hHs] at this
      cases this
    have hrun := frI_run (h := h) (s := s + k) (k := h.length - k) (.inl (by omega)) (.inr (hp.resolve_left hk0)) hf hkk
    have happ := frI_app h s k (h.length - k + 1)
    rw [hrun, if_pos (by omega)] at happ
    have hws : wr .i64 ((s : Int) + h.length + 1) = ((s + (k + (h.length - k + 1)) : Nat) : Int) := by rw [wrap_id (by omega) (by omega)]; omega
    have etp : Int.tmod ((s + k : Nat) : Int) h.length = (((s + k) % h.length : Nat) : Int) := by
      rw [Int.tmod_eq_emod_of_nonneg (by omega), Int.natCast_emod]
    have ewd : wr .i64 ((s : Int) + h.length - ((s + k : Nat) : Int)) = ((h.length - k : Nat) : Int) := by rw [wrap_id (by omega) (by omega)]; omega
    dsimp only
    rw [hend]
    refine Round.no (by simp) (Round.yes (decide_eq_true (by omega)) (Round.chk hne (Round.at rfl (Round.at rfl (Round.chk (decide_eq_true (by simp only [List.length_singleton]; omega)) (Round.inl _ ⟨⟨k + (h.length - k + 1), by omega, ?_, .inr ?_⟩, ?_⟩))))))
    · rw [hws, happ, etp, ewd, ← frl_eq hf hkk (show h.length - k ≤ h.length by omega)]
      rfl
    · rw [show s + (k + (h.length - k + 1)) - 1 = s + k + (h.length - k) by omega]; exact hkk
    · rw [hws]; dsimp only; omega
/- impl.FillEven -/
theorem e8 {c : List Int} (hr : Rng c) (h : List Bool) (hh : (h.length : Int) ≤ 4000000) : Evt (fun n => call T C n 8 (c, h, ())) (feR c h, ()) := by
  have hl := hr.len'
  refine Evt.next (Evt.bind (e36 c h (by omega)) (Evt.bind (e38 h true hh) (Evt.bind (e37 _ _) (Evt.bind (e35 _ (by simp)) ?_)))) (fun n => r8 n c h)
  dsimp only
  have ef : fst0 [hcode c h, if (!h.any (fun v => true == v)) = true then (4 : Int) else 0] = if hcode c h ≠ 0 then hcode c h else if h.any (fun v => true == v) = true then 0 else 4 := by
    by_cases hc : hcode c h = 0
    · cases ha : h.any (fun v => true == v) <;> simp [fst0, hc]
    · simp [fst0, hc]
  rw [ef]
  by_cases hc : hcode c h = 0
  case neg =>
    have e : feR c h = ([], hcode c h, ()) := if_pos hc
    rw [e, if_pos hc]
    exact Evt.yes (by simpa using hc) (Evt.some _)
  have e : feR c h = if h.any (fun v => true == v) = true then (feA c (frA h), 0, ()) else ([], 4, ()) := if_neg (fun e => e hc)
  obtain ⟨ok, hn⟩ := hcode_zero hc
  have hln := okC_len ok
  rw [if_neg (fun e => e hc), e]
  by_cases ha : h.any (fun v => true == v) = true
  case neg =>
    rw [if_neg ha, if_neg ha]
    exact Evt.yes (by simp) (Evt.some _)
  rw [if_pos ha, if_pos ha]
  have hLl := frA_len h
  have hmem : ∀ p ∈ frA h, ∃ i m : Nat, p = [(i : Int), (m : Int)] ∧ i < h.length ∧ 1 ≤ m ∧ m ≤ h.length := fun p hp => by
    obtain ⟨i, m, e, h1, h2, h3, _⟩ := frA_mem (by omega) hp
    exact ⟨i, m, e, h1, h2, h3⟩
  have hcb : ∀ x, 0 ≤ cAt c x ∧ cAt c x ≤ 10000 := fun x => okC_el ok hr _ (cAt_mem (by omega) x)
  refine Evt.no (by simp) (Evt.bind (e39 c (by omega) (by omega)) (Evt.bind (e40 h (by omega) (by omega)) ?_))
  dsimp only
  refine for_evt' 0 ((frA h).length : Int) (fun i (_ : Unit) => (c, feA c ((frA h).take i.toNat), frA h, ((frA h).length : Int), i, ())) (fun _ _ => True) (b0 := ()) rfl (by omega) trivial ?_ ?_
  · intro i _ i0 i1 _
    obtain ⟨i, rfl⟩ := Int.eq_ofNat_of_zero_le i0
    have hi : i < (frA h).length := by omega
    obtain ⟨p, hp⟩ : ∃ p, (frA h)[i]? = some p := ⟨_, List.getElem?_eq_getElem hi⟩
    have hat : idx (frA h) (i : Int) = some p := by
      unfold idx
      rw [if_pos (by omega), Int.toNat_natCast, hp]
    obtain ⟨f, m, rfl, f1, m1, m2⟩ := hmem p (List.mem_of_getElem? hp)
    have hws := wr_succ (i := (i : Int)) i0 i1 (by omega)
    have w1 : wr .i64 ((f : Int) - 1) = (f : Int) - 1 := wrap_id (by omega) (by omega)
    have w2 : wr .i64 ((f : Int) + m) = (f : Int) + m := wrap_id (by omega) (by omega)
    have w3 : wr .i64 ((m : Int) + 1) = (m : Int) + 1 := wrap_id (by omega) (by omega)
    have hA := e41 hr (by omega) (by omega) (x := (f : Int) - 1) (by omega) (by omega)
    have hB := e41 hr (by omega) (by omega) (x := (f : Int) + m) (by omega) (by omega)
    have ba := hcb ((f : Int) - 1)
    have bb := hcb ((f : Int) + m)
    have hsn : feA c ((frA h).take (i + 1)) = feS c f m (feA c ((frA h).take i)) m := by rw [List.take_add_one, hp]; exact feA_snoc c _ _
    have hfl : (feA c ((frA h).take i)).length = c.length := feA_len c _
    have hfv : ∀ k : Int, feV c f m k = wr .i16 (nr (cAt c ((f : Int) - 1) * ((m : Int) + 1) + (cAt c ((f : Int) + m) - cAt c ((f : Int) - 1)) * k) ((m : Int) + 1)) := fun k => rfl
    rw [Int.toNat_natCast]
    generalize feA c ((frA h).take i) = o at *
    dsimp only
    refine Round.yes (decide_eq_true i1) (Round.at hat (Round.chk rfl (Round.at (v := (f : Int)) rfl (Round.chk rfl (Round.at (v := (m : Int)) rfl ?_)))))
    simp only [w1, w2]
    refine Round.bind hA (Round.bind hB ?_)
    generalize cAt c ((f : Int) - 1) = a at *
    generalize cAt c ((f : Int) + m) = b at *
    refine for_round' 1 ((m : Int) + 1) (fun k (_ : Unit) => (c, feS c f m o (k.toNat - 1), (f : Int), (m : Int), a, b, k, frA h, ((frA h).length : Int), (i : Int), ())) (fun _ _ => True) (b0 := ()) rfl (by omega) trivial ?_ ?_
    · intro k _ k0 k1 _
      obtain ⟨q, rfl⟩ : ∃ q : Nat, k = ((q + 1 : Nat) : Int) := ⟨(k - 1).toNat, by omega⟩
      have hks : wr .i64 (((q + 1 : Nat) : Int) + 1) = ((q + 1 : Nat) : Int) + 1 := wrap_id (by omega) (by omega)
      have hmb := mulS_bd (x := b - a) (y := ((q + 1 : Nat) : Int)) (X := 10000) (Y := 1000) (by omega) (by omega) (by omega) (by omega) (by omega)
      have hma := mulS_bd (x := a) (y := (m : Int) + 1) (X := 10000) (Y := 1000) (by omega) (by omega) (by omega) (by omega) (by omega)
      have w4 : wr .i64 (wr .i64 (b - a) * ((q + 1 : Nat) : Int)) = (b - a) * ((q + 1 : Nat) : Int) := by rw [wrap_id (x := b - a) (by omega) (by omega), wrap_id (by omega) (by omega)]
      have w5 : wr .i64 (a * ((m : Int) + 1)) = a * ((m : Int) + 1) := wrap_id (by omega) (by omega)
      have w6 : wr .i64 (a * ((m : Int) + 1) + (b - a) * ((q + 1 : Nat) : Int)) = a * ((m : Int) + 1) + (b - a) * ((q + 1 : Nat) : Int) := wrap_id (by omega) (by omega)
      have hN := e42 (x := a * ((m : Int) + 1) + (b - a) * ((q + 1 : Nat) : Int)) (n := (m : Int) + 1) (by omega) (by omega) (by omega) (by omega)
      have etm : wr .i64 (wr .i64 ((f : Int) + ((q + 1 : Nat) : Int)) - 1) = (f : Int) + (q : Int) := by
        rw [wrap_id (x := (f : Int) + ((q + 1 : Nat) : Int)) (by omega) (by omega), wrap_id (by omega) (by omega)]
        omega
      have hMo := e43 (a := (f : Int) + (q : Int)) (b := (c.length : Int)) (by omega) (by omega) (by omega) (by omega)
      have hm0 := Int.emod_nonneg ((f : Int) + (q : Int)) (show (c.length : Int) ≠ 0 by omega)
      have hm1 := Int.emod_lt_of_pos ((f : Int) + (q : Int)) (show 0 < (c.length : Int) by omega)
      have hol := feS_len c f m o q
      have eq1 : ((q + 1 : Nat) : Int).toNat - 1 = q := by omega
      have hck : decide (0 ≤ ((f : Int) + (q : Int)) % (c.length : Int) ∧ ((f : Int) + (q : Int)) % (c.length : Int) < ((feS c f m o q).length : Int)) = true := decide_eq_true ⟨hm0, by omega⟩
      have eq2 : (((q + 1 : Nat) : Int) + 1).toNat - 1 = q + 1 := by omega
      have hfs : feS c f m o (q + 1) = (feS c f m o q).set ((((f : Int) + (q : Int)) % c.length)).toNat (feV c f m ((q + 1 : Nat) : Int)) := rfl
      dsimp only
      rw [eq1]
      refine Round.yes (decide_eq_true (by omega)) (Round.bind (e44 c) ?_)
      rw [etm, w4, w3, w5, w6]
      refine Round.bind hMo (Round.bind hN (Round.chk hck ?_))
      obtain ⟨v, hv⟩ : ∃ v, (feS c f m o q)[(((f : Int) + (q : Int)) % c.length).toNat]? = some v := ⟨_, List.getElem?_eq_getElem (by omega)⟩
      simp only [hv, Option.bind_some]
      refine Round.inr _ ⟨(), ?_, trivial⟩
      rw [eq2, hks, hfs, hfv]
    · intro _ _
      have eq3 : ((m : Int) + 1).toNat - 1 = m := by omega
      dsimp only
      rw [eq3]
      refine Round.no (by simp; omega) (Round.inl _ ⟨(), ?_, trivial⟩)
      rw [hws, show ((i : Int) + 1).toNat = i + 1 by omega, hsn]
  · intro _ _
    rw [Int.toNat_natCast, List.take_length]
    dsimp only
    exact Round.no (by simp) (Round.done (Evt.some _))
/- spec.l05Free -/
theorem e32 (h : List Bool) (h0 : 0 < h.length) (hl : (h.length : Int) ≤ 4000000) : Evt (fun n => call T C n 32 (h, ())) ((frA h, ()), ()) := by
  refine Evt.next ?_ (fun n => r32 n h)
  have hne : ((h.length : Int) != 0) = true := bne_iff_ne.2 (by omega)
  have hat : ∀ j : Nat, idx h ((j % h.length : Nat) : Int) = some (hF h j) := fun j => by
    have hm := Nat.mod_lt j h0
    unfold idx hF
    rw [if_pos (by omega), Int.toNat_natCast, List.getD_eq_getElem?_getD, List.getElem?_eq_getElem hm]
    rfl
  have hlen : ∀ s m, (frI h s m).length ≤ m := fun s m => frI_len h s m
  refine for_evt' 0 (h.length : Int) (fun i (_ : Unit) => (h, (h.length : Int), frI h 0 i.toNat, i, ())) (fun _ _ => True) (b0 := ()) rfl (by omega) trivial ?_ ?_
  · intro i _ i0 i1 _
    obtain ⟨i, rfl⟩ := Int.eq_ofNat_of_zero_le i0
    have hi : i < h.length := by omega
    have hws := wr_succ (i := (i : Int)) i0 i1 (by omega)
    have hai := hat i
    rw [Nat.mod_eq_of_lt hi] at hai
    have hone := frI_app h 0 i 1
    rw [frI_one, Nat.zero_add] at hone
    have hsl := hlen 0 i
    rw [Int.toNat_natCast]
    dsimp only
    refine Round.yes (decide_eq_true i1) (Round.at hai ?_)
    cases hh : hF h i with
    | true =>
      have hb : begF h i = false := by unfold begF; rw [hh]; rfl
      rw [hb, if_neg (by simp), List.append_nil] at hone
      refine Round.yes rfl (Round.again _ ⟨(), ?_, trivial⟩)
      rw [hws, show ((i : Int) + 1).toNat = i + 1 by omega, hone]
    | false =>
      have hap := hat (i + h.length - 1)
      have etm : Int.tmod (wr .i64 (wr .i64 ((i : Int) + h.length) - 1)) h.length = (((i + h.length - 1) % h.length : Nat) : Int) := by
        rw [wrap_id (x := (i : Int) + h.length) (by omega) (by omega), wrap_id (by omega) (by omega), Int.tmod_eq_emod_of_nonneg (by omega), Int.natCast_emod]
        congr 1
        omega
      refine Round.no (by simp) (Round.chk hne ?_)
      rw [etm]
      refine Round.at hap ?_
      cases hp : hF h (i + h.length - 1) with
      | false =>
        have hb : begF h i = false := by unfold begF; rw [hp]; simp
        rw [hb, if_neg (by simp), List.append_nil] at hone
        refine Round.yes rfl (Round.again _ ⟨(), ?_, trivial⟩)
        rw [hws, show ((i : Int) + 1).toNat = i + 1 by omega, hone]
      | true =>
        have hb : begF h i = true := by unfold begF; rw [hh, hp]; rfl
        rw [hb, if_pos rfl] at hone
        refine Round.no (by simp) ?_
        have hpr : ∀ k : Nat, frl h i h.length = k → [(i : Int), (k : Int)] = prF h i := fun k hk => by unfold prF; rw [Nat.mod_eq_of_lt hi, hk]
        have hchk : ∀ q : List Int, decide (((frI h 0 i).length + ([q] : List (List Int)).length) * 2 * 8 ≤ 140737488355328) = true := fun q => decide_eq_true (by simp only [List.length_singleton]; omega)
        refine for_round' 0 (h.length : Int) (fun k (_ : Unit) => (h, (h.length : Int), frI h 0 i, (i : Int), k, ())) (fun k _ => ∀ j, j < k.toNat → hF h (i + j) = false) (b0 := ()) rfl (by omega) (fun j hj => absurd hj (by omega)) ?_ ?_
        · intro k _ k0 k1 hf
          obtain ⟨k, rfl⟩ := Int.eq_ofNat_of_zero_le k0
          rw [Int.toNat_natCast] at hf
          have hks := wr_succ (i := (k : Int)) k0 k1 (by omega)
          have hak := hat (i + k)
          have etk : Int.tmod (wr .i64 ((i : Int) + k)) h.length = (((i + k) % h.length : Nat) : Int) := by
            rw [wrap_id (by omega) (by omega), Int.tmod_eq_emod_of_nonneg (by omega), Int.natCast_emod]
            congr 1
          dsimp only
          refine Round.yes (decide_eq_true k1) (Round.chk hne ?_)
          rw [etk]
          refine Round.at hak ?_
          cases hkk : hF h (i + k) with
          | false =>
            refine Round.yes rfl (Round.inr _ ⟨(), ?_, ?_⟩)
            · rw [hks]
            · intro j hj
              by_cases e : j = k
              · rw [e]; exact hkk
              · exact hf j (by omega)
          | true =>
            refine Round.no (by simp) (Round.at rfl (Round.at rfl (Round.chk (decide_eq_true (by simp only [List.length_singleton]; omega)) (Round.inl _ ⟨(), ?_, trivial⟩))))
            rw [hws, show ((i : Int) + 1).toNat = i + 1 by omega, hone, ← hpr k (frl_eq hf hkk (by omega))]
            rfl
        · intro _ hf
          rw [Int.toNat_natCast] at hf
          have hr : frl h i h.length = h.length := by
            apply Classical.byContradiction
            intro hn
            have h1 := frl_le h h.length i
            have h2 := frl_stop h h.length i (by omega)
            rw [hf _ (by omega)] at h2
            cases h2
          dsimp only
          refine Round.no (by simp) (Round.at rfl (Round.at rfl (Round.chk (decide_eq_true (by simp only [List.length_singleton]; omega)) (Round.inl _ ⟨(), ?_, trivial⟩))))
          rw [hws, show ((i : Int) + 1).toNat = i + 1 by omega, hone, ← hpr h.length hr]
          rfl
  · intro _ _
    rw [Int.toNat_natCast]
    dsimp only
    refine Round.no (by simp) ?_
    have ha0 := hat 0
    rw [Nat.zero_mod] at ha0
    by_cases ha : h.any (fun v => true == v) = true
    · have e : frA h = frI h 0 h.length := if_pos ha
      rw [e]
      refine Round.ite (fun hz => ?_) (fun _ => Round.done (Evt.some _))
      have hz : frI h 0 h.length = [] := by
        have : ((frI h 0 h.length).length : Int) = 0 := by simpa using hz
        exact List.length_eq_zero_iff.1 (by omega)
      obtain ⟨j, hj, hh⟩ := any_hF ha
      have hf := frI_first hj hh hz
      rw [hf] at ha0
      exact Round.at ha0 (Round.no (by simp) (Round.done (Evt.some _)))
    · have e : frA h = [[0, (h.length : Int)]] := if_neg ha
      have hz : frI h 0 h.length = [] := frI_none fun i _ _ => by unfold begF; rw [none_hF ha (i + h.length - 1)]; simp
      rw [none_hF ha 0] at ha0
      rw [e, hz]
      exact Round.yes rfl (Round.at ha0 (Round.yes rfl (Round.at rfl (Round.at rfl (Round.done (Evt.some _))))))
/- spec.FillEven -/
theorem e5 {c : List Int} (hr : Rng c) (h : List Bool) : Evt (fun n => call T C n 5 (c, h, ())) (feR c h, ()) := by
  have hl := hr.len'
  refine Evt.next (Evt.bind (e31 c h (by omega)) ?_) (fun n => r5 n c h)
  by_cases hc : hcode c h = 0
  case neg =>
    have e : feR c h = ([], hcode c h, ()) := if_pos hc
    rw [e]
    exact Evt.yes (by simpa using hc) (Evt.some _)
  have e : feR c h = if h.any (fun v => true == v) = true then (feA c (frA h), 0, ()) else ([], 4, ()) := if_neg (fun e => e hc)
  obtain ⟨ok, hn⟩ := hcode_zero hc
  have hln := okC_len ok
  refine Evt.no (by simp [hc]) (Evt.bind (e32 h (by omega) (by omega)) ?_)
  have hw := frA_whole (h := h) (by omega)
  have hLl := frA_len h
  have hmem : ∀ p ∈ frA h, ∃ i m : Nat, p = [(i : Int), (m : Int)] ∧ i < h.length ∧ 1 ≤ m ∧ m ≤ h.length := fun p hp => by
    obtain ⟨i, m, e, h1, h2, h3, _⟩ := frA_mem (by omega) hp
    exact ⟨i, m, e, h1, h2, h3⟩
  have hcb : ∀ x, 0 ≤ cAt c x ∧ cAt c x ≤ 10000 := fun x => okC_el ok hr _ (cAt_mem (by omega) x)
  dsimp only
  by_cases ha : h.any (fun v => true == v) = true
  case neg =>
    obtain ⟨hl1, p, hp, hg⟩ := hw.2 ha
    rw [e, if_neg ha]
    have hp2 : (frA h)[(Int.toNat (0 : Int))]? = some p := hp
    obtain ⟨i, m, rfl, _⟩ := hmem p (List.mem_of_getElem? hp)
    have hg : (m : Int) = h.length := hg
    refine Evt.yes (by rw [hl1]; rfl) (Evt.chk (by rw [hl1]; rfl) (Evt.chk rfl ?_))
    simp only [hp2, Option.bind_some]
    refine Evt.at (x := (m : Int)) rfl (Evt.yes ?_ (Evt.some _))
    rw [hg, hn]
    simp
  rw [e, if_pos ha]
  refine Evt.ite (fun h1 => ?_) (fun h1 => ?_)
  · have hl1 : (frA h).length = 1 := by
      have : ((frA h).length : Int) = 1 := by simpa using h1
      omega
    obtain ⟨p, hp⟩ : ∃ p, (frA h)[0]? = some p := ⟨_, List.getElem?_eq_getElem (by omega)⟩
    have hp2 : (frA h)[(Int.toNat (0 : Int))]? = some p := hp
    obtain ⟨i, m, rfl, _⟩ := hmem p (List.mem_of_getElem? hp)
    refine Evt.chk (by rw [hl1]; rfl) (Evt.chk rfl ?_)
    simp only [hp2, Option.bind_some]
    refine Evt.at (x := (m : Int)) rfl (Evt.no (fun hc => hw.1 ⟨hl1, _, hp, ?_⟩ ha) ?_)
    · have hc : (m : Int) = c.length := by simpa using hc
      show (m : Int) = _
      omega
    refine Evt.chk (decide_eq_true (by simp only [List.length_nil]; omega)) ?_
    refine for_evt' 0 ((frA h).length : Int) (fun i (_ : Unit) => (c, (c.length : Int), frA h, feA c ((frA h).take i.toNat), i, ())) (fun _ _ => True) (b0 := ()) rfl (by omega) trivial ?_ ?_
    · intro i _ i0 i1 _
      obtain ⟨i, rfl⟩ := Int.eq_ofNat_of_zero_le i0
      have hi : i < (frA h).length := by omega
      obtain ⟨p, hp⟩ : ∃ p, (frA h)[i]? = some p := ⟨_, List.getElem?_eq_getElem hi⟩
      have hat : idx (frA h) (i : Int) = some p := by
        unfold idx
        rw [if_pos (by omega), Int.toNat_natCast, hp]
      obtain ⟨f, m, rfl, f1, m1, m2⟩ := hmem p (List.mem_of_getElem? hp)
      have hws := wr_succ (i := (i : Int)) i0 i1 (by omega)
      have w1 : wr .i64 ((f : Int) - 1) = (f : Int) - 1 := wrap_id (by omega) (by omega)
      have w2 : wr .i64 ((f : Int) + m) = (f : Int) + m := wrap_id (by omega) (by omega)
      have w3 : wr .i64 ((m : Int) + 1) = (m : Int) + 1 := wrap_id (by omega) (by omega)
      have hA := e33' hr (by omega) (by omega) (x := (f : Int) - 1) (by omega) (by omega)
      have hB := e33' hr (by omega) (by omega) (x := (f : Int) + m) (by omega) (by omega)
      have ba := hcb ((f : Int) - 1)
      have bb := hcb ((f : Int) + m)
      have hsn : feA c ((frA h).take (i + 1)) = feS c f m (feA c ((frA h).take i)) m := by rw [List.take_add_one, hp]; exact feA_snoc c _ _
      have hfl : (feA c ((frA h).take i)).length = c.length := feA_len c _
      have hfv : ∀ k : Int, feV c f m k = wr .i16 (cAt c ((f : Int) - 1) + nr ((cAt c ((f : Int) + m) - cAt c ((f : Int) - 1)) * k) ((m : Int) + 1)) := fun k => by
        unfold feV
        rw [nr_mul _ _ (by omega)]
      rw [Int.toNat_natCast]
      generalize feA c ((frA h).take i) = o at *
      dsimp only
      refine Round.yes (decide_eq_true i1) (Round.at hat (Round.at (v := (f : Int)) rfl (Round.at hat (Round.at (v := (m : Int)) rfl ?_))))
      simp only [w1, w2]
      refine Round.bind hA (Round.bind hB ?_)
      generalize cAt c ((f : Int) - 1) = a at *
      generalize cAt c ((f : Int) + m) = b at *
      refine for_round' 1 ((m : Int) + 1) (fun k (_ : Unit) => (c, (c.length : Int), frA h, feS c f m o (k.toNat - 1), (i : Int), (f : Int), (m : Int), a, b, k, ())) (fun _ _ => True) (b0 := ()) rfl (by omega) trivial ?_ ?_
      · intro k _ k0 k1 _
        obtain ⟨q, rfl⟩ : ∃ q : Nat, k = ((q + 1 : Nat) : Int) := ⟨(k - 1).toNat, by omega⟩
        have hks : wr .i64 (((q + 1 : Nat) : Int) + 1) = ((q + 1 : Nat) : Int) + 1 := wrap_id (by omega) (by omega)
        have hmb := mulS_bd (x := b - a) (y := ((q + 1 : Nat) : Int)) (X := 10000) (Y := 1000) (by omega) (by omega) (by omega) (by omega) (by omega)
        have w4 : wr .i64 (wr .i64 (b - a) * ((q + 1 : Nat) : Int)) = (b - a) * ((q + 1 : Nat) : Int) := by rw [wrap_id (x := b - a) (by omega) (by omega), wrap_id (by omega) (by omega)]
        have hnb := nr_in (x := (b - a) * ((q + 1 : Nat) : Int)) (d := (m : Int) + 1) (lo := -10000000) (hi := 10000000) (by omega) (by omega) (by omega)
        have hN := e34 (x := (b - a) * ((q + 1 : Nat) : Int)) (n := (m : Int) + 1) (by omega) (by omega) (by omega) (by omega)
        have etm : Int.tmod (wr .i64 (wr .i64 ((f : Int) + ((q + 1 : Nat) : Int)) - 1)) (c.length : Int) = ((f : Int) + (q : Int)) % c.length := by
          rw [wrap_id (x := (f : Int) + ((q + 1 : Nat) : Int)) (by omega) (by omega), wrap_id (by omega) (by omega), Int.tmod_eq_emod_of_nonneg (by omega)]
          congr 1
          omega
        have hm0 := Int.emod_nonneg ((f : Int) + (q : Int)) (show (c.length : Int) ≠ 0 by omega)
        have hm1 := Int.emod_lt_of_pos ((f : Int) + (q : Int)) (show 0 < (c.length : Int) by omega)
        have hol := feS_len c f m o q
        have eq1 : ((q + 1 : Nat) : Int).toNat - 1 = q := by omega
        have hck : decide (0 ≤ ((f : Int) + (q : Int)) % (c.length : Int) ∧ ((f : Int) + (q : Int)) % (c.length : Int) < ((feS c f m o q).length : Int)) = true := decide_eq_true ⟨hm0, by omega⟩
        have eq2 : (((q + 1 : Nat) : Int) + 1).toNat - 1 = q + 1 := by omega
        have hcw : wr .i64 (a + nr ((b - a) * ((q + 1 : Nat) : Int)) ((m : Int) + 1)) = a + nr ((b - a) * ((q + 1 : Nat) : Int)) ((m : Int) + 1) := wrap_id (by omega) (by omega)
        have hfs : feS c f m o (q + 1) = (feS c f m o q).set ((((f : Int) + (q : Int)) % c.length)).toNat (feV c f m ((q + 1 : Nat) : Int)) := rfl
        dsimp only
        rw [eq1]
        refine Round.yes (decide_eq_true (by omega)) (Round.chk (bne_iff_ne.2 (by omega)) ?_)
        rw [w4, w3, etm]
        refine Round.bind hN (Round.chk (decide_eq_true (by omega)) ?_)
        obtain ⟨v, hv⟩ : ∃ v, (feS c f m o q)[(((f : Int) + (q : Int)) % c.length).toNat]? = some v := ⟨_, List.getElem?_eq_getElem (by omega)⟩
        simp only [hv, Option.bind_some]
        refine Round.inr _ ⟨(), ?_, trivial⟩
        rw [eq2, hks, hcw, hfs, hfv]
      · intro _ _
        have eq3 : ((m : Int) + 1).toNat - 1 = m := by omega
        dsimp only
        rw [eq3]
        refine Round.no (by simp; omega) (Round.inl _ ⟨(), ?_, trivial⟩)
        rw [hws, show ((i : Int) + 1).toNat = i + 1 by omega, hsn]
    · intro _ _
      rw [Int.toNat_natCast, List.take_length]
      dsimp only
      exact Round.no (by simp) (Round.done (Evt.some _))
  · skip
    refine Evt.chk (decide_eq_true (by simp only [List.length_nil]; omega)) ?_
    refine for_evt' 0 ((frA h).length : Int) (fun i (_ : Unit) => (c, (c.length : Int), frA h, feA c ((frA h).take i.toNat), i, ())) (fun _ _ => True) (b0 := ()) rfl (by omega) trivial ?_ ?_
    · intro i _ i0 i1 _
      obtain ⟨i, rfl⟩ := Int.eq_ofNat_of_zero_le i0
      have hi : i < (frA h).length := by omega
      obtain ⟨p, hp⟩ : ∃ p, (frA h)[i]? = some p := ⟨_, List.getElem?_eq_getElem hi⟩
      have hat : idx (frA h) (i : Int) = some p := by
        unfold idx
        rw [if_pos (by omega), Int.toNat_natCast, hp]
      obtain ⟨f, m, rfl, f1, m1, m2⟩ := hmem p (List.mem_of_getElem? hp)
      have hws := wr_succ (i := (i : Int)) i0 i1 (by omega)
      have w1 : wr .i64 ((f : Int) - 1) = (f : Int) - 1 := wrap_id (by omega) (by omega)
      have w2 : wr .i64 ((f : Int) + m) = (f : Int) + m := wrap_id (by omega) (by omega)
      have w3 : wr .i64 ((m : Int) + 1) = (m : Int) + 1 := wrap_id (by omega) (by omega)
      have hA := e33' hr (by omega) (by omega) (x := (f : Int) - 1) (by omega) (by omega)
      have hB := e33' hr (by omega) (by omega) (x := (f : Int) + m) (by omega) (by omega)
      have ba := hcb ((f : Int) - 1)
      have bb := hcb ((f : Int) + m)
      have hsn : feA c ((frA h).take (i + 1)) = feS c f m (feA c ((frA h).take i)) m := by rw [List.take_add_one, hp]; exact feA_snoc c _ _
      have hfl : (feA c ((frA h).take i)).length = c.length := feA_len c _
      have hfv : ∀ k : Int, feV c f m k = wr .i16 (cAt c ((f : Int) - 1) + nr ((cAt c ((f : Int) + m) - cAt c ((f : Int) - 1)) * k) ((m : Int) + 1)) := fun k => by
        unfold feV
        rw [nr_mul _ _ (by omega)]
      rw [Int.toNat_natCast]
      generalize feA c ((frA h).take i) = o at *
      dsimp only
      refine Round.yes (decide_eq_true i1) (Round.at hat (Round.at (v := (f : Int)) rfl (Round.at hat (Round.at (v := (m : Int)) rfl ?_))))
      simp only [w1, w2]
      refine Round.bind hA (Round.bind hB ?_)
      generalize cAt c ((f : Int) - 1) = a at *
      generalize cAt c ((f : Int) + m) = b at *
      refine for_round' 1 ((m : Int) + 1) (fun k (_ : Unit) => (c, (c.length : Int), frA h, feS c f m o (k.toNat - 1), (i : Int), (f : Int), (m : Int), a, b, k, ())) (fun _ _ => True) (b0 := ()) rfl (by omega) trivial ?_ ?_
      · intro k _ k0 k1 _
        obtain ⟨q, rfl⟩ : ∃ q : Nat, k = ((q + 1 : Nat) : Int) := ⟨(k - 1).toNat, by omega⟩
        have hks : wr .i64 (((q + 1 : Nat) : Int) + 1) = ((q + 1 : Nat) : Int) + 1 := wrap_id (by omega) (by omega)
        have hmb := mulS_bd (x := b - a) (y := ((q + 1 : Nat) : Int)) (X := 10000) (Y := 1000) (by omega) (by omega) (by omega) (by omega) (by omega)
        have w4 : wr .i64 (wr .i64 (b - a) * ((q + 1 : Nat) : Int)) = (b - a) * ((q + 1 : Nat) : Int) := by rw [wrap_id (x := b - a) (by omega) (by omega), wrap_id (by omega) (by omega)]
        have hnb := nr_in (x := (b - a) * ((q + 1 : Nat) : Int)) (d := (m : Int) + 1) (lo := -10000000) (hi := 10000000) (by omega) (by omega) (by omega)
        have hN := e34 (x := (b - a) * ((q + 1 : Nat) : Int)) (n := (m : Int) + 1) (by omega) (by omega) (by omega) (by omega)
        have etm : Int.tmod (wr .i64 (wr .i64 ((f : Int) + ((q + 1 : Nat) : Int)) - 1)) (c.length : Int) = ((f : Int) + (q : Int)) % c.length := by
          rw [wrap_id (x := (f : Int) + ((q + 1 : Nat) : Int)) (by omega) (by omega), wrap_id (by omega) (by omega), Int.tmod_eq_emod_of_nonneg (by omega)]
          congr 1
          omega
        have hm0 := Int.emod_nonneg ((f : Int) + (q : Int)) (show (c.length : Int) ≠ 0 by omega)
        have hm1 := Int.emod_lt_of_pos ((f : Int) + (q : Int)) (show 0 < (c.length : Int) by omega)
        have hol := feS_len c f m o q
        have eq1 : ((q + 1 : Nat) : Int).toNat - 1 = q := by omega
        have hck : decide (0 ≤ ((f : Int) + (q : Int)) % (c.length : Int) ∧ ((f : Int) + (q : Int)) % (c.length : Int) < ((feS c f m o q).length : Int)) = true := decide_eq_true ⟨hm0, by omega⟩
        have eq2 : (((q + 1 : Nat) : Int) + 1).toNat - 1 = q + 1 := by omega
        have hcw : wr .i64 (a + nr ((b - a) * ((q + 1 : Nat) : Int)) ((m : Int) + 1)) = a + nr ((b - a) * ((q + 1 : Nat) : Int)) ((m : Int) + 1) := wrap_id (by omega) (by omega)
        have hfs : feS c f m o (q + 1) = (feS c f m o q).set ((((f : Int) + (q : Int)) % c.length)).toNat (feV c f m ((q + 1 : Nat) : Int)) := rfl
        dsimp only
        rw [eq1]
        refine Round.yes (decide_eq_true (by omega)) (Round.chk (bne_iff_ne.2 (by omega)) ?_)
        rw [w4, w3, etm]
        refine Round.bind hN (Round.chk (decide_eq_true (by omega)) ?_)
        obtain ⟨v, hv⟩ : ∃ v, (feS c f m o q)[(((f : Int) + (q : Int)) % c.length).toNat]? = some v := ⟨_, List.getElem?_eq_getElem (by omega)⟩
        simp only [hv, Option.bind_some]
        refine Round.inr _ ⟨(), ?_, trivial⟩
        rw [eq2, hks, hcw, hfs, hfv]
      · intro _ _
        have eq3 : ((m : Int) + 1).toNat - 1 = m := by omega
        dsimp only
        rw [eq3]
        refine Round.no (by simp; omega) (Round.inl _ ⟨(), ?_, trivial⟩)
        rw [hws, show ((i : Int) + 1).toNat = i + 1 by omega, hsn]
    · intro _ _
      rw [Int.toNat_natCast, List.take_length]
      dsimp only
      exact Round.no (by simp) (Round.done (Evt.some _))
/- spec.l01Same -/
theorem e52 (l : List Int) (hl : (l.length : Int) ≤ 1000000) : Evt (fun n => call T C n 52 (l, l, ())) ((true, ()), ()) := by
  refine Evt.next (Evt.no (by simp) ?_) (fun n => r52 n l l)
  refine for_evt' 0 (l.length : Int) (fun i (_ : Unit) => (l, l, i, ())) (fun _ _ => True) (b0 := ()) rfl (by omega) trivial ?_ ?_
  · intro i _ h2 h3 _
    obtain ⟨v, hv⟩ := at_of h2 h3
    exact Round.yes (decide_eq_true h3) (Round.at hv.idx (Round.at hv.idx (Round.no (by simp) (Round.again _ ⟨(), by rw [wr_succ h2 h3 (by omega)], trivial⟩))))
  · intro _ _
    exact Round.no (by simp) (Round.done (Evt.some _))
theorem e52_2 (a b : List Int) (hl : (a.length : Int) ≤ 1000000) : Evt (fun n => call T C n 52 (a, b, ())) ((decide (a = b), ()), ()) := by
  by_cases hlen : a.length = b.length
  · refine Evt.next (Evt.no (by simp [hlen]) ?_) (fun n => r52 n a b)
    refine for_evt' 0 (a.length : Int) (fun i (_ : Unit) => (a, b, i, ())) (fun i _ => a.take i.toNat = b.take i.toNat) (b0 := ()) rfl (by omega) (by simp) ?_ ?_
    · intro i _ h2 h3 he
      obtain ⟨u, hu⟩ := at_of h2 h3
      obtain ⟨v, hv⟩ := at_of (l := b) h2 (by omega)
      refine Round.yes (decide_eq_true h3) (Round.at hu.idx (Round.at hv.idx (Round.ite (fun h => ?_) (fun h => ?_))))
      · have h : u ≠ v := by simpa using h
        have : a ≠ b := fun e => by
          subst e
          have := hu.get.symm.trans hv.get
          exact h (Option.some.inj this)
        rw [decide_eq_false this]
        exact Round.done (Evt.some _)
      · have h : u = v := by simpa using h
        exact Round.again _ ⟨(), by rw [wr_succ h2 h3 (by omega)], by rw [hu.take, hv.take, he, h]⟩
    · intro _ he
      have he : a = b := by rwa [take_all, hlen, take_all] at he
      rw [decide_eq_true he]
      exact Round.no (by simp) (Round.done (Evt.some _))
  · have : a ≠ b := fun e => hlen (by rw [e])
    rw [decide_eq_false this]
    exact Evt.next (Evt.yes (by simp; omega) (Evt.some _)) (fun n => r52 n a b)
/- spec.SameCam -/
theorem e20 (l : List Int) (hl : (l.length : Int) ≤ 1000000) : Evt (fun n => call T C n 20 (l, l, ())) ((true, ()), ()) := Evt.next (Evt.bind (e52 l hl) (Evt.some _)) (fun n => r20 n l l)
theorem e20_2 (a b : List Int) (hl : (a.length : Int) ≤ 1000000) : Evt (fun n => call T C n 20 (a, b, ())) ((decide (a = b), ()), ()) := Evt.next (Evt.bind (e52_2 a b hl) (Evt.some _)) (fun n => r20 n a b)
/- impl.FreeStretches -/
theorem e21 {h : List Bool} (h0 : 8 ≤ (h.length : Int)) (h1 : (h.length : Int) ≤ 360) : Evt (fun n => call T C n 21 (h, ())) ((frA h, 0, ()), ()) := by
  have hin : inR (h.length : Int) 8 360 = true := inR_iff.2 ⟨h0, h1⟩
  have hS := e53 (h.length : Int)
  rw [hin] at hS
  refine Evt.next (Evt.bind hS ?_) (fun n => r21 n h)
  exact Evt.no (by simp) (Evt.bind (e40 h (by omega) (by omega)) (Evt.some _))
/- spec.FreeStretches -/
theorem e22 {h : List Bool} (h0 : 8 ≤ (h.length : Int)) (h1 : (h.length : Int) ≤ 360) : Evt (fun n => call T C n 22 (h, ())) ((frA h, 0, ()), ()) := by
  have hin : inR (h.length : Int) 8 360 = true := inR_iff.2 ⟨h0, h1⟩
  have hS := e54 (h.length : Int)
  rw [hin] at hS
  refine Evt.next (Evt.bind hS ?_) (fun n => r22 n h)
  exact Evt.no (by simp) (Evt.bind (e32 h (by omega) (by omega)) (Evt.some _))
/- (impl.Cam).change -/
theorem e79 {c : List Int} (hr : Rng c) (h0 : 0 < c.length) (h1 : c.length ≤ 1000) {x : Int} (x0 : -1000000 ≤ x) (x1 : x ≤ 1000000) : Evt (fun n => call T C n 79 (c, x, ())) ((cAt c (x + 1) - cAt c x, ()), ()) := by
  have b1 := hr.el _ (cAt_mem h0 (x + 1))
  have b2 := hr.el _ (cAt_mem h0 x)
  refine Evt.next ?_ (fun n => r79 n c x)
  rw [wrap_id (x := x + 1) (by omega) (by omega)]
  refine Evt.bind (e41 hr (by omega) (by omega) (by omega) (by omega)) (Evt.bind (e41 hr (by omega) (by omega) (by omega) (by omega)) ((Evt.some _).of_eq fun n => ?_))
  show some ((wr .i64 (cAt c (x + 1) - cAt c x), ()), ()) = _
  rw [wrap_id (x := cAt c (x + 1) - cAt c x) (by omega) (by omega)]
  rfl
/- (impl.Cam).dwells -/
theorem e57 {c : List Int} (S : SmD c) : Evt (fun n => call T C n 57 (c, ())) ((dwL c, ()), ()) := by
  have hl := S.len
  have hll := dwL_len c
  have hb : ∀ x, 0 ≤ cAt c x ∧ cAt c x ≤ 60 := fun x => S.el _ (cAt_mem (by omega) x)
  refine Evt.next (Evt.bind (e44 c) ?_) (fun n => r57 n c)
  dsimp only
  refine for_evt' 0 (c.length : Int) (fun i (_ : Unit) => (c, (dwL c).take i.toNat, (c.length : Int), i, ())) (fun _ _ => True) (b0 := ()) rfl (by omega) trivial ?_ ?_
  · intro i _ h2 h3 _
    obtain ⟨i, rfl⟩ : ∃ a : Nat, i = a := ⟨i.toNat, by omega⟩
    have hws := wr_succ h2 h3 (by omega)
    have w1 : wr .i64 ((i : Int) - 1) = (i : Int) - 1 := wrap_id (by omega) (by omega)
    have hlen : ((dwL c).take i).length ≤ 360 := by rw [List.length_take]; omega
    have hA := e79 S.rng (by omega) (by omega) (x := (i : Int)) (by omega) (by omega)
    have hA1 := e79 S.rng (by omega) (by omega) (x := (i : Int) - 1) (by omega) (by omega)
    rw [show (i : Int) - 1 + 1 = (i : Int) by omega] at hA1
    have hget : (dwL c)[i]? = some (dwB c i) := tb_get (by omega)
    have er : dwB c i = (decide (cAt c ((i : Int) + 1) = cAt c (i : Int)) || decide (cAt c (i : Int) = cAt c ((i : Int) - 1))) := rfl
    generalize cAt c ((i : Int) - 1) = a at *
    generalize cAt c ((i : Int) + 1) = d at *
    generalize cAt c (i : Int) = v at *
    rw [Int.toNat_natCast]
    dsimp only
    refine Round.yes (decide_eq_true h3) (Round.bind hA ?_)
    dsimp only
    by_cases e1 : d - v = 0
    · refine Round.yes (by simpa using e1) (Round.chk (decide_eq_true (by simp only [List.length_singleton]; omega)) (Round.again _ ⟨(), ?_, trivial⟩))
      have ed : dwB c i = true := by rw [er, show d = v by omega]; simp
      rw [hws, show ((i : Int) + 1).toNat = i + 1 by omega, List.take_add_one, hget, ed]
      rfl
    · refine Round.no (by simpa using e1) ?_
      rw [w1]
      refine Round.bind hA1 (Round.chk (decide_eq_true (by simp only [List.length_singleton]; omega)) (Round.again _ ⟨(), ?_, trivial⟩))
      have ed : dwB c i = (v - a == 0) := by
        rw [er, decide_eq_false (show ¬ d = v by omega), Bool.false_or]
        by_cases e2 : v = a
        · simp [e2]
        · have e3 : ¬ v - a = 0 := by omega
          simp [e2, e3]
      rw [hws, show ((i : Int) + 1).toNat = i + 1 by omega, List.take_add_one, hget, ed]
      rfl
  · intro _ _
    rw [Int.toNat_natCast, List.take_of_length_le (by omega)]
    exact Round.no (by simp) (Round.done (Evt.some _))
/- slices.Equal[impl.Cam,int16] -/
theorem e58 (a b : List Int) (hl : (a.length : Int) ≤ 1000000) : Evt (fun n => call T C n 58 (a, b, ())) ((decide (a = b), ()), ()) := by
  by_cases hlen : a.length = b.length
  · refine Evt.next (Evt.no (by simp [hlen]) ?_) (fun n => r58 n a b)
    refine for_evt' 0 (a.length : Int) (fun i (_ : Unit) => (a, b, (a.length : Int), i, ())) (fun i _ => a.take i.toNat = b.take i.toNat) (b0 := ()) rfl (by omega) (by simp) ?_ ?_
    · intro i _ h2 h3 he
      obtain ⟨u, hu⟩ := at_of h2 h3
      obtain ⟨v, hv⟩ := at_of (l := b) h2 (by omega)
      refine Round.yes (decide_eq_true h3) (Round.at hu.idx (Round.at hv.idx (Round.ite (fun h => ?_) (fun h => ?_))))
      · have h : u ≠ v := by simpa using h
        have : a ≠ b := fun e => by
          subst e
          have := hu.get.symm.trans hv.get
          exact h (Option.some.inj this)
        rw [decide_eq_false this]
        exact Round.done (Evt.some _)
      · have h : u = v := by simpa using h
        exact Round.again _ ⟨(), by rw [wr_succ h2 h3 (by omega)], by rw [hu.take, hv.take, he, h]⟩
    · intro _ he
      have he : a = b := by rwa [take_all, hlen, take_all] at he
      rw [decide_eq_true he]
      exact Round.no (by simp) (Round.done (Evt.some _))
  · have : a ≠ b := fun e => hlen (by rw [e])
    rw [decide_eq_false this]
    exact Evt.next (Evt.yes (by simp; omega) (Evt.some _)) (fun n => r58 n a b)
/- impl.SmoothCam -/
theorem e23 {c : List Int} (S : SmD c) : Evt (fun n => call T C n 23 (c, 12, ())) (((smR (dwL c) 12 c 0).1, (((smR (dwL c) 12 c 0).2 : Nat) : Int), 0, ()), ()) := by
  have hl := S.len
  have hd := dwL_len c
  have hV := e55 c (by omega)
  rw [S.ok] at hV
  have hI := e56 12 0 200
  rw [show inR 12 0 200 = true from by decide] at hI
  refine Evt.next (Evt.bind hV (Evt.bind (e37 _ _) (Evt.bind hI (Evt.bind (e37 _ _) (Evt.bind (e35 _ (by simp)) ?_))))) (fun n => r23 n c 12)
  refine Evt.no (by simp [fst0]) (Evt.bind (e57 S) (Evt.bind (e39 c (by omega) (by omega)) ?_))
  dsimp only
  have K0 : KpC c (dwL c) 0 60 c := ⟨rfl, S.el, fun _ _ _ => rfl⟩
  generalize dwL c = h at *
  generalize hz : smR h 12 c 0 = z
  refine loop_evt (fun x => ∃ (f : Nat) (d : List Int), f ≤ 12 ∧ x = (12, h, d, ((12 - f : Nat) : Int), ()) ∧ KpC c h 0 60 d ∧ smR h f d (12 - f) = z) (fun x => (12 - x.2.2.2.1).toNat) ⟨12, c, by omega, rfl, K0, hz⟩ ?_
  rintro x ⟨f, d, hf, rfl, K, e⟩
  dsimp only
  cases f with
  | zero =>
    have e : (d, 12 - 0) = z := e
    rw [← e]
    exact Round.no (by simp) (Round.done (Evt.some _))
  | succ f =>
    have Sd : SmD d := ⟨by have := K.len; omega, K.el⟩
    have hws : wr .i64 (((12 - (f + 1) : Nat) : Int) + 1) = ((12 - f : Nat) : Int) := by rw [wrap_id (by omega) (by omega)]; omega
    unfold smR at e
    refine Round.yes (decide_eq_true (by omega)) (Round.bind (e50 Sd.rng (by have := K.len; omega) (by have := K.len; omega) (fun v hv => by have := K.el v hv; omega) (by have := K.len; omega)) (Round.bind (e58 _ _ (by rw [rnd_len]; have := K.len; omega)) ?_))
    dsimp only
    by_cases hr : rnd d h = d
    · rw [if_pos hr] at e
      rw [← e]
      exact Round.yes (decide_eq_true hr) (Round.done (Evt.some _))
    · rw [if_neg hr] at e
      refine Round.no (by simpa using hr) (Round.again _ ⟨⟨f, rnd d h, by omega, ?_, K.rnd (by omega), ?_⟩, ?_⟩)
      · rw [hws]
      · rw [← e, show 12 - (f + 1) + 1 = 12 - f by omega]
      · rw [hws]; dsimp only; omega
/- spec.l01Dwells -/
theorem e60 {c : List Int} (S : SmD c) : Evt (fun n => call T C n 60 (c, ())) ((dwL c, ()), ()) := by
  have hl := S.len
  have hll := dwL_len c
  refine Evt.next ?_ (fun n => r60 n c)
  refine for_evt' 0 (c.length : Int) (fun i (_ : Unit) => (c, (dwL c).take i.toNat, i, ())) (fun _ _ => True) (b0 := ()) rfl (by omega) trivial ?_ ?_
  · intro i _ h2 h3 _
    obtain ⟨i, rfl⟩ : ∃ a : Nat, i = a := ⟨i.toNat, by omega⟩
    have hws := wr_succ h2 h3 (by omega)
    have w1 : wr .i64 ((i : Int) - 1) = (i : Int) - 1 := wrap_id (by omega) (by omega)
    have hlen : ((dwL c).take i).length ≤ 360 := by rw [List.length_take]; omega
    have hA := e33' S.rng (by omega) (by omega) (x := (i : Int)) (by omega) (by omega)
    have hA1 := e33' S.rng (by omega) (by omega) (x := (i : Int) - 1) (by omega) (by omega)
    have hA2 := e33' S.rng (by omega) (by omega) (x := (i : Int) + 1) (by omega) (by omega)
    have hget : (dwL c)[i]? = some (dwB c i) := tb_get (by omega)
    have er : dwB c i = (decide (cAt c ((i : Int) + 1) = cAt c (i : Int)) || decide (cAt c (i : Int) = cAt c ((i : Int) - 1))) := rfl
    generalize cAt c ((i : Int) - 1) = a at *
    generalize cAt c ((i : Int) + 1) = d at *
    generalize cAt c (i : Int) = v at *
    rw [Int.toNat_natCast]
    dsimp only
    refine Round.yes (decide_eq_true h3) ?_
    rw [hws, w1]
    refine Round.bind hA2 (Round.bind hA ?_)
    dsimp only
    by_cases e1 : d = v
    · refine Round.yes (by simpa using e1) (Round.chk (decide_eq_true (by simp only [List.length_singleton]; omega)) (Round.again _ ⟨(), ?_, trivial⟩))
      have ed : dwB c i = true := by rw [er, e1]; simp
      rw [show ((i : Int) + 1).toNat = i + 1 by omega, List.take_add_one, hget, ed]
      rfl
    · refine Round.no (by simpa using e1) (Round.bind hA (Round.bind hA1 (Round.chk (decide_eq_true (by simp only [List.length_singleton]; omega)) (Round.again _ ⟨(), ?_, trivial⟩))))
      have ed : dwB c i = (v == a) := by
        rw [er, decide_eq_false e1, Bool.false_or]
        by_cases e2 : v = a <;> simp [e2]
      rw [show ((i : Int) + 1).toNat = i + 1 by omega, List.take_add_one, hget, ed]
      rfl
  · intro _ _
    rw [Int.toNat_natCast, List.take_of_length_le (by omega)]
    exact Round.no (by simp) (Round.done (Evt.some _))
/- spec.SmoothCam -/
theorem e24 {c : List Int} (S : SmD c) : Evt (fun n => call T C n 24 (c, 12, ())) (((smR (dwL c) 12 c 0).1, (((smR (dwL c) 12 c 0).2 : Nat) : Int), 0, ()), ()) := by
  have hl := S.len
  have hd := dwL_len c
  have hV := e48 c (by omega)
  rw [S.ok] at hV
  have hI := e59 12 0 200
  rw [show inR 12 0 200 = true from by decide] at hI
  refine Evt.next (Evt.bind hV ?_) (fun n => r24 n c 12)
  refine Evt.no (by simp) (Evt.bind hI ?_)
  refine Evt.no (by simp) (Evt.bind (e60 S) (Evt.chk (decide_eq_true (by simp only [List.length_nil]; omega)) ?_))
  dsimp only
  rw [List.nil_append]
  have K0 : KpC c (dwL c) 0 60 c := ⟨rfl, S.el, fun _ _ _ => rfl⟩
  generalize dwL c = h at *
  generalize hz : smR h 12 c 0 = z
  refine loop_evt (fun x => ∃ (f : Nat) (d : List Int), f ≤ 12 ∧ x = (12, h, d, ((12 - f : Nat) : Int), ()) ∧ KpC c h 0 60 d ∧ smR h f d (12 - f) = z) (fun x => (12 - x.2.2.2.1).toNat) ⟨12, c, by omega, rfl, K0, hz⟩ ?_
  rintro x ⟨f, d, hf, rfl, K, e⟩
  dsimp only
  cases f with
  | zero =>
    have e : (d, 12 - 0) = z := e
    rw [← e]
    exact Round.no (by simp) (Round.done (Evt.some _))
  | succ f =>
    have Sd : SmD d := ⟨by have := K.len; omega, K.el⟩
    have hws : wr .i64 (((12 - (f + 1) : Nat) : Int) + 1) = ((12 - f : Nat) : Int) := by rw [wrap_id (by omega) (by omega)]; omega
    unfold smR at e
    refine Round.yes (decide_eq_true (by omega)) (Round.bind (e51 Sd.rng (by have := K.len; omega) (by have := K.len; omega) (fun v hv => by have := K.el v hv; omega) (by have := K.len; omega)) (Round.bind (e52_2 _ _ (by rw [rnd_len]; have := K.len; omega)) ?_))
    dsimp only
    by_cases hr : rnd d h = d
    · rw [if_pos hr] at e
      rw [← e]
      exact Round.yes (decide_eq_true hr) (Round.done (Evt.some _))
    · rw [if_neg hr] at e
      refine Round.no (by simpa using hr) (Round.again _ ⟨⟨f, rnd d h, by omega, ?_, K.rnd (by omega), ?_⟩, ?_⟩)
      · rw [hws]
      · rw [← e, show 12 - (f + 1) + 1 = 12 - f by omega]
      · rw [hws]; dsimp only; omega
/- impl.DwellsOf -/
theorem e25 {c : List Int} (S : SmD c) : Evt (fun n => call T C n 25 (c, ())) ((dwL c, 0, ()), ()) := by
  have hl := S.len
  have hV := e55 c (by omega)
  rw [S.ok] at hV
  refine Evt.next (Evt.bind hV ?_) (fun n => r25 n c)
  exact Evt.no (by simp) (Evt.bind (e57 S) (Evt.some _))
/- spec.l01Bends -/
theorem e61 {c : List Int} (hr : Rng c) (ok : okC c = true) : Evt (fun n => call T C n 61 (c, ())) ((bends c, ()), ()) := by
  have lx := okC_len ok
  have hC := okC_el ok hr
  have h0 : 0 < c.length := by omega
  refine Evt.next ?_ (fun n => r61 n c)
  refine for_evt' 0 (c.length : Int) (fun i (_ : Unit) => (c, tb i.toNat (fun i => bendP c (i : Nat)), i, ())) (fun _ _ => True) (b0 := ()) rfl (by omega) trivial ?_ ?_
  · intro i _ h2 h3 _
    obtain ⟨k, rfl⟩ : ∃ k : Nat, i = k := ⟨i.toNat, by omega⟩
    have a := hC _ (cAt_mem h0 ((k : Int) + 1))
    have b := hC _ (cAt_mem h0 (k : Int))
    have d := hC _ (cAt_mem h0 ((k : Int) - 1))
    refine Round.yes (decide_eq_true h3) ?_
    simp only [wrap_id (x := (k : Int) + 1) (by omega) (by omega), wrap_id (x := (k : Int) - 1) (by omega) (by omega)]
    refine Round.bind (e33' hr (by omega) (by omega) (x := (k : Int) + 1) (by omega) (by omega)) (Round.bind (e33' hr (by omega) (by omega) (x := (k : Int)) (by omega) (by omega)) (Round.bind (e33' hr (by omega) (by omega) (x := (k : Int) - 1) (by omega) (by omega)) ?_))
    simp only [wrap_id (x := 2 * cAt c (k : Int)) (by omega) (by omega), wrap_id (x := cAt c ((k : Int) + 1) - 2 * cAt c (k : Int)) (by omega) (by omega), wrap_id (x := cAt c ((k : Int) + 1) - 2 * cAt c (k : Int) + cAt c ((k : Int) - 1)) (by omega) (by omega)]
    refine Round.chk (decide_eq_true (by simp only [tb_len, List.length_cons, List.length_nil]; omega)) (Round.again _ ⟨(), ?_, trivial⟩)
    rw [show ((k : Int) + 1).toNat = k + 1 by omega, ← tb_snoc, Int.toNat_natCast]
    rfl
  · intro _ _
    rw [Int.toNat_natCast]
    exact Round.no (by simp) (Round.done (Evt.some _))
/- spec.BendsOf -/
theorem e26 {c : List Int} (hr : Rng c) (ok : okC c = true) : Evt (fun n => call T C n 26 (c, ())) ((bends c, 0, ()), ()) := by
  have hl := okC_len ok
  have hv := e48 c (by omega)
  rw [ok] at hv
  refine Evt.next ?_ (fun n => r26 n c)
  exact Evt.bind hv (Evt.no (by simp) (Evt.bind (e61 hr ok) (Evt.some _)))
/- (impl.Cam).bend -/
theorem e63 {c : List Int} (hr : Rng c) (h0 : 0 < c.length) (h1 : c.length ≤ 1000) {x : Int} (x0 : -100000 ≤ x) (x1 : x ≤ 100000) : Evt (fun n => call T C n 63 (c, x, ())) ((bendP c x, ()), ()) := by
  have b1 := hr.el _ (cAt_mem h0 (x + 1))
  have b2 := hr.el _ (cAt_mem h0 x)
  have b3 := hr.el _ (cAt_mem h0 (x - 1))
  refine Evt.next ?_ (fun n => r63 n c x)
  rw [wrap_id (x := x - 1) (by omega) (by omega)]
  refine Evt.bind (e79 hr h0 h1 (by omega) (by omega)) (Evt.bind (e79 hr h0 h1 (by omega) (by omega)) ((Evt.some _).of_eq fun n => ?_))
  show some ((wr .i64 (cAt c (x + 1) - cAt c x - (cAt c (x - 1 + 1) - cAt c (x - 1))), ()), ()) = _
  rw [show x - 1 + 1 = x by omega, wrap_id (by omega) (by omega), show cAt c (x + 1) - cAt c x - (cAt c x - cAt c (x - 1)) = bendP c x by unfold bendP; omega]
  rfl
/- (impl.Cam).numbers{(impl.Cam).bend} -/
theorem e62 {c : List Int} (hr : Rng c) (h0 : 0 < c.length) (h1 : c.length ≤ 1000) : Evt (fun n => call T C n 62 (c, ((c, ()), ()), ())) ((bends c, ()), (((c, ()), ()), ())) := by
  refine Evt.next (Evt.bind (e44 c) ?_) (fun n => r62 n c ((c, ()), ()))
  refine for_evt' 0 (c.length : Int) (fun i (_ : Unit) => (((c, ()), ()), tb i.toNat (fun i => bendP c (i : Nat)), (c.length : Int), i, ())) (fun _ _ => True) (b0 := ()) rfl (by omega) trivial ?_ ?_
  · intro i _ h2 h3 _
    obtain ⟨k, rfl⟩ : ∃ k : Nat, i = k := ⟨i.toNat, by omega⟩
    refine Round.yes (decide_eq_true h3) (Round.bind (e63 hr h0 h1 (x := (k : Int)) (by omega) (by omega)) (Round.chk (decide_eq_true (by simp only [tb_len, List.length_cons, List.length_nil]; omega)) (Round.again _ ⟨(), ?_, trivial⟩)))
    rw [wr_succ h2 h3 (by omega), show ((k : Int) + 1).toNat = k + 1 by omega, ← tb_snoc, Int.toNat_natCast]
  · intro _ _
    rw [Int.toNat_natCast]
    exact Round.no (by simp) (Round.done (Evt.some _))
/- impl.SquaresOf -/
theorem e27 {c : List Int} (S : SmD c) : Evt (fun n => call T C n 27 (c, ())) ((sqF (bends c), 0, ()), ()) := by
  have hl := S.len
  have hV := e55 c (by omega)
  rw [S.ok] at hV
  have hbl : (bends c).length = c.length := tb_len _ _
  refine Evt.next (Evt.bind hV ?_) (fun n => r27 n c)
  refine Evt.no (by simp) (Evt.bind (e62 S.rng (by omega) (by omega)) ?_)
  dsimp only
  generalize bends c = l at *
  refine for_evt' 0 (l.length : Int) (fun i (_ : Unit) => (sqF (l.take i.toNat), l, (l.length : Int), i, ())) (fun _ _ => True) (b0 := ()) rfl (by omega) trivial ?_ ?_
  · intro i _ h2 h3 _
    obtain ⟨v, hv⟩ := at_of h2 h3
    refine Round.yes (decide_eq_true h3) (Round.at hv.idx (Round.again _ ⟨(), ?_, trivial⟩))
    rw [wr_succ h2 h3 (by omega), hv.take, sqF_snoc]
  · intro _ _
    rw [Int.toNat_natCast, List.take_length]
    exact Round.no (by simp) (Round.done (Evt.some _))
/- spec.P6Pick -/
theorem e28 {b : List Int} (hb : ∀ v ∈ b, 0 ≤ v ∧ v ≤ 255) (hl : (b.length : Int) ≤ 4096) {m : Int} (m1 : 1 ≤ m) (m2 : m ≤ 1000000) : ∃ v : Int, Evt (fun n => call T C n 28 (b, m, ())) ((v, ()), ()) ∧ 0 ≤ v ∧ v < m := by
  have h0 : SrcAt 0 ((b, 0, 0, ()) : Src) := ⟨hb, by show (b.length : Int) ≤ 1000000; omega, Int.le_refl _, Int.le_refl _⟩
  obtain ⟨v, s1, hE, v0, v1, _⟩ := e64 h0 (by omega) m1 m2
  refine ⟨v, Evt.next ?_ (fun n => r28 n b m), v0, v1⟩
  exact Evt.bind (e46 b) (Evt.bind hE (Evt.some _))
/- impl.abs -/
theorem e65 {a : Int} (h1 : -1000000000000 ≤ a) (h2 : a ≤ 1000000000000) : Evt (fun n => call T C n 65 (a, ())) ((siz a, ()), ()) := by
  refine Evt.next ((Evt.some _).of_eq fun n => ?_) (fun n => r65 n a)
  rw [wrap_id (x := 0 - a) (by omega) (by omega)]
  unfold siz
  have : (if 0 - a > a then 0 - a else a) = if a < 0 then -a else a := by split <;> split <;> omega
  rw [this]
  rfl
/- impl.CountOver -/
theorem e29 {c : List Int} (S : SmD c) {b : Int} (b0 : 0 ≤ b) : Evt (fun n => call T C n 29 (c, b, ())) ((((cOv b (bends c) : Nat) : Int), 0, ()), ()) := by
  have hl := S.len
  have hV := e55 c (by omega)
  rw [S.ok] at hV
  have hbl : (bends c).length = c.length := tb_len _ _
  have hbb : ∀ v ∈ bends c, -20000 ≤ v ∧ v ≤ 20000 := fun v hv => by
    obtain ⟨i, _, rfl⟩ := tb_mem hv
    exact bends_bd (c := c) (by omega) (fun v hv => by have := S.el v hv; omega) (i : Nat)
  refine Evt.next (Evt.bind hV (Evt.bind (e37 _ _) (Evt.bind (e37 _ _) (Evt.bind (e35 _ (by simp)) ?_)))) (fun n => r29 n c b)
  have hb0 : decide (b < 0) = false := decide_eq_false (by omega)
  refine Evt.no (by simp [fst0, hb0]) (Evt.bind (e62 S.rng (by omega) (by omega)) ?_)
  dsimp only
  generalize bends c = l at *
  refine for_evt' 0 (l.length : Int) (fun i (_ : Unit) => (b, ((cOv b (l.take i.toNat) : Nat) : Int), l, (l.length : Int), i, ())) (fun _ _ => True) (b0 := ()) rfl (by omega) trivial ?_ ?_
  · intro i _ h2 h3 _
    obtain ⟨v, hv⟩ := at_of h2 h3
    have hvb := hbb v hv.mem
    have hle := cOv_le b (l.take i.toNat)
    rw [List.length_take] at hle
    have hws := wr_succ h2 h3 (by omega)
    refine Round.yes (decide_eq_true h3) (Round.at hv.idx (Round.bind (e65 (by omega) (by omega)) ?_))
    dsimp only
    by_cases h : siz v > b
    · refine Round.yes (decide_eq_true h) (Round.again _ ⟨(), ?_, trivial⟩)
      rw [hws, hv.take, cOv_yes _ h, wrap_id (by omega) (by omega)]
      rfl
    · refine Round.no (by simpa using h) (Round.again _ ⟨(), ?_, trivial⟩)
      rw [hws, hv.take, cOv_no _ h]
  · intro _ _
    rw [Int.toNat_natCast, List.take_length]
    exact Round.no (by simp) (Round.done (Evt.some _))
/- laws.f6size -/
theorem e30 {a : Int} (h1 : -1000000000000 ≤ a) (h2 : a ≤ 1000000000000) : Evt (fun n => call T C n 30 (a, ())) ((siz a, ()), ()) := by
  refine Evt.next ((Evt.some _).of_eq fun n => ?_) (fun n => r30 n a)
  rw [wrap_id (x := 0 - a) (by omega) (by omega)]
  have : (if 0 - a > a then 0 - a else a) = siz a := by unfold siz; split <;> split <;> omega
  rw [this]
  rfl
/- laws.FnRounds -/
theorem e4 (x y : List Int) (hd : DomA (C 4).params (x, y, ())) : Evt (fun n => call T C n 4 (x, y, ())) ((true, ()), ()) := by
  have hx : ∀ v ∈ x, 0 ≤ v ∧ v ≤ 255 := byte_of hd.1
  have hy : ∀ v ∈ y, 0 ≤ v ∧ v ≤ 255 := byte_of hd.2.1
  refine Evt.next (Evt.bind (e14 x) (Evt.ite (fun _ => Evt.some _) (fun hx2 => Evt.bind (e14 y) (Evt.ite (fun _ => Evt.some _) (fun hy2 => ?_))))) (fun n => r4 n x y)
  have hx2 : ¬ (x.length : Int) > 4096 := by simpa using hx2
  have hy2 : ¬ (y.length : Int) > 4096 := by simpa using hy2
  obtain ⟨c, hC, S⟩ := e15 hx (by omega)
  have hl := S.len
  have hc0 : 0 < c.length := by omega
  obtain ⟨h, hH, hhl, hh0⟩ := e16 (c := c) hy (by omega) hc0 (by omega)
  have ha : h.any (fun v => true == v) = true := by
    apply Classical.byContradiction
    intro hn
    rw [none_hF hn] at hh0
    cases hh0
  have hne : c ≠ [] := fun e => by rw [e] at hc0; exact absurd hc0 (by simp)
  have hlo := mnL_bd hne S.el
  have hhd : 0 ≤ c.headD 0 ∧ c.headD 0 ≤ 60 := by
    cases c with
    | nil => exact absurd rfl hne
    | cons a r => exact S.el a (by simp)
  have hhi : 0 ≤ mxL c ∧ mxL c ≤ 60 := ⟨Int.le_trans hhd.1 (mxF_ge c _).1, mxF_le c _ 60 hhd.2 fun v hv => (S.el v hv).2⟩
  have hcr : ∀ v ∈ c, mnL c ≤ v ∧ v ≤ mxL c := fun v hv => ⟨mnL_ge hv, (mxF_ge c _).2 v hv⟩
  have hb : ∀ x, mnL c ≤ cAt c x ∧ cAt c x ≤ mxL c := fun x => hcr _ (cAt_mem hc0 x)
  have hRa := e17 S.rng S.ok
  generalize mnL c = lo at *
  generalize mxL c = hi at *
  have K0 : KpC c h lo hi c := ⟨rfl, hcr, fun _ _ _ => rfl⟩
  have KR := K0.rnd hc0
  have KF := feA_kp hb (by omega) (by omega) hhl hc0 K0
  have hFi := e8 S.rng h (by omega)
  have hFs := e5 S.rng h
  have efe : feR c h = (feA c (frA h), 0, ()) := by
    have e : hcode c h = 0 := by unfold hcode; rw [S.ok, if_neg (by simp), if_neg (fun e => e hhl)]
    unfold feR
    rw [if_neg (fun hn => hn e), if_pos ha]
  rw [efe] at hFi hFs
  have hRi := e18 S hhl
  have hRs := e19 S hhl
  have hRl := rnd_len c h
  have hFl := feA_len c (frA h)
  have hLl := frA_len h
  have eL : frA h = frI h 0 h.length := if_pos ha
  have hpw : (frA h).Pairwise keyLt := by rw [eL]; exact frI_pw _ (Nat.le_refl _)
  have hmem : ∀ p ∈ frA h, ∃ i m : Nat, p = [(i : Int), (m : Int)] ∧ i < h.length ∧ 1 ≤ m ∧ m ≤ h.length ∧ ∀ k, k < m → hF h (i + k) = false := fun p hp => frA_mem (by omega) hp
  have hsumf : sumP (frA h) = (cntF h h.length : Nat) := by rw [eL]; exact sum_free (by omega) hh0
  have hcl := cntF_le h
  have hat : ∀ j : Nat, idx h ((j % h.length : Nat) : Int) = some (hF h j) := fun j => by
    have hm := Nat.mod_lt j (show 0 < h.length by omega)
    unfold idx hF
    rw [if_pos (by omega), Int.toNat_natCast, List.getD_eq_getElem?_getD, List.getElem?_eq_getElem hm]
    rfl
  refine Evt.bind hC (Evt.bind hH (Evt.bind hRa (Evt.bind hRi (Evt.bind hRs (Evt.bind hFi (Evt.bind hFs ?_))))))
  refine Evt.no (by simp) (Evt.no (by simp) (Evt.no (by simp) (Evt.bind (e20 (rnd c h) (by omega)) (Evt.no (by simp) (Evt.no (by simp) (Evt.no (by simp) (Evt.bind (e20 (feA c (frA h)) (by omega)) (Evt.no (by simp) ?_))))))))
  dsimp only
  generalize rnd c h = R at *
  generalize feA c (frA h) = F at *
  refine for_evt' 0 (c.length : Int) (fun i (_ : Unit) => (y, c, h, lo, hi, R, F, ((cntF h i.toNat : Nat) : Int), i, ())) (fun _ _ => True) (b0 := ()) rfl (by omega) trivial ?_ ?_
  · intro i _ i0 i1 _
    obtain ⟨i, rfl⟩ := Int.eq_ofNat_of_zero_le i0
    have hi' : i < c.length := by omega
    have hws := wr_succ (i := (i : Int)) i0 i1 (by omega)
    have aC := g_idx (l := c) (i := (i : Int)) (by omega) (by omega)
    have aR := g_idx (l := R) (i := (i : Int)) (by omega) (by omega)
    have aF := g_idx (l := F) (i := (i : Int)) (by omega) (by omega)
    rw [Int.toNat_natCast] at aC aR aF
    have bR := KR.el _ aR.mem
    have bF := KF.el _ aF.mem
    have aH := hat i
    rw [Nat.mod_eq_of_lt (by omega)] at aH
    have eR := KR.held i hi'
    have eF := KF.held i hi'
    have hcs : cntF h (i + 1) = cntF h i + if hF h i = true then 0 else 1 := rfl
    have hci := hcl i
    have wR : wr .i64 (g R i) = g R i := wrap_id (by omega) (by omega)
    have wF : wr .i64 (g F i) = g F i := wrap_id (by omega) (by omega)
    rw [Int.toNat_natCast]
    dsimp only
    refine Round.yes (decide_eq_true i1) (Round.at aH ?_)
    cases hh : hF h i with
    | true =>
      rw [hh, if_pos rfl] at hcs
      rw [hh] at aH
      have eR := eR hh
      have eF := eF hh
      refine Round.yes rfl (Round.at aR.idx (Round.at aC.idx (Round.no (by rw [eR]; simp) (Round.at aF.idx (Round.at aC.idx (Round.no (by rw [eF]; simp) ?_))))))
      refine Round.at aR.idx (Round.no (by rw [wR]; simp; omega) (Round.at aR.idx (Round.no (by rw [wR]; simp; omega) (Round.at aF.idx (Round.no (by rw [wF]; simp; omega) (Round.at aF.idx (Round.no (by rw [wF]; simp; omega) (Round.at aH (Round.no (by simp) (Round.again _ ⟨(), ?_, trivial⟩))))))))))
      rw [hws, show ((i : Int) + 1).toNat = i + 1 by omega, hcs]
      rfl
    | false =>
      rw [hh, if_neg (by simp)] at hcs
      rw [hh] at aH
      refine Round.no (by simp) ?_
      refine Round.at aR.idx (Round.no (by rw [wR]; simp; omega) (Round.at aR.idx (Round.no (by rw [wR]; simp; omega) (Round.at aF.idx (Round.no (by rw [wF]; simp; omega) (Round.at aF.idx (Round.no (by rw [wF]; simp; omega) (Round.at aH (Round.yes rfl (Round.again _ ⟨(), ?_, trivial⟩))))))))))
      rw [hws, show ((i : Int) + 1).toNat = i + 1 by omega, hcs, wrap_id (by omega) (by omega)]
      rfl
  intro _ _
  rw [Int.toNat_natCast, ← hhl]
  dsimp only
  refine Round.no (by simp) (Round.bind (e21 (h := h) (by omega) (by omega)) (Round.bind (e22 (h := h) (by omega) (by omega)) (Round.no (by simp) (Round.no (by simp) (Round.no (by simp) (Round.done ?_))))))
  dsimp only
  refine for_evt' 0 ((frA h).length : Int) (fun i (_ : Unit) => (y, c, h, ((cntF h h.length : Nat) : Int), frA h, frA h, sumP ((frA h).take i.toNat), i, ())) (fun _ _ => True) (b0 := ()) rfl (by omega) trivial ?_ ?_
  · intro i _ i0 i1 _
    obtain ⟨i, rfl⟩ := Int.eq_ofNat_of_zero_le i0
    have hi' : i < (frA h).length := by omega
    have hws := wr_succ (i := (i : Int)) i0 i1 (by omega)
    obtain ⟨p, hp⟩ : ∃ p, (frA h)[i]? = some p := ⟨_, List.getElem?_eq_getElem hi'⟩
    have hL : idx (frA h) (i : Int) = some p := by
      unfold idx
      rw [if_pos (by omega), Int.toNat_natCast, hp]
    obtain ⟨f, m, rfl, f1, m1, m2, hfree⟩ := hmem p (List.mem_of_getElem? hp)
    have hsn : sumP ((frA h).take (i + 1)) = sumP ((frA h).take i) + m := by rw [List.take_add_one, hp]; exact sumP_snoc _ _
    have hsb := sumP_bd (B := 360) ((frA h).take i) fun q hq => by
      obtain ⟨_, m', rfl, _, _, h3, _⟩ := hmem q (List.mem_of_mem_take hq)
      show (0 : Int) ≤ (m' : Int) ∧ (m' : Int) ≤ 360
      omega
    rw [List.length_take] at hsb
    have hsum : wr .i64 (sumP ((frA h).take i) + m) = sumP ((frA h).take i) + m := wrap_id (by omega) (by omega)
    rw [Int.toNat_natCast]
    dsimp only
    refine Round.yes (decide_eq_true i1) (Round.at hL (Round.at hL (Round.no (by simp) (Round.at hL (Round.at (v := (m : Int)) rfl (Round.no (by simp; omega) ?_))))))
    by_cases hz : 0 < i
    · have hj : i - 1 < (frA h).length := by omega
      obtain ⟨q, hq⟩ : ∃ q, (frA h)[i - 1]? = some q := ⟨_, List.getElem?_eq_getElem hj⟩
      have hL2 : idx (frA h) (wr .i64 ((i : Int) - 1)) = some q := by
        rw [wrap_id (by omega) (by omega)]
        unfold idx
        rw [if_pos (by omega), show ((i : Int) - 1).toNat = i - 1 by omega, hq]
      obtain ⟨f', m', rfl, _, _, _, _⟩ := hmem q (List.mem_of_getElem? hq)
      have hlt : (f' : Int) < (f : Int) := by
        have := (List.pairwise_iff_getElem.1 hpw) (i - 1) i hj hi' (by omega)
        rw [List.getElem?_eq_getElem hj] at hq
        rw [List.getElem?_eq_getElem hi'] at hp
        rw [Option.some.inj hq, Option.some.inj hp] at this
        exact this
      refine Round.yes (decide_eq_true (by omega)) (Round.at hL (Round.at (v := (f : Int)) rfl (Round.at hL2 (Round.at (v := (f' : Int)) rfl (Round.no (by simp; omega) ?_)))))
      refine for_round' 0 (m : Int) (fun k (_ : Unit) => (y, c, h, ((cntF h h.length : Nat) : Int), frA h, frA h, sumP ((frA h).take i), (i : Int), k, ())) (fun _ _ => True) (b0 := ()) rfl (by omega) trivial ?_ ?_
      · intro k _ k0 k1 _
        obtain ⟨k, rfl⟩ := Int.eq_ofNat_of_zero_le k0
        have hks := wr_succ (i := (k : Int)) k0 k1 (by omega)
        have etm : Int.tmod (wr .i64 ((f : Int) + k)) (c.length : Int) = (((f + k) % h.length : Nat) : Int) := by
          rw [wrap_id (by omega) (by omega), Int.tmod_eq_emod_of_nonneg (by omega), Int.natCast_emod, hhl]
          rfl
        have hak := hat (f + k)
        rw [hfree k (by omega)] at hak
        dsimp only
        refine Round.at hL (Round.at (v := (m : Int)) rfl (Round.yes (decide_eq_true k1) (Round.at hL (Round.at (v := (f : Int)) rfl (Round.chk (bne_iff_ne.2 (by omega)) ?_)))))
        rw [etm]
        refine Round.at hak (Round.no (by simp) (Round.inr _ ⟨(), ?_, trivial⟩))
        rw [hks]
      · intro _ _
        dsimp only
        refine Round.at hL (Round.at (v := (m : Int)) rfl (Round.no (by simp) (Round.at hL (Round.at (v := (m : Int)) rfl (Round.inl _ ⟨(), ?_, trivial⟩)))))
        rw [hws, hsum, show ((i : Int) + 1).toNat = i + 1 by omega, hsn]
    · refine Round.no (by simp; omega) (Round.no (by simp) ?_)
      refine for_round' 0 (m : Int) (fun k (_ : Unit) => (y, c, h, ((cntF h h.length : Nat) : Int), frA h, frA h, sumP ((frA h).take i), (i : Int), k, ())) (fun _ _ => True) (b0 := ()) rfl (by omega) trivial ?_ ?_
      · intro k _ k0 k1 _
        obtain ⟨k, rfl⟩ := Int.eq_ofNat_of_zero_le k0
        have hks := wr_succ (i := (k : Int)) k0 k1 (by omega)
        have etm : Int.tmod (wr .i64 ((f : Int) + k)) (c.length : Int) = (((f + k) % h.length : Nat) : Int) := by
          rw [wrap_id (by omega) (by omega), Int.tmod_eq_emod_of_nonneg (by omega), Int.natCast_emod, hhl]
          rfl
        have hak := hat (f + k)
        rw [hfree k (by omega)] at hak
        dsimp only
        refine Round.at hL (Round.at (v := (m : Int)) rfl (Round.yes (decide_eq_true k1) (Round.at hL (Round.at (v := (f : Int)) rfl (Round.chk (bne_iff_ne.2 (by omega)) ?_)))))
        rw [etm]
        refine Round.at hak (Round.no (by simp) (Round.inr _ ⟨(), ?_, trivial⟩))
        rw [hks]
      · intro _ _
        dsimp only
        refine Round.at hL (Round.at (v := (m : Int)) rfl (Round.no (by simp) (Round.at hL (Round.at (v := (m : Int)) rfl (Round.inl _ ⟨(), ?_, trivial⟩)))))
        rw [hws, hsum, show ((i : Int) + 1).toNat = i + 1 by omega, hsn]
  intro _ _
  rw [Int.toNat_natCast, List.take_length, hsumf]
  have Kd := smR_kp (h := dwL c) hc0 12 c 0 ⟨rfl, S.el, fun _ _ _ => rfl⟩
  have hSi := e23 S
  have hSs := e24 S
  have hdl := dwL_len c
  generalize smR (dwL c) 12 c 0 = z at *
  obtain ⟨d, nr⟩ := z
  simp only at Kd hSi hSs
  obtain ⟨Kd, hnr⟩ := Kd
  have hdle := Kd.len
  have Sd : SmD d := ⟨by omega, Kd.el⟩
  dsimp only
  refine Round.no (by simp) (Round.bind hSi (Round.bind hSs (Round.bind (e25 S) (Round.no (by simp) (Round.no (by simp) (Round.no (by simp) (Round.bind (e20 d (by omega)) (Round.no (by simp) (Round.no (by simp) (Round.no (by simp; omega) (Round.no (by simp) (Round.no (by simp; omega) (Round.done ?_)))))))))))))
  dsimp only
  refine for_evt' 0 (c.length : Int) (fun i (_ : Unit) => (y, c, d, dwL c, i, ())) (fun _ _ => True) (b0 := ()) rfl (by omega) trivial ?_ ?_
  · intro i _ i0 i1 _
    obtain ⟨i, rfl⟩ := Int.eq_ofNat_of_zero_le i0
    have hi' : i < c.length := by omega
    have hws := wr_succ (i := (i : Int)) i0 i1 (by omega)
    have aC := g_idx (l := c) (i := (i : Int)) (by omega) (by omega)
    have aD := g_idx (l := d) (i := (i : Int)) (by omega) (by omega)
    rw [Int.toNat_natCast] at aC aD
    have hW : idx (dwL c) (i : Int) = some (dwB c i) := by
      unfold idx
      rw [if_pos (by omega), Int.toNat_natCast]
      exact tb_get hi'
    have hk := Kd.held i hi'
    have ehf : hF (dwL c) i = dwB c i := hF_tb hi'
    rw [ehf] at hk
    dsimp only
    refine Round.yes (decide_eq_true i1) (Round.at hW ?_)
    cases hB : dwB c i with
    | true =>
      refine Round.yes rfl (Round.at aD.idx (Round.at aC.idx (Round.no (by rw [hk hB]; simp) (Round.again _ ⟨(), ?_, trivial⟩))))
      rw [hws]
    | false =>
      refine Round.no (by simp) (Round.again _ ⟨(), ?_, trivial⟩)
      rw [hws]
  intro _ _
  obtain ⟨b, hPb, b0, b1⟩ := e28 hy (by omega) (m := 5) (by omega) (by omega)
  have hbl : (bends d).length = d.length := tb_len _ _
  have hbb : ∀ v ∈ bends d, -20000 ≤ v ∧ v ≤ 20000 := fun v hv => by
    obtain ⟨i, _, rfl⟩ := tb_mem hv
    exact bends_bd (c := d) (by omega) (fun v hv => by have := Sd.el v hv; omega) (i : Nat)
  refine Round.no (by simp) (Round.bind (e26 Sd.rng Sd.ok) (Round.bind (e27 Sd) (Round.bind hPb (Round.bind (e29 Sd b0) (Round.done ?_)))))
  dsimp only
  generalize bends d = l at *
  refine for_evt' 0 (l.length : Int) (fun i (_ : Unit) => (l, (0 : Int), sqF l, (0 : Int), b, ((cOv b l : Nat) : Int), (0 : Int), sqF (l.take i.toNat), ((cOv b (l.take i.toNat) : Nat) : Int), i, ())) (fun _ _ => True) (b0 := ()) rfl (by omega) trivial ?_ ?_
  · intro i _ h2 h3 _
    obtain ⟨v, hv⟩ := at_of h2 h3
    have hvb := hbb v hv.mem
    have hle := cOv_le b (l.take i.toNat)
    rw [List.length_take] at hle
    have hws := wr_succ h2 h3 (by omega)
    dsimp only
    refine Round.yes (decide_eq_true h3) (Round.at hv.idx (Round.at hv.idx (Round.at hv.idx (Round.bind (e30 (by omega) (by omega)) ?_))))
    dsimp only
    by_cases hg : siz v > b
    · refine Round.yes (decide_eq_true hg) (Round.again _ ⟨(), ?_, trivial⟩)
      rw [hws, hv.take, sqF_snoc, cOv_yes _ hg, wrap_id (x := ((cOv b (l.take i.toNat) : Nat) : Int) + 1) (by omega) (by omega)]
      rfl
    · refine Round.no (by simpa using hg) (Round.again _ ⟨(), ?_, trivial⟩)
      rw [hws, hv.take, sqF_snoc, cOv_no _ hg]
  · intro _ _
    rw [Int.toNat_natCast, List.take_length]
    refine Round.no (by simp) (Round.yes rfl (Round.yes rfl (Round.yes (by simp) (Round.yes rfl (Round.done ((Evt.some ((true, ()), ())).of_eq fun n => by simp))))))

end Go.Cams.YtpfgohcppijiiaaLFo
