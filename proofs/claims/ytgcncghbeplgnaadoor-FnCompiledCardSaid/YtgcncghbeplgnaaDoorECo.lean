/- What the functions that the law reaches come to. -/
import Derived.Test.YtgcncghbeplgnaaDoorRCo
import Derived.Test.YtgcncghbeplgnaaDoorPuAll
namespace Go.Cams.YtgcncghbeplgnaaDoorLCo
open Go Go.Fw Go.Proofs Go.Proofs.YtgcncghbeplgnaaDoor.LCo
/- laws.f6big -/
theorem e4 (a : List Int) : Evt (fun n => call T C n 4 (a, ())) ((decide ((a.length : Int) > 4096), ()), ()) := Evt.next (Evt.some _) (fun n => r4 n a)
/- spec.l00From -/
theorem e24 (a : List Int) : Evt (fun n => call T C n 24 (a, ())) (((a, 0, 0, ()), ()), ()) := Evt.next (Evt.some _) (fun n => r24 n a)
/- (*spec.l00Src).next -/
theorem e60 {k : Int} {s : Src} (h : SrcAt k s) (hk : k ≤ 1000000000000) : ∃ (v : Int) (s' : Src), Evt (fun n => call T C n 60 (s, ())) ((v, ()), (s', ())) ∧ 0 ≤ v ∧ v ≤ 255 ∧ SrcAt (k + 1) s' := by
  obtain ⟨h1, h2, h3, h4⟩ := h
  have hw : wr .i64 (s.2.1 + 1) = s.2.1 + 1 := wrap_id (by omega) (by omega)
  by_cases hp : s.2.1 < (s.1.length : Int)
  · obtain ⟨v, hv⟩ := at_of h3 hp
    have hb := h1 v hv.mem
    have ev : wr .i64 v = v := wrap_id (by omega) (by omega)
    obtain ⟨z, hz⟩ : ∃ z, z = wr .u64 ((wr .u64 ((wr .u64 (s.2.2.1 * (6364136223846793005 : Int))) + (wr .u64 (wr .i64 v)))) + (1442695040888963407 : Int)) := ⟨_, rfl⟩
    refine ⟨v, (s.1, s.2.1 + 1, z, ()), Evt.next (Evt.yes (decide_eq_true hp) (Evt.at hv.idx (Evt.yes (decide_eq_true (by rw [hw]; omega)) ((Evt.some _).of_eq fun n => ?_)))) (fun n => r60 n s), hb.1, hb.2, h1, h2, by show 0 ≤ s.2.1 + 1; omega, by show s.2.1 + 1 ≤ k + 1; omega⟩
    rw [← hz, hw, ev]
    rfl
  · obtain ⟨z, hz⟩ : ∃ z, z = wr .u64 ((wr .u64 ((wr .u64 (s.2.2.1 * (6364136223846793005 : Int))) + (wr .u64 (0 : Int)))) + (1442695040888963407 : Int)) := ⟨_, rfl⟩
    have hzb : 0 ≤ z ∧ z < 18446744073709551616 := by rw [hz]; exact wrap_u64 _
    obtain ⟨y, rfl⟩ : ∃ y : Nat, z = y := ⟨z.toNat, by omega⟩
    have hval : wr .i64 (bitsI .and .u64 (shr_ .u64 (y : Int) (40 : Int)) (255 : Int)) = ((y / 2 ^ 40 % 256 : Nat) : Int) := by
      rw [show (40 : Int) = ((40 : Nat) : Int) from rfl, shr_nat (by omega), and_255 (Nat.lt_of_le_of_lt (Nat.div_le_self _ _) (by omega))]
      have := Nat.mod_lt (y / 2 ^ 40) (show 0 < 256 by omega)
      exact wrap_id (by omega) (by omega)
    have hm := Nat.mod_lt (y / 2 ^ 40) (show 0 < 256 by omega)
    refine ⟨((y / 2 ^ 40 % 256 : Nat) : Int), (s.1, s.2.1 + 1, (y : Int), ()), Evt.next (Evt.no (by simpa using hp) (Evt.no (by rw [hw]; simp; omega) (Evt.chk rfl ((Evt.some _).of_eq fun n => ?_)))) (fun n => r60 n s), by omega, by omega, h1, h2, by show 0 ≤ s.2.1 + 1; omega, by show s.2.1 + 1 ≤ k + 1; omega⟩
    rw [← hz, hw, hval]
    rfl
/- (*spec.l00Src).pick -/
theorem e25 {k : Int} {s : Src} (h : SrcAt k s) (hk : k ≤ 999999999000) {m : Int} (m1 : 1 ≤ m) (m2 : m ≤ 1000000) : ∃ (v : Int) (s' : Src), Evt (fun n => call T C n 25 (s, m, ())) ((v, ()), (s', ())) ∧ 0 ≤ v ∧ v < m ∧ SrcAt (k + 2) s' := by
  by_cases hm : m ≤ 1
  · exact ⟨0, s, Evt.next (Evt.yes (decide_eq_true hm) (Evt.some _)) (fun n => r25 n s m), by omega, by omega, h.mono (by omega)⟩
  · obtain ⟨v, s1, hE, v0, v1, hs1⟩ := e60 h (by omega)
    by_cases hb : m > 200
    · obtain ⟨u, s2, hE2, u0, u1, hs2⟩ := e60 hs1 (by omega)
      have hx : wr .i64 (wr .i64 (v * 256) + u) = v * 256 + u := by rw [wrap_id (x := v * 256) (by omega) (by omega), wrap_id (by omega) (by omega)]
      have ht0 := Int.tmod_nonneg m (show 0 ≤ v * 256 + u by omega)
      have ht1 := Int.tmod_lt_of_pos (v * 256 + u) (show 0 < m by omega)
      refine ⟨Int.tmod (v * 256 + u) m, s2, Evt.next (Evt.no (by simpa using hm) (Evt.bind hE (Evt.yes (decide_eq_true hb) (Evt.bind hE2 (Evt.chk (bne_pos (by omega)) ((Evt.some _).of_eq fun n => ?_)))))) (fun n => r25 n s m), ht0, ht1, hs2.mono (by omega)⟩
      rw [hx]
      rfl
    · have ht0 := Int.tmod_nonneg m v0
      have ht1 := Int.tmod_lt_of_pos v (show 0 < m by omega)
      exact ⟨Int.tmod v m, s1, Evt.next (Evt.no (by simpa using hm) (Evt.bind hE (Evt.no (by simpa using hb) (Evt.chk (bne_pos (by omega)) (Evt.some _))))) (fun n => r25 n s m), ht0, ht1, hs1.mono (by omega)⟩
/- spec.P6Strokes -/
theorem e5 {b : List Int} (hb : ∀ v ∈ b, 0 ≤ v ∧ v ≤ 255) (hl : (b.length : Int) ≤ 4096) : ∃ K : List Stk, Evt (fun n => call T C n 5 (b, ())) ((K, ()), ()) ∧ SmT K := by
  have h0 : SrcAt 0 ((b, 0, 0, ()) : Src) := ⟨hb, by show (b.length : Int) ≤ 1000000; omega, Int.le_refl _, Int.le_refl _⟩
  obtain ⟨c, s1, hE1, c0, c1, hs1⟩ := e25 h0 (by omega) (m := 5) (by omega) (by omega)
  have key : EvtX (fun n => call T C n 5 (b, ())) (fun y => SmT y.1.1) := by
    refine EvtX.next (EvtX.bind (e24 b) (EvtX.bind hE1 ?_)) (fun n => r5 n b)
    refine EvtX.loop (fun x => ∃ (src : Src) (K : List Stk) (m : Nat), x = (src, K, (m : Int), ()) ∧ SrcAt (2 + 100 * (4 - m)) src ∧ (∀ s ∈ K, (1 ≤ s.length ∧ s.length ≤ 4) ∧ ∀ m ∈ s, OnP m) ∧ K.length + m ≤ 4) (fun x => x.2.2.1.toNat)
      ⟨s1, [], c.toNat, ?_, hs1.mono (by omega), by simp, by simp; omega⟩ ?_
    · show (s1, _, c, ()) = _
      rw [show ((c.toNat : Nat) : Int) = c by omega]
    rintro x ⟨src, K, m, rfl, hsrc, hK, hn⟩
    by_cases h0 : 0 < m
    · right
      obtain ⟨a, a1, hA, a0, al, hs3⟩ := e25 hsrc (by omega) (m := 4) (by omega) (by omega)
      have hin := inner_ex (α := ((resTy [.ro (.slc (.slc (.arr 2 (.int .i16))))]).I × Unit)) (σ := Src × List Stk × Int × Unit) (τ := Src × List Stk × Int × Stk × Int × Unit)
        (f := fun n again5 (x9 : Src × List Stk × Int × Stk × Int × Unit) again10 => (if (decide (x9.2.2.2.2.1 > (0 : Int))) = true then (call T C n 25 (x9.1, (24 : Int), ())).bind fun r14 => (call T C n 25 (r14.2.1, (24 : Int), ())).bind fun r15 => ((List.replicate 2 (0 : Int))[0]?).bind fun v16 => (((List.replicate 2 (0 : Int)).set 0 (wr .i16 r14.1.1))[1]?).bind fun v17 => chk (decide ((x9.2.2.2.1.length + ([(((List.replicate 2 (0 : Int)).set 0 (wr .i16 r14.1.1)).set 1 (wr .i16 r15.1.1))] : (List (List Int))).length) * 4 ≤ 140737488355328)) (again10 (r15.2.1, x9.2.1, x9.2.2.1, (x9.2.2.2.1 ++ ([(((List.replicate 2 (0 : Int)).set 0 (wr .i16 r14.1.1)).set 1 (wr .i16 r15.1.1))] : (List (List Int)))), (wr .i64 (x9.2.2.2.2.1 - (1 : Int))), ())) else chk (decide ((x9.2.1.length + ([x9.2.2.2.1] : (List (List (List Int)))).length) * 24 ≤ 140737488355328)) (again5 (x9.1, (x9.2.1 ++ ([x9.2.2.2.1] : (List (List (List Int))))), (wr .i64 (x9.2.2.1 - (1 : Int))), ()))))
        (fun x => ∃ (src : Src) (t : Stk) (j : Nat), x = (src, K, (m : Int), t, (j : Int), ()) ∧ SrcAt (2 + 100 * (4 - m) + 2 + 4 * (4 - j)) src ∧ (∀ m ∈ t, OnP m) ∧ t.length + j ≤ 4 ∧ 1 ≤ t.length + j) (fun x => x.2.2.2.2.1.toNat)
        (fun z => ∃ (src : Src) (t : Stk), z = (src, K ++ [t], ((m - 1 : Nat) : Int), ()) ∧ SrcAt (2 + 100 * (4 - m) + 50) src ∧ (∀ m ∈ t, OnP m) ∧ 1 ≤ t.length ∧ t.length ≤ 4)
        (x := (a1, K, (m : Int), [], wr .i64 (1 + a), ())) ⟨a1, [], (1 + a).toNat, by rw [wrap_id (x := 1 + a) (by omega) (by omega), show (((1 + a).toNat : Nat) : Int) = 1 + a by omega], hs3.mono (by omega), by simp, by simp; omega, by simp; omega⟩ (by
          rintro x ⟨src, t, j, rfl, hsrc, ht, ht1, ht2⟩
          by_cases hj : 0 < j
          · right
            obtain ⟨p, p1, hP, p0, pl, hs4⟩ := e25 hsrc (by omega) (m := 24) (by omega) (by omega)
            obtain ⟨q, q1, hQ, q0, ql, hs5⟩ := e25 hs4 (by omega) (m := 24) (by omega) (by omega)
            refine ⟨(q1, K, (m : Int), t ++ [[p, q]], ((j - 1 : Nat) : Int), ()), ⟨q1, t ++ [[p, q]], j - 1, rfl, hs5.mono (by omega), fun v hv => ?_, by simp; omega, by simp; omega⟩, ?_, fun y => ?_⟩
            · rcases List.mem_append.1 hv with hv | hv
              · exact ht v hv
              · rw [List.mem_singleton.1 hv]; exact onP_pair (by omega) (by omega)
            · show ((j - 1 : Nat) : Int).toNat < (j : Int).toNat
              omega
            · refine Round.yes (decide_eq_true (show (j : Int) > 0 by omega)) (Round.bind hP (Round.bind hQ (Round.at (v := (0 : Int)) rfl (Round.at (v := (0 : Int)) rfl (Round.chk (decide_eq_true (by simp only [List.length_cons, List.length_nil]; omega)) (Round.inr _ ?_))))))
              rw [wrap_id (x := (j : Int) - 1) (by omega) (by omega), show (j : Int) - 1 = ((j - 1 : Nat) : Int) by omega, wrap16 (x := p) (by omega) (by omega), wrap16 (x := q) (by omega) (by omega)]
              rfl
          · left
            have hj0 : j = 0 := by omega
            subst hj0
            refine ⟨(src, K ++ [t], ((m - 1 : Nat) : Int), ()), ⟨src, t, rfl, hsrc.mono (by omega), ht, by omega, by omega⟩, fun y => ?_⟩
            refine Round.no (by simp) (Round.chk (decide_eq_true (by simp only [List.length_cons, List.length_nil]; omega)) (Round.inl _ ?_))
            rw [wrap_id (x := (m : Int) - 1) (by omega) (by omega), show (m : Int) - 1 = ((m - 1 : Nat) : Int) by omega])
      obtain ⟨z, ⟨src', t, rfl, hs6, ht, ht1, ht2⟩, hR⟩ := hin
      refine ⟨(src', K ++ [t], ((m - 1 : Nat) : Int), ()), ⟨src', K ++ [t], m - 1, rfl, hs6.mono (by omega), fun s hs => ?_, by simp; omega⟩, ?_, fun y => ?_⟩
      · rcases List.mem_append.1 hs with hs | hs
        · exact hK s hs
        · rw [List.mem_singleton.1 hs]; exact ⟨⟨ht1, ht2⟩, ht⟩
      · show ((m - 1 : Nat) : Int).toNat < (m : Int).toNat
        omega
      · exact Round.yes (decide_eq_true (show (m : Int) > 0 by omega)) (Round.bind hA (hR y))
    · left
      have hm0 : m = 0 := by omega
      subst hm0
      exact ⟨((K, ()), ()), ⟨by show K.length ≤ 4; omega, hK⟩, Round.no (by simp) (Round.done (Evt.some _))⟩
  obtain ⟨⟨⟨K, _⟩, _⟩, h1, hE⟩ := key
  exact ⟨K, hE, h1⟩
/- spec.P6Pick -/
theorem e6 {b : List Int} (hb : ∀ v ∈ b, 0 ≤ v ∧ v ≤ 255) (hl : (b.length : Int) ≤ 4096) {m : Int} (m1 : 1 ≤ m) (m2 : m ≤ 1000000) : ∃ v : Int, Evt (fun n => call T C n 6 (b, m, ())) ((v, ()), ()) ∧ 0 ≤ v ∧ v < m := by
  have h0 : SrcAt 0 ((b, 0, 0, ()) : Src) := ⟨hb, by show (b.length : Int) ≤ 1000000; omega, Int.le_refl _, Int.le_refl _⟩
  obtain ⟨v, s1, hE, v0, v1, _⟩ := e25 h0 (by omega) m1 m2
  refine ⟨v, Evt.next ?_ (fun n => r6 n b m), v0, v1⟩
  exact Evt.bind (e24 b) (Evt.bind hE (Evt.some _))
/- impl.inRange -/
theorem e29 (a b c : Int) : Evt (fun n => call T C n 29 (a, b, c, ())) ((inR a b c, ()), ()) := by
  refine Evt.next ?_ (fun n => r29 n a b c)
  refine Evt.ite (fun h => ?_) (fun h => ?_)
  · refine (Evt.some _).of_eq fun n => ?_
    have h : b ≤ a := of_decide_eq_true h
    simp [inR, h]
    rfl
  · refine (Evt.some _).of_eq fun n => ?_
    have h : ¬ b ≤ a := by simpa using h
    simp [inR, h]
    rfl
/- impl.ValidMark -/
theorem e53 (m : Mk) (h : m.length = 2) : Evt (fun n => call T C n 53 (m, ())) ((okMk m, ()), ()) := by
  have h0 := (g_idx (l := m) (i := 0) (by omega) (by omega)).get
  have h1 := (g_idx (l := m) (i := 1) (by omega) (by omega)).get
  refine Evt.next (Evt.chk rfl (Evt.at h0 (Evt.bind (e29 _ _ _) ?_))) (fun n => r53 n m)
  unfold okMk
  refine Evt.ite (fun hc => ?_) (fun hc => ?_)
  · have hc : inR (wr .i64 (g m 0)) 0 63 = true := hc
    rw [hc]
    exact Evt.chk rfl (Evt.at h1 (Evt.bind (e29 _ _ _) (Evt.some _)))
  · have hc : inR (wr .i64 (g m 0)) 0 63 = false := by
      have : ¬ inR (wr .i64 (g m 0)) 0 63 = true := hc
      simpa using this
    rw [hc]
    exact Evt.some _
/- impl.strokesCode$1$1 -/
theorem e64 (m : Mk) (h : m.length = 2) : Evt (fun n => call T C n 64 (m, ())) ((!okMk m, ()), ()) := Evt.next (Evt.bind (e53 m h) (Evt.some _)) (fun n => r64 n m)
/- slices.IndexFunc[impl.Stroke,impl.Mark]{impl.strokesCode$1$1} -/
theorem e85 (l : List Mk)  (hl' : (l.length : Int) ≤ 140737488351232) (hr : ∀ m ∈ l, m.length = 2) : Evt (fun n => call T C n 85 (l, ((), ()), ())) ((fi (fun v => !okMk v) l 0, ()), ()) := by
  have hl : (l.length : Int) ≤ 140737488351232 := hl'
  refine Evt.next ?_ (fun n => r85 n l ((), ()))
  refine for_evt' 0 (l.length : Int) (fun i (_ : Unit) => (l, ((), ()), (l.length : Int), i, ())) (fun i _ => fi (fun v => !okMk v) l 0 = fi (fun v => !okMk v) (l.drop i.toNat) i) (b0 := ()) rfl (by omega) (by simp) ?_ ?_
  · intro i _ h2 h3 hp
    obtain ⟨v, hv⟩ := at_of h2 h3
    rw [hv.drop] at hp
    simp only [fi] at hp
    refine Round.yes (decide_eq_true h3) (Round.at hv.idx (Round.bind (e64 v (hr v hv.mem)) ?_))
    cases hb : !okMk v with
    | true =>
      simp only [hb, if_true] at hp
      rw [hp]
      exact Round.yes rfl (Round.done (Evt.some _))
    | false =>
      simp only [hb, Bool.false_eq_true, if_false] at hp
      exact Round.no (by simp) (Round.again _ ⟨(), by rw [wr_succ h2 h3 (by omega)], hp⟩)
  · intro _ hp
    rw [drop_all] at hp
    rw [hp]
    exact Round.no (by simp) (Round.done (Evt.some _))
/- slices.ContainsFunc[impl.Stroke,impl.Mark]{impl.strokesCode$1$1} -/
theorem e63 (l : List Mk)  (hl' : (l.length : Int) ≤ 140737488351232) (hr : ∀ m ∈ l, m.length = 2) : Evt (fun n => call T C n 63 (l, ((), ()), ())) ((l.any (fun v => !okMk v), ()), ()) := by
  refine Evt.next (Evt.bind (e85 l  hl' hr) ((Evt.some _).of_eq fun n => ?_)) (fun n => r63 n l ((), ()))
  simp only [fi_any _ l 0 (Int.le_refl _)]
  rfl
/- impl.strokesCode$1 -/
theorem e62 (s : Stk) (hr : (s.length : Int) * 4 ≤ 140737488351232 ∧ ∀ m ∈ s, m.length = 2 ∧ ∀ v ∈ m, -32768 ≤ v ∧ v ≤ 32767) : Evt (fun n => call T C n 62 (s, ())) ((!okSk s, ()), ()) := by
  refine Evt.next (Evt.bind (e29 _ _ _) ?_) (fun n => r62 n s)
  unfold okSk
  cases h1 : inR (s.length : Int) 1 60 with
  | false => exact Evt.yes rfl (Evt.some _)
  | true =>
    refine Evt.no (by simp) (Evt.bind (e63 s (by omega) (fun m hm => (hr.2 m hm).1)) ((Evt.some _).of_eq fun n => ?_))
    have : (s.any fun v => !okMk v) = !s.all okMk := by simp [List.any_eq_not_all_not]
    rw [this]
    rfl
/- slices.IndexFunc[[]impl.Stroke,impl.Stroke]{impl.strokesCode$1} -/
theorem e84 (l : List Stk)  (hr : RngT l) : Evt (fun n => call T C n 84 (l, ((), ()), ())) ((fi (fun v => !okSk v) l 0, ()), ()) := by
  have hl : (l.length : Int) ≤ 140737488351232 := by have := hr.len'; omega
  refine Evt.next ?_ (fun n => r84 n l ((), ()))
  refine for_evt' 0 (l.length : Int) (fun i (_ : Unit) => (l, ((), ()), (l.length : Int), i, ())) (fun i _ => fi (fun v => !okSk v) l 0 = fi (fun v => !okSk v) (l.drop i.toNat) i) (b0 := ()) rfl (by omega) (by simp) ?_ ?_
  · intro i _ h2 h3 hp
    obtain ⟨v, hv⟩ := at_of h2 h3
    rw [hv.drop] at hp
    simp only [fi] at hp
    refine Round.yes (decide_eq_true h3) (Round.at hv.idx (Round.bind (e62 v (hr.el v hv.mem)) ?_))
    cases hb : !okSk v with
    | true =>
      simp only [hb, if_true] at hp
      rw [hp]
      exact Round.yes rfl (Round.done (Evt.some _))
    | false =>
      simp only [hb, Bool.false_eq_true, if_false] at hp
      exact Round.no (by simp) (Round.again _ ⟨(), by rw [wr_succ h2 h3 (by omega)], hp⟩)
  · intro _ hp
    rw [drop_all] at hp
    rw [hp]
    exact Round.no (by simp) (Round.done (Evt.some _))
/- slices.ContainsFunc[[]impl.Stroke,impl.Stroke]{impl.strokesCode$1} -/
theorem e61 (l : List Stk)  (hr : RngT l) : Evt (fun n => call T C n 61 (l, ((), ()), ())) ((l.any (fun v => !okSk v), ()), ()) := by
  refine Evt.next (Evt.bind (e84 l  hr) ((Evt.some _).of_eq fun n => ?_)) (fun n => r61 n l ((), ()))
  simp only [fi_any _ l 0 (Int.le_refl _)]
  rfl
/- impl.codeIf -/
theorem e28 (c : Bool) (v : Int) : Evt (fun n => call T C n 28 (c, v, ())) (((if c = true then v else 0), ()), ()) := by
  refine Evt.next ?_ (fun n => r28 n c v)
  cases c with
  | true => exact Evt.yes rfl (Evt.some _)
  | false => exact Evt.no (by simp) (Evt.some _)
/- impl.firstCode -/
theorem e26 (l : List Int) (hl : (l.length : Int) ≤ 140737488351232) : Evt (fun n => call T C n 26 (l, ())) ((fst0 l, ()), ()) := by
  refine Evt.next ?_ (fun n => r26 n l)
  refine loop_evt (fun (x : List Int × Int × Int × Unit) => x.1 = l ∧ x.2.1 = (l.length : Int) ∧ 0 ≤ x.2.2.1 ∧ x.2.2.1 ≤ (l.length : Int) ∧ fst0 l = fst0 (l.drop x.2.2.1.toNat)) (fun (x : List Int × Int × Int × Unit) => ((l.length : Int) - x.2.2.1).toNat) (x := (l, (l.length : Int), 0, ())) ⟨rfl, rfl, Int.le_refl _, by simp, by simp⟩ ?_
  rintro ⟨x1, m, i, _⟩ ⟨h', hm, h0, h1, h2⟩
  simp only at h' hm h0 h1 h2
  subst h'; subst hm
  refine Round.ite (fun hlt => ?_) (fun hge => ?_)
  · have hlt : i < (x1.length : Int) := of_decide_eq_true hlt
    obtain ⟨v, hv, hv'⟩ := idx_at h0 hlt
    have hd := drop_cons hv'
    refine Round.at hv (Round.ite (fun hb => ?_) (fun hb => ?_))
    · have hb : v ≠ 0 := by simpa using hb
      have h3 : fst0 x1 = v := by rw [h2, hd]; simp [fst0, hb]
      rw [h3]
      exact Round.done (Evt.some _)
    · have hb : v = 0 := by simpa using hb
      have hw : wr .i64 (i + 1) = i + 1 := wrap_id (by omega) (by omega)
      refine Round.again _ ⟨⟨rfl, rfl, ?_, ?_, ?_⟩, ?_⟩ <;> simp only [hw]
      · omega
      · omega
      · rw [h2, hd, show (i + 1).toNat = i.toNat + 1 by omega]
        simp [fst0, hb]
      · omega
  · have hge : ¬ i < (x1.length : Int) := by simpa using hge
    have : x1.drop i.toNat = [] := List.drop_of_length_le (by omega)
    rw [h2, this]
    exact Round.done (Evt.some _)
/- impl.strokesCode -/
theorem e27 (K : List Stk) (hr : RngT K) : Evt (fun n => call T C n 27 (K, ())) ((skCode K, ()), ()) := by
  refine Evt.next (Evt.bind (e61 K hr) (Evt.bind (e28 _ _) (Evt.bind (e28 _ _) (Evt.bind (e26 _ (by simp)) ((Evt.some _).of_eq fun n => ?_))))) (fun n => r27 n K)
  have : (K.any fun v => !okSk v) = !K.all okSk := by simp [List.any_eq_not_all_not]
  rw [this]
  unfold skCode
  by_cases h : (K.length : Int) > 20
  · rw [decide_eq_true h, if_pos h]
    cases K.all okSk <;> rfl
  · rw [decide_eq_false h, if_neg h]
    cases K.all okSk <;> rfl
/- impl.abs -/
theorem e76 {a : Int} (h1 : -1000000000000 ≤ a) (h2 : a ≤ 1000000000000) : Evt (fun n => call T C n 76 (a, ())) ((siz a, ()), ()) := by
  refine Evt.next ((Evt.some _).of_eq fun n => ?_) (fun n => r76 n a)
  rw [wrap_id (x := 0 - a) (by omega) (by omega)]
  unfold siz
  have : (if 0 - a > a then 0 - a else a) = if a < 0 then -a else a := by split <;> split <;> omega
  rw [this]
  rfl
/- impl.between -/
theorem e47 {a b : Mk} (ha : OnP a) (hb : OnP b) : Evt (fun n => call T C n 47 (a, b, ())) ((far a b, ()), ()) := by
  have hx := ha.x; have hy := ha.y; have kx := hb.x; have ky := hb.y
  refine Evt.next ?_ (fun n => r47 n a b)
  refine Evt.chk rfl (Evt.at hb.get0 (Evt.chk rfl (Evt.at ha.get0 ?_)))
  rw [wrap_id (x := g a 0) (by omega) (by omega), wrap_id (x := g b 0) (by omega) (by omega), wrap_id (by omega) (by omega)]
  refine Evt.bind (e76 (by omega) (by omega)) (Evt.chk rfl (Evt.at hb.get1 (Evt.chk rfl (Evt.at ha.get1 ?_))))
  rw [wrap_id (x := g a 1) (by omega) (by omega), wrap_id (x := g b 1) (by omega) (by omega), wrap_id (by omega) (by omega)]
  refine Evt.bind (e76 (by omega) (by omega)) ((Evt.some _).of_eq fun n => ?_)
  have e : ∀ x : Int, siz (-x) = siz x := fun x => by unfold siz; split <;> split <;> omega
  have e0 : siz (g b 0 - g a 0) = siz (g a 0 - g b 0) := by rw [← e, Int.neg_sub]
  have e1 : siz (g b 1 - g a 1) = siz (g a 1 - g b 1) := by rw [← e, Int.neg_sub]
  have : (if siz (g a 1 - g b 1) > siz (g a 0 - g b 0) then siz (g a 1 - g b 1) else siz (g a 0 - g b 0)) = far a b := by unfold far; split <;> omega
  simp only [e0, e1, this]
  rfl
/- impl.floorDiv -/
theorem e95 {a b : Int} (hb : 0 < b) (h1 : -4500000000000000000 ≤ a) (h2 : a ≤ 4500000000000000000) : Evt (fun n => call T C n 95 (a, b, ())) ((a / b, ()), ()) := by
  have hbd := ediv_bd hb h1 h2 (by omega)
  have he := floorDiv_eq (a := a) hb
  refine Evt.next (Evt.chk (bne_pos hb) (Evt.chk (bne_pos hb) (Evt.ite (fun h => ?_) (fun h => ?_)))) (fun n => r95 n a b)
  · have h : Int.tmod a b < 0 := of_decide_eq_true h
    rw [if_pos h] at he
    refine (Evt.some _).of_eq fun n => ?_
    rw [wrap_id (x := Int.tdiv a b) (by omega) (by omega), wrap_id (by omega) (by omega), he]
    rfl
  · have h : ¬ Int.tmod a b < 0 := by simpa using h
    rw [if_neg h] at he
    refine (Evt.some _).of_eq fun n => ?_
    rw [wrap_id (x := Int.tdiv a b) (by omega) (by omega), he]
    rfl
/- impl.nearest -/
theorem e86 {x n : Int} (hn : 0 < n) (hn' : n ≤ 10000000000000) (h1 : -2000000000000000000 ≤ x) (h2 : x ≤ 2000000000000000000) : Evt (fun m => call T C m 86 (x, n, ())) ((nr x n, ()), ()) := by
  refine Evt.next ?_ (fun m => r86 m x n)
  rw [wrap_id (x := 2 * n) (by omega) (by omega), wrap_id (x := 2 * x) (by omega) (by omega), wrap_id (x := 2 * x + n) (by omega) (by omega)]
  exact Evt.bind (e95 (by omega) (by omega) (by omega)) (Evt.some _)
/- impl.lineOf -/
theorem e65 {a b : Mk} (ha : OnP a) (hb : OnP b) : Evt (fun n => call T C n 65 (a, b, ())) ((lineM a b, ()), ()) := by
  obtain ⟨f0, f1, f2⟩ := far_bd ha hb
  refine Evt.next (Evt.bind (e47 ha hb) ?_) (fun n => r65 n a b)
  by_cases h : far a b = 0
  · have e : lineM a b = [a] := by unfold lineM; rw [if_pos h]
    rw [e]
    simp only [h]
    refine for_evt' 1 1 (fun i (_ : Unit) => (a, b, [a], 0, i, ())) (fun _ _ => True) (b0 := ()) rfl (by omega) trivial (fun i _ h2 h3 _ => by omega) (fun _ _ => ?_)
    exact Round.no (by simp) (Round.done (Evt.some _))
  have e : lineM a b = (List.range (far a b + 1).toNat).map fun k => ptM a b (k : Nat) := by unfold lineM; rw [if_neg h]
  rw [e]
  refine for_evt' 1 (far a b + 1) (fun i (_ : Unit) => (a, b, (List.range i.toNat).map (fun k => ptM a b (k : Nat)), far a b, i, ())) (fun _ _ => True) (b0 := ()) (by
    show (a, b, [a], far a b, 1, ()) = (a, b, [ptM a b 0], far a b, 1, ())
    rw [ptM_zero ha hb h]) (by omega) trivial ?_ ?_
  · intro i _ h2 h3 _
    refine Round.yes (decide_eq_true (show i ≤ far a b by omega)) ?_
    refine for_round' 0 2 (fun j (m : List Int) => (a, b, (List.range i.toNat).map (fun k => ptM a b (k : Nat)), far a b, i, m, j, ())) (fun j m => m = ((List.range j.toNat).map (fun u => pt a b i u)) ++ List.replicate (2 - j.toNat) 0) (b0 := List.replicate 2 0) rfl (by omega) (by simp) ?_ ?_
    · intro j m j0 j1 hm
      have hj : j = 0 ∨ j = 1 := by omega
      have hga := g_idx (l := a) j0 (by have := ha.len; omega)
      have hgb := g_idx (l := b) j0 (by have := hb.len; omega)
      have hu : j.toNat = 0 ∨ j.toNat = 1 := by omega
      have ba : 0 ≤ g a j.toNat ∧ g a j.toNat ≤ 63 := by rcases hu with e | e <;> rw [e]; exact ha.x; exact ha.y
      have bb : 0 ≤ g b j.toNat ∧ g b j.toNat ≤ 63 := by rcases hu with e | e <;> rw [e]; exact hb.x; exact hb.y
      have hk := kd_bd ha hb (show 0 ≤ i by omega) (by omega) hu
      have hp := pt_bd ha hb h (show 0 ≤ i by omega) (by omega) hu
      have hm2 : m.length = 2 := by rw [hm]; simp; omega
      have hgm := g_idx (l := m) j0 (by omega)
      have hn1 : 0 ≤ g a j.toNat * far a b ∧ g a j.toNat * far a b ≤ 63 * 63 := ⟨Int.mul_nonneg ba.1 f0, Int.mul_le_mul ba.2 f1 f0 (by omega)⟩
      show Round (fun n ag => if decide (j < 2) = true then _ else _) _ _
      simp only [wrap_id (x := j + 1) (by omega) (by omega)]
      refine Round.yes (decide_eq_true j1) (Round.chk (decide_eq_true (by omega)) (Round.at hga.get (Round.chk (decide_eq_true (by omega)) (Round.at hgb.get (Round.chk (decide_eq_true (by omega)) (Round.at hga.get ?_))))))
      simp only [wrap_id (x := g a j.toNat) (by omega) (by omega), wrap_id (x := g b j.toNat) (by omega) (by omega), wrap_id (x := g b j.toNat - g a j.toNat) (by omega) (by omega), wrap_id (x := i * (g b j.toNat - g a j.toNat)) (by omega) (by omega), wrap_id (x := g a j.toNat * far a b) (by omega) (by omega), wrap_id (x := g a j.toNat * far a b + i * (g b j.toNat - g a j.toNat)) (by omega) (by omega)]
      refine Round.bind (e86 (by omega) (by omega) (by omega) (by omega)) (Round.chk (decide_eq_true (by omega)) (Round.at hgm.get (Round.inr _ ⟨_, rfl, ?_⟩)))
      have hpt : nr (g a j.toNat * far a b + i * (g b j.toNat - g a j.toNat)) (far a b) = pt a b i j.toNat := nr_from (by omega)
      show m.set j.toNat (wr .i16 (nr (g a j.toNat * far a b + i * (g b j.toNat - g a j.toNat)) (far a b))) = _
      rw [hpt, wrap16 (by omega) (by omega), hm]
      rcases hj with rfl | rfl
      · rfl
      · rfl
    · intro m hm
      have hm : m = ptM a b i := hm
      refine Round.no (by simp) (Round.chk (decide_eq_true (by simp; omega)) (Round.inl _ ⟨(), ?_, trivial⟩))
      rw [hm, wrap_id (x := i + 1) (by omega) (by omega), show (i + 1).toNat = i.toNat + 1 by omega, List.range_succ, List.map_append]
      simp [show ((i.toNat : Nat) : Int) = i by omega]
  · intro _ _
    exact Round.no (by simp; omega) (Round.done (Evt.some _))
/- (*impl.planner).stand -/
theorem e31 (a : Mk) (S : List Stp) (most : Int) (m : Mk) (d : Bool) (hl : S.length ≤ 10000000) : Evt (fun n => call T C n 31 ((most, a, S, ()), m, d, ())) ((), ((most, m, S ++ [(m, d, ())], ()), ())) := Evt.next (Evt.chk (decide_eq_true (by simp; omega)) (Evt.some _)) (fun n => r31 n _ m d)
/- (*impl.planner).goUp -/
theorem e30 {a b : Mk} (S : List Stp) {most : Int} (ha : OnP a) (hb : OnP b) (m0 : 1 ≤ most) (m1 : most ≤ 63) (hS : S.length ≤ 1000000) : Evt (fun n => call T C n 30 ((most, a, S, ()), b, ())) ((), ((most, b, S ++ goL most.toNat false a b, ()), ())) := by
  have hlen := lineM_length ha hb
  obtain ⟨f0, f1, _⟩ := far_bd ha hb
  refine Evt.next (Evt.bind (e65 ha hb) ?_) (fun n => r30 n (most, a, S, ()) b)
  obtain ⟨L, hL⟩ := (⟨_, rfl⟩ : ∃ L, L = lineM a b)
  rw [← hL] at hlen
  have wn : wr .i64 ((L.length : Int) - 1) = (L.length : Int) - 1 := wrap_id (by omega) (by omega)
  show Evt (fun n => if (wr .i64 (((lineM a b).length : Int) - 1) == 0) = true then some ((), ((most, a, S, ()), ())) else loopK _ n ((most, a, S, ()), b, lineM a b, wr .i64 (((lineM a b).length : Int) - 1), most, ())) _
  rw [← hL, wn]
  have tot : goL most.toNat false a b = goF most.toNat false L 64 0 := by unfold goL; rw [← hL]
  rw [tot]
  refine Evt.ite (fun h => ?_) (fun h => ?_)
  · have h : (L.length : Int) - 1 = 0 := by simpa using h
    have := far_zero ha hb (by omega)
    subst this
    rw [goF_last _ _ _ _ (by omega), List.append_nil]
    exact Evt.some _
  have h : ¬ (L.length : Int) - 1 = 0 := by simpa using h
  refine loop_evt (fun x => ∃ (i f : Nat) (Q : List Stp) (cur : Mk), x = ((most, cur, Q, ()), b, L, (L.length : Int) - 1, (i : Int) + most, ()) ∧ i < L.length - 1 ∧ L.length - 1 - i ≤ f ∧ Q ++ goF most.toNat false L f i = S ++ goF most.toNat false L 64 0 ∧ Q.length ≤ S.length + i) (fun x => (((L.length : Int) - 1 + most) - x.2.2.2.2.1).toNat) ⟨0, 64, S, a, by simp, by omega, by omega, rfl, by omega⟩ ?_
  rintro x ⟨i, f, Q, cur, rfl, hi, hf, hq, hql⟩
  obtain ⟨f, rfl⟩ : ∃ f', f = f' + 1 := ⟨f - 1, by omega⟩
  rw [goF, if_pos hi] at hq
  show Round (fun n ag => if decide ((i : Int) + most < (L.length : Int) - 1) = true then _ else _) _ _
  refine Round.ite (fun hc => ?_) (fun hc => ?_)
  · have hc : (i : Int) + most < (L.length : Int) - 1 := of_decide_eq_true hc
    have hj : toJ most.toNat false L i = i + most.toNat := by unfold toJ; rw [if_neg (by simp)]; omega
    rw [hj] at hq
    have hat := gM_idx (L := L) (i := (i : Int) + most) (by omega) (by omega)
    rw [show ((i : Int) + most).toNat = i + most.toNat by omega] at hat
    refine Round.at hat.idx (Round.bind (e31 cur Q most (gM L (i + most.toNat)) false (by omega)) (Round.again _ ⟨⟨i + most.toNat, f, Q ++ [(gM L (i + most.toNat), false, ())], gM L (i + most.toNat), ?_, by omega, by omega, by rw [List.append_assoc]; exact hq, by rw [List.length_append, List.length_singleton]; omega⟩, ?_⟩))
    · show ((most, gM L (i + most.toNat), Q ++ [(gM L (i + most.toNat), false, ())], ()), b, L, (L.length : Int) - 1, wr .i64 ((i : Int) + most + most), ()) = _
      rw [wrap_id (x := (i : Int) + most + most) (by omega) (by omega), show (i : Int) + most + most = ((i + most.toNat : Nat) : Int) + most by omega]
    · show (((L.length : Int) - 1 + most) - wr .i64 ((i : Int) + most + most)).toNat < (((L.length : Int) - 1 + most) - ((i : Int) + most)).toNat
      rw [wrap_id (x := (i : Int) + most + most) (by omega) (by omega)]; omega
  · have hc : ¬ (i : Int) + most < (L.length : Int) - 1 := by simpa using hc
    have hj : toJ most.toNat false L i = L.length - 1 := by unfold toJ; rw [if_neg (by simp)]; omega
    have hla : gM L (L.length - 1) = b := by rw [hL]; exact line_last ha hb
    rw [hj, goF_last _ _ _ _ (by omega), hla] at hq
    rw [← hq]
    exact Round.done (Evt.bind (e31 cur Q most b false (by omega)) (Evt.some _))
/- slices.Equal[[]impl.Mark,impl.Mark] -/
theorem e66 (a b : Stk) (hl : (a.length : Int) ≤ 140737488351232) : Evt (fun n => call T C n 66 (a, b, ())) ((decide (a = b), ()), ()) := by
  refine Evt.next ?_ (fun n => r66 n a b)
  refine Evt.ite (fun h => ?_) (fun h => ?_)
  · have h : (a.length : Int) ≠ b.length := by simpa using h
    rw [decide_eq_false (fun e => h (by rw [e]))]; exact Evt.some _
  have h : a.length = b.length := by
    have h : (a.length : Int) = b.length := by simpa using h
    omega
  refine for_evt' 0 (a.length : Int) (fun i (_ : Unit) => (a, b, (a.length : Int), i, ())) (fun i _ => a.take i.toNat = b.take i.toNat) (b0 := ()) rfl (by omega) (by simp) ?_ ?_
  · intro i _ h2 h3 hp
    obtain ⟨u, hu⟩ := at_of h2 h3
    obtain ⟨v, hv⟩ := at_of (l := b) h2 (by omega)
    refine Round.yes (decide_eq_true h3) (Round.at hu.idx (Round.at hv.idx (Round.ite (fun hc => ?_) (fun hc => ?_))))
    · have hc : u ≠ v := by simpa using hc
      have : a ≠ b := fun e => by
        subst e
        have := hu.get
        rw [hv.get] at this
        exact hc (Option.some.inj this).symm
      rw [decide_eq_false this]
      exact Round.done (Evt.some _)
    · have hc : u = v := by simpa using hc
      refine Round.again _ ⟨(), ?_, by rw [hu.take, hv.take, hp, hc]⟩
      rw [wr_succ h2 h3 (by omega)]
  · intro _ hp
    rw [take_all, h, take_all] at hp
    rw [decide_eq_true hp]
    exact Round.no (by simp [h]) (Round.done (Evt.some _))
/- (*impl.planner).goDown -/
theorem e32 {a b : Mk} (S : List Stp) {most : Int} (ha : OnP a) (hb : OnP b) (m0 : 1 ≤ most) (m1 : most ≤ 63) (hS : S.length ≤ 1000000) : Evt (fun n => call T C n 32 ((most, a, S, ()), b, ())) ((), ((most, b, S ++ goL most.toNat true a b, ()), ())) := by
  have hlen := lineM_length ha hb
  obtain ⟨f0, f1, _⟩ := far_bd ha hb
  have hon := lineM_on ha hb
  refine Evt.next (Evt.bind (e65 ha hb) ?_) (fun n => r32 n (most, a, S, ()) b)
  obtain ⟨L, hL⟩ := (⟨_, rfl⟩ : ∃ L, L = lineM a b)
  rw [← hL] at hlen hon
  have wn : wr .i64 ((L.length : Int) - 1) = (L.length : Int) - 1 := wrap_id (by omega) (by omega)
  show Evt (fun n => loopK _ n ((most, a, S, ()), lineM a b, 0, ())) _
  rw [← hL]
  have tot : goL most.toNat true a b = goF most.toNat true L 64 0 := by unfold goL; rw [← hL]
  rw [tot]
  refine loop_evt (fun x => ∃ (i f : Nat) (Q : List Stp) (cur : Mk), x = ((most, cur, Q, ()), L, (i : Int), ()) ∧ i ≤ L.length - 1 ∧ L.length - 1 - i ≤ f ∧ Q ++ goF most.toNat true L f i = S ++ goF most.toNat true L 64 0 ∧ Q.length ≤ S.length + i ∧ (i = L.length - 1 → cur = b)) (fun x => (((L.length : Int) - 1) - x.2.2.1).toNat) ⟨0, 64, S, a, rfl, by omega, by omega, rfl, by omega, fun h => ?_⟩ ?_
  · exact far_zero ha hb (by omega)
  rintro x ⟨i, f, Q, cur, rfl, hi, hf, hq, hql, hcur⟩
  show Round (fun n ag => if decide ((i : Int) < wr .i64 ((L.length : Int) - 1)) = true then loopK _ n ((most, cur, Q, ()), L, (i : Int), (if wr .i64 ((L.length : Int) - 1) < wr .i64 ((i : Int) + most) then wr .i64 ((L.length : Int) - 1) else wr .i64 ((i : Int) + most)), ()) else _) _ _
  have him : wr .i64 ((i : Int) + most) = (i : Int) + most := wrap_id (by omega) (by omega)
  rw [wn, him]
  refine Round.ite (fun hc => ?_) (fun hc => ?_)
  · have hc : (i : Int) < (L.length : Int) - 1 := of_decide_eq_true hc
    obtain ⟨f, rfl⟩ : ∃ f', f = f' + 1 := ⟨f - 1, by omega⟩
    have hj := toJ_bd (most := most.toNat) (by omega) true ha hb (i := i) (by rw [← hL]; omega)
    rw [← hL] at hj
    obtain ⟨j, hje⟩ := (⟨_, rfl⟩ : ∃ j, j = toJ most.toNat true L i)
    rw [← hje] at hj
    rw [goF, if_pos (by omega), ← hje] at hq
    have hnext : ∃ (i' f' : Nat) (Q' : List Stp) (cur' : Mk), (((most, gM L j, Q ++ [(gM L j, true, ())], ()), L, (j : Int), ()) : (Int × (Mk × (List Stp × Unit))) × Stk × Int × Unit) = ((most, cur', Q', ()), L, (i' : Int), ()) ∧ i' ≤ L.length - 1 ∧ L.length - 1 - i' ≤ f' ∧ Q' ++ goF most.toNat true L f' i' = S ++ goF most.toNat true L 64 0 ∧ Q'.length ≤ S.length + i' ∧ (i' = L.length - 1 → cur' = b) := ⟨j, f, Q ++ [(gM L j, true, ())], gM L j, rfl, hj.2, by omega, by rw [List.append_assoc]; exact hq, by rw [List.length_append, List.length_singleton]; omega, fun e => by rw [e, hL]; exact line_last ha hb⟩
    have hμ : (((L.length : Int) - 1) - (j : Int)).toNat < (((L.length : Int) - 1) - (i : Int)).toNat := by omega
    have hjv : j = bkJ L i (min (i + most.toNat) (L.length - 1)) := by rw [hje]; unfold toJ; rw [if_pos rfl]
    have hmin : (if (L.length : Int) - 1 < (i : Int) + most then (L.length : Int) - 1 else (i : Int) + most) = ((min (i + most.toNat) (L.length - 1) : Nat) : Int) := by split <;> omega
    rw [hmin]
    refine loop_round (fun y => ∃ u : Nat, i < u ∧ u ≤ L.length - 1 ∧ bkJ L i u = j ∧ y = ((most, cur, Q, ()), L, (i : Int), (u : Int), ())) (fun y => y.2.2.2.1.toNat) ⟨min (i + most.toNat) (L.length - 1), by omega, by omega, hjv.symm, rfl⟩ ?_
    rintro y ⟨u, hu0, hu1, hub, rfl⟩
    have hiat := gM_idx (L := L) (i := (i : Int)) (by omega) (by omega)
    have huat := gM_idx (L := L) (i := (u : Int)) (by omega) (by omega)
    rw [Int.toNat_natCast] at hiat huat
    have w1 : wr .i64 ((u : Int) + 1) = (u : Int) + 1 := wrap_id (by omega) (by omega)
    have w2 : wr .i64 ((u : Int) - 1) = (u : Int) - 1 := wrap_id (by omega) (by omega)
    obtain ⟨u', rfl⟩ : ∃ u', u = u' + 1 := ⟨u - 1, by omega⟩
    have hll := lineM_len (hon _ hiat.mem) (hon _ huat.mem)
    refine Round.at hiat.idx (Round.at huat.idx (Round.bind (e65 (hon _ hiat.mem) (hon _ huat.mem)) ?_))
    show Round (fun n ag => chk (decide (0 ≤ (i : Int) ∧ (i : Int) ≤ wr .i64 (((u' + 1 : Nat) : Int) + 1) ∧ wr .i64 (((u' + 1 : Nat) : Int) + 1) ≤ (L.length : Int))) ((call T C n 66 (lineM (gM L i) (gM L (u' + 1)), ((L.take (Int.toNat (wr .i64 (((u' + 1 : Nat) : Int) + 1)))).drop (Int.toNat (i : Int))), ())).bind _)) _ _
    rw [w1]
    refine Round.chk (decide_eq_true (by omega)) ?_
    rw [show (((u' + 1 : Nat) : Int) + 1).toNat = u' + 2 by omega, Int.toNat_natCast]
    refine Round.bind (e66 _ _ (by omega)) (Round.ite (fun hd => ?_) (fun hd => ?_))
    · have hd : ¬ lineM (gM L i) (gM L (u' + 1)) = (L.take (u' + 2)).drop i := by simpa using hd
      rw [bkJ, if_neg hd] at hub
      refine Round.inr _ ⟨⟨u', ?_, by omega, hub, ?_⟩, ?_⟩
      · by_cases e : i = u'
        · subst e
          have h1 : (i : Int) < far a b := by omega
          have h2 := line_step ha hb h1
          rw [← hL] at h2
          exact absurd (by rw [h2, seg_two (by omega)]) hd
        · omega
      · show ((most, cur, Q, ()), L, (i : Int), wr .i64 (((u' + 1 : Nat) : Int) - 1), ()) = _
        rw [w2, show ((u' + 1 : Nat) : Int) - 1 = (u' : Int) by omega]
      · show (wr .i64 (((u' + 1 : Nat) : Int) - 1)).toNat < (((u' + 1 : Nat) : Int)).toNat
        rw [w2]; omega
    · have hd : lineM (gM L i) (gM L (u' + 1)) = (L.take (u' + 2)).drop i := by simpa using hd
      rw [bkJ, if_pos hd] at hub
      rw [← hub] at hnext hμ
      exact Round.at huat.idx (Round.bind (e31 cur Q most (gM L (u' + 1)) true (by omega)) (Round.inl _ ⟨hnext, hμ⟩))
  · have hc : ¬ (i : Int) < (L.length : Int) - 1 := by simpa using hc
    rw [goF_last _ _ _ _ (by omega), List.append_nil] at hq
    rw [← hq, hcur (by omega)]
    exact Round.done (Evt.some _)
/- slices.Clone[[]impl.Stop,impl.Stop] -/
theorem e33 (l : List Stp) (hl : (l.length : Int) ≤ 1000000) : Evt (fun n => call T C n 33 (l, ())) ((l, ()), ()) := by
  refine Evt.next (Evt.ite (fun _ => Evt.chk (by simp; omega) (Evt.some _)) (fun h => ?_)) (fun n => r33 n l)
  have h : l = [] := by
    have h : ¬ l.length ≠ 0 := by simpa using h
    exact List.eq_nil_of_length_eq_zero (by omega)
  subst h
  exact Evt.both (Evt.some _) (Evt.chk rfl (Evt.some _))
/- impl.PlanStops -/
theorem e7 (K : List Stk) (hr : RngT K) (most : Int) : Evt (fun n => call T C n 7 (K, most, ())) (psR K most, ()) := by
  refine Evt.next (Evt.bind (e27 K hr) (Evt.bind (e29 _ _ _) (Evt.bind (e28 _ _) (Evt.bind (e26 _ (by simp)) ?_)))) (fun n => r7 n K most)
  by_cases h : skCode K = 0
  · rw [h]
    cases hm : inR most 1 63 with
    | false =>
      have : psR K most = ([], 2, ()) := by unfold psR; rw [if_neg (by omega), if_pos hm]
      rw [this]
      exact Evt.yes rfl (Evt.some _)
    | true =>
      have hb := inR_iff.1 hm
      have : psR K most = if ((plP most.toNat K).length : Int) > 360 then ([], 4, ()) else (plP most.toNat K, 0, ()) := by unfold psR; rw [if_neg (by omega), if_neg (by rw [hm]; simp)]
      rw [this]
      have G := goodT hr h
      have hkl := G.len
      have hst : ∀ i : Nat, OnP (plF most.toNat (K.take i)).1 ∧ (plF most.toNat (K.take i)).2.length ≤ 4000 * 20 := fun i => by
        obtain ⟨a, b⟩ := plF_on (most := most.toNat) (K := K.take i) (fun s hs => G.el s (List.mem_of_mem_take hs))
        rw [List.length_take] at b
        exact ⟨a, by omega⟩
      refine Evt.no (by decide) ?_
      refine for_evt' 0 (K.length : Int) (fun i (_ : Unit) => ((most, (plF most.toNat (K.take i.toNat)).1, (plF most.toNat (K.take i.toNat)).2, ()), K, (K.length : Int), i, ())) (fun _ _ => True) (b0 := ()) rfl (by omega) trivial ?_ ?_
      · intro i _ h2 h3 _
        obtain ⟨s, hs⟩ := at_of h2 h3
        obtain ⟨gl, gm⟩ := G.el s hs.mem
        obtain ⟨hon, hln⟩ := hst i.toNat
        obtain ⟨st, hste⟩ := (⟨_, rfl⟩ : ∃ st, st = plF most.toNat (K.take i.toNat))
        rw [← hste] at hon hln ⊢
        have h0 := gM_idx (L := s) (i := 0) (Int.le_refl _) (by omega)
        have o0' : OnP (gM s 0) := gm _ h0.mem
        have g1 := goL_len most.toNat false st.1 (gM s 0)
        have hnext : plF most.toNat (K.take (i + 1).toNat) = stF most.toNat st s := by rw [hs.take, hste]; unfold plF; rw [List.foldl_append]; rfl
        refine Round.yes (decide_eq_true h3) (Round.at hs.idx (Round.at h0.idx (Round.bind (e30 st.2 hon o0' hb.1 hb.2 (by omega)) (Round.at h0.idx (Round.bind (e31 (gM s 0) (st.2 ++ goL most.toNat false st.1 (gM s 0)) most (gM s 0) true (by rw [List.length_append]; omega)) (Round.chk (decide_eq_true (by omega)) ?_))))))
        obtain ⟨st1, hst1⟩ := (⟨_, rfl⟩ : ∃ st1 : Mk × List Stp, st1 = (gM s 0, st.2 ++ goL most.toNat false st.1 (gM s 0) ++ [(gM s 0, true, ())]))
        have hst1l : st1.2.length ≤ 80100 := by rw [hst1]; simp only [List.length_append, List.length_singleton]; omega
        have htl : (s.take (Int.toNat (s.length : Int))).drop (Int.toNat 1) = s.drop 1 := by rw [take_all]; rfl
        obtain ⟨t, ht⟩ := (⟨_, rfl⟩ : ∃ t, t = s.drop 1)
        have htlen : t.length = s.length - 1 := by rw [ht, List.length_drop]
        have htm : ∀ m ∈ t, OnP m := fun m hm => gm m (List.mem_of_mem_drop (by rw [← ht]; exact hm))
        simp only [htl]
        rw [← ht]
        refine for_round' 0 (t.length : Int) (fun j (_ : Unit) => ((most, ((t.take j.toNat).foldl (drF most.toNat) st1).1, ((t.take j.toNat).foldl (drF most.toNat) st1).2, ()), K, (K.length : Int), i, t, (t.length : Int), j, ())) (fun _ _ => True) (b0 := ()) ?_ (by omega) trivial ?_ ?_
        · rw [hst1]
          rfl
        · intro j _ j2 j3 _
          obtain ⟨m, hm⟩ := at_of (l := t) j2 j3
          obtain ⟨a, b⟩ := drF_on (most := most.toNat) (l := t.take j.toNat) (fun x hx => htm x (List.mem_of_mem_take hx)) (st := st1) (by rw [hst1]; exact o0')
          rw [List.length_take] at b
          refine Round.yes (decide_eq_true j3) (Round.at hm.idx (Round.bind (e32 ((t.take j.toNat).foldl (drF most.toNat) st1).2 a (htm m hm.mem) hb.1 hb.2 (by omega)) (Round.inr _ ⟨(), ?_, trivial⟩)))
          rw [hm.take, List.foldl_append]
          show ((most, m, _ ++ goL most.toNat true _ m, ()), K, (K.length : Int), i, t, (t.length : Int), wr .i64 (j + 1), ()) = _
          rw [wrap_id (x := j + 1) (by omega) (by omega)]
          rfl
        · intro _ _
          rw [take_all]
          refine Round.no (by simp) (Round.inl _ ⟨(), ?_, trivial⟩)
          show ((most, (t.foldl (drF most.toNat) st1).1, (t.foldl (drF most.toNat) st1).2, ()), K, (K.length : Int), wr .i64 (i + 1), ()) = _
          rw [hnext, wr_succ h2 h3 (by omega), hst1, ht]
          rfl
      · intro _ _
        obtain ⟨hon, hln⟩ := hst (K.length : Int).toNat
        rw [take_all] at hon hln ⊢
        have g2 := goL_len most.toNat false (plF most.toNat K).1 o0
        refine Round.no (by simp) (Round.done (Evt.bind (e30 (plF most.toNat K).2 hon o0_on hb.1 hb.2 (by omega)) ?_))
        show Evt (fun n => if decide (((plP most.toNat K).length : Int) > 360) = true then _ else (call T C n 33 (plP most.toNat K, ())).bind _) _
        refine Evt.ite (fun h => ?_) (fun h => ?_)
        · rw [if_pos (of_decide_eq_true h)]; exact Evt.some _
        · have h : ¬ ((plP most.toNat K).length : Int) > 360 := by simpa using h
          rw [if_neg h]
          exact Evt.bind (e33 _ (by omega)) (Evt.some _)
  · have : psR K most = ([], skCode K, ()) := by unfold psR; rw [if_pos h]
    rw [this]
    have hf : fst0 [skCode K, if (!inR most 1 63) = true then 2 else 0] = skCode K := by simp [fst0, h]
    rw [hf]
    exact Evt.yes (by simpa using h) (Evt.some _)
/- spec.l00In -/
theorem e35 (a b c : Int) : Evt (fun n => call T C n 35 (a, b, c, ())) ((inR a b c, ()), ()) := by
  refine Evt.next ?_ (fun n => r35 n a b c)
  refine Evt.ite (fun h => ?_) (fun h => ?_)
  · refine (Evt.some _).of_eq fun n => ?_
    have h : b ≤ a := of_decide_eq_true h
    simp [inR, h]
    rfl
  · refine (Evt.some _).of_eq fun n => ?_
    have h : ¬ b ≤ a := by simpa using h
    simp [inR, h]
    rfl
/- spec.l07Mark -/
theorem e67 (m : Mk) (h : m.length = 2) : Evt (fun n => call T C n 67 (m, ())) ((okMk m, ()), ()) := by
  have h0 := (g_idx (l := m) (i := 0) (by omega) (by omega)).get
  have h1 := (g_idx (l := m) (i := 1) (by omega) (by omega)).get
  refine Evt.next (Evt.chk rfl (Evt.at h0 (Evt.bind (e35 _ _ _) ?_))) (fun n => r67 n m)
  unfold okMk
  refine Evt.ite (fun hc => ?_) (fun hc => ?_)
  · have hc : inR (wr .i64 (g m 0)) 0 63 = true := hc
    rw [hc]
    exact Evt.chk rfl (Evt.at h1 (Evt.bind (e35 _ _ _) (Evt.some _)))
  · have hc : inR (wr .i64 (g m 0)) 0 63 = false := by
      have : ¬ inR (wr .i64 (g m 0)) 0 63 = true := hc
      simpa using this
    rw [hc]
    exact Evt.some _
/- spec.l07Strokes -/
theorem e34 (K : List Stk) (hr : RngT K) : Evt (fun n => call T C n 34 (K, ())) ((skCode K, ()), ()) := by
  have hkl := hr.len'
  refine Evt.next ?_ (fun n => r34 n K)
  refine for_evt' 0 (K.length : Int) (fun i (_ : Unit) => (K, i, ())) (fun i _ => ∀ s ∈ K.take i.toNat, okSk s = true) (b0 := ()) rfl (by omega) (fun s hs => by simp at hs) ?_ ?_
  · intro i _ h2 h3 hp
    obtain ⟨s, hs⟩ := at_of h2 h3
    have hrs := hr.el s hs.mem
    have bad : okSk s = false → skCode K = 1 := fun h => by unfold skCode; rw [all_false hs.mem h]; rfl
    refine Round.yes (decide_eq_true h3) (Round.at hs.idx (Round.bind (e35 _ _ _) ?_))
    cases h1 : inR (s.length : Int) 1 60 with
    | false =>
      rw [bad (by unfold okSk; rw [h1]; rfl)]
      exact Round.yes rfl (Round.done (Evt.some _))
    | true =>
      refine Round.no (by simp) ?_
      refine for_round' 0 (s.length : Int) (fun j (_ : Unit) => (K, i, j, ())) (fun j _ => ∀ m ∈ s.take j.toNat, okMk m = true) (b0 := ()) rfl (by omega) (fun m hm => by simp at hm) ?_ ?_
      · intro j _ j2 j3 hq
        obtain ⟨m, hm⟩ := at_of j2 j3
        refine Round.at hs.idx (Round.yes (decide_eq_true j3) (Round.at hs.idx (Round.at hm.idx (Round.bind (e67 m (hrs.2 m hm.mem).1) (Round.ite (fun h => ?_) (fun h => ?_))))))
        · have h : okMk m = false := by simpa using h
          rw [bad (by unfold okSk; rw [all_false hm.mem h]; simp)]
          exact Round.done (Evt.some _)
        · have h : okMk m = true := by simpa using h
          refine Round.inr _ ⟨(), ?_, fun u hu => ?_⟩
          · show (K, i, wr .i64 (j + 1), ()) = _
            rw [wr_succ j2 j3 (by omega)]
          · rw [hm.take] at hu
            rcases List.mem_append.1 hu with hu | hu
            · exact hq u hu
            · have : u = m := by simpa using hu
              rw [this]; exact h
      · intro _ hq
        rw [take_all] at hq
        refine Round.at hs.idx (Round.no (by simp) (Round.inl _ ⟨(), ?_, fun u hu => ?_⟩))
        · show (K, wr .i64 (i + 1), ()) = _
          rw [wr_succ h2 h3 (by omega)]
        · rw [hs.take] at hu
          rcases List.mem_append.1 hu with hu | hu
          · exact hp u hu
          · have : u = s := by simpa using hu
            rw [this]
            unfold okSk
            rw [h1, List.all_eq_true.2 hq]; rfl
  · intro _ hp
    rw [take_all] at hp
    have : K.all okSk = true := List.all_eq_true.2 hp
    have hsk : skCode K = if (K.length : Int) > 20 then 3 else 0 := by unfold skCode; rw [this]; rfl
    rw [hsk]
    refine Round.no (by simp) (Round.ite (fun h => ?_) (fun h => ?_))
    · rw [if_pos (of_decide_eq_true h)]; exact Round.done (Evt.some _)
    · rw [if_neg (by simpa using h)]; exact Round.done (Evt.some _)
/- spec.l01Size -/
theorem e96 {a : Int} (h1 : -1000000000000 ≤ a) (h2 : a ≤ 1000000000000) : Evt (fun n => call T C n 96 (a, ())) ((siz a, ()), ()) := by
  refine Evt.next ?_ (fun n => r96 n a)
  unfold siz
  rw [wrap_id (x := 0 - a) (by omega) (by omega)]
  refine Evt.ite (fun h => ?_) (fun h => ?_)
  · rw [if_pos (of_decide_eq_true h), Int.zero_sub]; exact Evt.some _
  · rw [if_neg (by simpa using h)]; exact Evt.some _
/- spec.l00Max -/
theorem e39 (a b : Int) : Evt (fun n => call T C n 39 (a, b, ())) ((max a b, ()), ()) := by
  refine Evt.next (Evt.ite (fun h => ?_) (fun h => ?_)) (fun n => r39 n a b)
  · have h : a > b := of_decide_eq_true h
    rw [show max a b = a by omega]; exact Evt.some _
  · have h : ¬ a > b := by simpa using h
    rw [show max a b = b by omega]; exact Evt.some _
/- spec.l07Far -/
theorem e88 {a b : Mk} (ha : OnP a) (hb : OnP b) : Evt (fun n => call T C n 88 (a, b, ())) ((far a b, ()), ()) := by
  have hx := ha.x; have hy := ha.y; have kx := hb.x; have ky := hb.y
  refine Evt.next ?_ (fun n => r88 n a b)
  refine Evt.chk rfl (Evt.at ha.get0 (Evt.chk rfl (Evt.at hb.get0 ?_)))
  rw [wrap_id (x := g a 0) (by omega) (by omega), wrap_id (x := g b 0) (by omega) (by omega), wrap_id (by omega) (by omega)]
  refine Evt.bind (e96 (by omega) (by omega)) (Evt.chk rfl (Evt.at ha.get1 (Evt.chk rfl (Evt.at hb.get1 ?_))))
  rw [wrap_id (x := g a 1) (by omega) (by omega), wrap_id (x := g b 1) (by omega) (by omega), wrap_id (by omega) (by omega)]
  exact Evt.bind (e96 (by omega) (by omega)) (Evt.bind (e39 _ _) (Evt.some _))
/- spec.l01Near -/
theorem e89 {x n : Int} (hn : 0 < n) (hn' : n ≤ 10000000000000) (h1 : -2000000000000000000 ≤ x) (h2 : x ≤ 2000000000000000000) : Evt (fun m => call T C m 89 (x, n, ())) ((nr x n, ()), ()) := by
  have hbd := ediv_bd (a := 2 * x + n) (b := 2 * n) (M := 4500000000000000000) (by omega) (by omega) (by omega) (by omega)
  have he := floorDiv_eq (a := 2 * x + n) (b := 2 * n) (by omega)
  refine Evt.next ?_ (fun m => r89 m x n)
  rw [wrap_id (x := 2 * n) (by omega) (by omega), wrap_id (x := 2 * x) (by omega) (by omega), wrap_id (x := 2 * x + n) (by omega) (by omega)]
  refine Evt.chk (bne_pos (by omega)) (Evt.chk (bne_pos (by omega)) (Evt.ite (fun h => ?_) (fun h => ?_)))
  · have h : Int.tmod (2 * x + n) (2 * n) < 0 := of_decide_eq_true h
    rw [if_pos h] at he
    refine (Evt.some _).of_eq fun m => ?_
    rw [wrap_id (x := Int.tdiv (2 * x + n) (2 * n)) (by omega) (by omega), wrap_id (by omega) (by omega), he]
    rfl
  · have h : ¬ Int.tmod (2 * x + n) (2 * n) < 0 := by simpa using h
    rw [if_neg h] at he
    refine (Evt.some _).of_eq fun m => ?_
    rw [wrap_id (x := Int.tdiv (2 * x + n) (2 * n)) (by omega) (by omega), he]
    rfl
/- spec.l07Line -/
theorem e72 {a b : Mk} (ha : OnP a) (hb : OnP b) : Evt (fun n => call T C n 72 (a, b, ())) ((lineM a b, ()), ()) := by
  obtain ⟨f0, f1, f2⟩ := far_bd ha hb
  refine Evt.next (Evt.bind (e88 ha hb) (Evt.ite (fun h => ?_) (fun h => ?_))) (fun n => r72 n a b)
  · have h : far a b = 0 := by simpa using h
    unfold lineM; rw [if_pos h]; exact Evt.some _
  have h : far a b ≠ 0 := by simpa using h
  have e : lineM a b = (List.range (far a b + 1).toNat).map fun k => ptM a b (k : Nat) := by unfold lineM; rw [if_neg h]
  rw [e]
  refine for_evt' 0 (far a b + 1) (fun i (_ : Unit) => (a, b, far a b, (List.range i.toNat).map (fun k => ptM a b (k : Nat)), i, ())) (fun _ _ => True) (b0 := ()) rfl (by omega) trivial ?_ ?_
  · intro i _ h2 h3 _
    refine Round.yes (decide_eq_true (show i ≤ far a b by omega)) ?_
    refine for_round' 0 2 (fun j (m : List Int) => (a, b, far a b, (List.range i.toNat).map (fun k => ptM a b (k : Nat)), i, m, j, ())) (fun j m => m = ((List.range j.toNat).map (fun u => pt a b i u)) ++ List.replicate (2 - j.toNat) 0) (b0 := List.replicate 2 0) rfl (by omega) (by simp) ?_ ?_
    · intro j m j0 j1 hm
      have hj : j = 0 ∨ j = 1 := by omega
      have hga := g_idx (l := a) j0 (by have := ha.len; omega)
      have hgb := g_idx (l := b) j0 (by have := hb.len; omega)
      have hu : j.toNat = 0 ∨ j.toNat = 1 := by omega
      have ba : 0 ≤ g a j.toNat ∧ g a j.toNat ≤ 63 := by rcases hu with e | e <;> rw [e]; exact ha.x; exact ha.y
      have bb : 0 ≤ g b j.toNat ∧ g b j.toNat ≤ 63 := by rcases hu with e | e <;> rw [e]; exact hb.x; exact hb.y
      have hk := kd_bd ha hb h2 (by omega) hu
      have hp := pt_bd ha hb h h2 (by omega) hu
      have hm2 : m.length = 2 := by rw [hm]; simp; omega
      have hgm := g_idx (l := m) j0 (by omega)
      show Round (fun n ag => if decide (j < 2) = true then _ else _) _ _
      simp only [wrap_id (x := g a j.toNat) (by omega) (by omega), wrap_id (x := g b j.toNat) (by omega) (by omega), wrap_id (x := j + 1) (by omega) (by omega)]
      refine Round.yes (decide_eq_true j1) (Round.chk (decide_eq_true (by omega)) (Round.at hga.get (Round.chk (decide_eq_true (by omega)) (Round.at hgb.get (Round.chk (decide_eq_true (by omega)) (Round.at hga.get ?_))))))
      simp only [wrap_id (x := g a j.toNat) (by omega) (by omega), wrap_id (x := g b j.toNat) (by omega) (by omega), wrap_id (x := g b j.toNat - g a j.toNat) (by omega) (by omega), wrap_id (x := i * (g b j.toNat - g a j.toNat)) (by omega) (by omega)]
      refine Round.bind (e89 (by omega) (by omega) (by omega) (by omega)) (Round.chk (decide_eq_true (by omega)) (Round.at hgm.get (Round.inr _ ⟨_, rfl, ?_⟩)))
      have hpt : g a j.toNat + nr (i * (g b j.toNat - g a j.toNat)) (far a b) = pt a b i j.toNat := rfl
      show m.set j.toNat (wr .i16 (wr .i64 (g a j.toNat + nr (i * (g b j.toNat - g a j.toNat)) (far a b)))) = _
      rw [hpt, wrap_id (by omega) (by omega), wrap16 (by omega) (by omega), hm]
      rcases hj with rfl | rfl
      · rfl
      · rfl
    · intro m hm
      have hm : m = ptM a b i := hm
      refine Round.no (by simp) (Round.chk (decide_eq_true (by simp; omega)) (Round.inl _ ⟨(), ?_, trivial⟩))
      rw [hm, wrap_id (x := i + 1) (by omega) (by omega), show (i + 1).toNat = i.toNat + 1 by omega, List.range_succ, List.map_append]
      simp [show ((i.toNat : Nat) : Int) = i by omega]
  · intro _ _
    exact Round.no (by simp; omega) (Round.done (Evt.some _))
/- spec.l00Min -/
theorem e87 (a b : Int) : Evt (fun n => call T C n 87 (a, b, ())) ((min a b, ()), ()) := by
  refine Evt.next (Evt.ite (fun h => ?_) (fun h => ?_)) (fun n => r87 n a b)
  · have h : a < b := of_decide_eq_true h
    rw [show min a b = a by omega]; exact Evt.some _
  · have h : ¬ a < b := by simpa using h
    rw [show min a b = b by omega]; exact Evt.some _
/- spec.l07Marks -/
theorem e59 (a b : Stk) (hl : (a.length : Int) ≤ 140737488351232) : Evt (fun n => call T C n 59 (a, b, ())) ((decide (a = b), ()), ()) := by
  refine Evt.next ?_ (fun n => r59 n a b)
  refine Evt.ite (fun h => ?_) (fun h => ?_)
  · have h : (a.length : Int) ≠ b.length := by simpa using h
    rw [decide_eq_false (fun e => h (by rw [e]))]; exact Evt.some _
  have h : a.length = b.length := by
    have h : (a.length : Int) = b.length := by simpa using h
    omega
  refine for_evt' 0 (a.length : Int) (fun i (_ : Unit) => (a, b, i, ())) (fun i _ => a.take i.toNat = b.take i.toNat) (b0 := ()) rfl (by omega) (by simp) ?_ ?_
  · intro i _ h2 h3 hp
    obtain ⟨u, hu⟩ := at_of h2 h3
    obtain ⟨v, hv⟩ := at_of (l := b) h2 (by omega)
    refine Round.yes (decide_eq_true h3) (Round.at hu.idx (Round.at hv.idx (Round.ite (fun hc => ?_) (fun hc => ?_))))
    · have hc : u ≠ v := by simpa using hc
      have : a ≠ b := fun e => by
        subst e
        have := hu.get
        rw [hv.get] at this
        exact hc (Option.some.inj this).symm
      rw [decide_eq_false this]
      exact Round.done (Evt.some _)
    · have hc : u = v := by simpa using hc
      refine Round.again _ ⟨(), ?_, by rw [hu.take, hv.take, hp, hc]⟩
      rw [wr_succ h2 h3 (by omega)]
  · intro _ hp
    rw [take_all, h, take_all] at hp
    rw [decide_eq_true hp]
    exact Round.no (by simp) (Round.done (Evt.some _))
/- (*spec.l07Plan).stop -/
theorem e69 (a : Mk) (S : List Stp) (most : Int) (m : Mk) (d : Bool) (hl : S.length ≤ 10000000) : Evt (fun n => call T C n 69 ((a, S, most, ()), m, d, ())) ((), ((m, S ++ [(m, d, ())], most, ()), ())) := Evt.next (Evt.chk (decide_eq_true (by simp; omega)) (Evt.some _)) (fun n => r69 n _ m d)
/- (*spec.l07Plan).goTo -/
theorem e68 {a b : Mk} (S : List Stp) {most : Int} (down : Bool) (ha : OnP a) (hb : OnP b) (m0 : 1 ≤ most) (m1 : most ≤ 63) (hS : S.length ≤ 1000000) : Evt (fun n => call T C n 68 ((a, S, most, ()), b, down, ())) ((), ((b, S ++ goL most.toNat down a b, most, ()), ())) := by
  have hlen := lineM_length ha hb
  obtain ⟨f0, f1, _⟩ := far_bd ha hb
  have hon := lineM_on ha hb
  refine Evt.next (Evt.bind (e72 ha hb) ?_) (fun n => r68 n (a, S, most, ()) b down)
  obtain ⟨L, hL⟩ := (⟨_, rfl⟩ : ∃ L, L = lineM a b)
  rw [← hL] at hlen hon
  have wn : wr .i64 ((L.length : Int) - 1) = (L.length : Int) - 1 := wrap_id (by omega) (by omega)
  show Evt (fun n => loopK _ n ((a, S, most, ()), down, lineM a b, wr .i64 (((lineM a b).length : Int) - 1), 0, ())) _
  rw [← hL, wn]
  have tot : goL most.toNat down a b = goF most.toNat down L 64 0 := by unfold goL; rw [← hL]
  rw [tot]
  refine loop_evt (fun x => ∃ (i f : Nat) (Q : List Stp) (cur : Mk), x = ((cur, Q, most, ()), down, L, (L.length : Int) - 1, (i : Int), ()) ∧ i ≤ L.length - 1 ∧ L.length - 1 - i ≤ f ∧ Q ++ goF most.toNat down L f i = S ++ goF most.toNat down L 64 0 ∧ Q.length ≤ S.length + i ∧ (i = L.length - 1 → cur = b)) (fun x => (((L.length : Int) - 1) - x.2.2.2.2.1).toNat) ⟨0, 64, S, a, rfl, by omega, by omega, rfl, by omega, fun h => ?_⟩ ?_
  · exact far_zero ha hb (by omega)
  rintro x ⟨i, f, Q, cur, rfl, hi, hf, hq, hql, hcur⟩
  show Round (fun n ag => if decide ((i : Int) < (L.length : Int) - 1) = true then _ else _) _ _
  refine Round.ite (fun hc => ?_) (fun hc => ?_)
  · have hc : (i : Int) < (L.length : Int) - 1 := of_decide_eq_true hc
    obtain ⟨f, rfl⟩ : ∃ f', f = f' + 1 := ⟨f - 1, by omega⟩
    have hj := toJ_bd (most := most.toNat) (by omega) down ha hb (i := i) (by rw [← hL]; omega)
    rw [← hL] at hj
    obtain ⟨j, hje⟩ := (⟨_, rfl⟩ : ∃ j, j = toJ most.toNat down L i)
    rw [← hje] at hj
    rw [goF, if_pos (by omega), ← hje] at hq
    have hjat := gM_idx (L := L) (i := (j : Int)) (by omega) (by omega)
    rw [Int.toNat_natCast] at hjat
    have him : wr .i64 ((i : Int) + most) = (i : Int) + most := wrap_id (by omega) (by omega)
    refine Round.bind (v := ((min ((i : Int) + most) ((L.length : Int) - 1), ()), ())) (by
      show Evt (fun n => call T C n 87 (wr .i64 ((i : Int) + most), (L.length : Int) - 1, ())) _
      rw [him]; exact e87 _ _) ?_
    have hnext : ∃ (i' f' : Nat) (Q' : List Stp) (cur' : Mk), (((gM L j, Q ++ [(gM L j, down, ())], most, ()), down, L, (L.length : Int) - 1, (j : Int), ()) : (Mk × (List Stp × (Int × Unit))) × Bool × Stk × Int × Int × Unit) = ((cur', Q', most, ()), down, L, (L.length : Int) - 1, (i' : Int), ()) ∧ i' ≤ L.length - 1 ∧ L.length - 1 - i' ≤ f' ∧ Q' ++ goF most.toNat down L f' i' = S ++ goF most.toNat down L 64 0 ∧ Q'.length ≤ S.length + i' ∧ (i' = L.length - 1 → cur' = b) := ⟨j, f, Q ++ [(gM L j, down, ())], gM L j, rfl, hj.2, by omega, by rw [List.append_assoc]; exact hq, by rw [List.length_append, List.length_singleton]; omega, fun e => by rw [e, hL]; exact line_last ha hb⟩
    have hμ : (((L.length : Int) - 1) - (j : Int)).toNat < (((L.length : Int) - 1) - (i : Int)).toNat := by omega
    cases down with
    | false =>
      have hjv : (j : Int) = min ((i : Int) + most) ((L.length : Int) - 1) := by rw [hje]; unfold toJ; rw [if_neg (by simp)]; omega
      refine loop_round (fun y => y = ((cur, Q, most, ()), false, L, (L.length : Int) - 1, (i : Int), (j : Int), ())) (fun _ => 0) (by rw [hjv]) ?_
      rintro y rfl
      exact Round.no (by simp) (Round.at hjat.idx (Round.bind (e69 cur Q most (gM L j) false (by omega)) (Round.inl _ ⟨hnext, hμ⟩)))
    | true =>
      have hjv : j = bkJ L i (min (i + most.toNat) (L.length - 1)) := by rw [hje]; unfold toJ; rw [if_pos rfl]
      refine loop_round (fun y => ∃ u : Nat, i < u ∧ u ≤ L.length - 1 ∧ bkJ L i u = j ∧ y = ((cur, Q, most, ()), true, L, (L.length : Int) - 1, (i : Int), (u : Int), ())) (fun y => y.2.2.2.2.2.1.toNat) ⟨min (i + most.toNat) (L.length - 1), by omega, by omega, hjv.symm, by
        show _ = ((cur, Q, most, ()), true, L, (L.length : Int) - 1, (i : Int), ((min (i + most.toNat) (L.length - 1) : Nat) : Int), ())
        rw [show ((min (i + most.toNat) (L.length - 1) : Nat) : Int) = min ((i : Int) + most) ((L.length : Int) - 1) by omega]⟩ ?_
      rintro y ⟨u, hu0, hu1, hub, rfl⟩
      have hiat := gM_idx (L := L) (i := (i : Int)) (by omega) (by omega)
      have huat := gM_idx (L := L) (i := (u : Int)) (by omega) (by omega)
      rw [Int.toNat_natCast] at hiat huat
      have w1 : wr .i64 ((u : Int) + 1) = (u : Int) + 1 := wrap_id (by omega) (by omega)
      have w2 : wr .i64 ((u : Int) - 1) = (u : Int) - 1 := wrap_id (by omega) (by omega)
      obtain ⟨u', rfl⟩ : ∃ u', u = u' + 1 := ⟨u - 1, by omega⟩
      have hll := lineM_len (hon _ hiat.mem) (hon _ huat.mem)
      refine Round.yes rfl (Round.at hiat.idx (Round.at huat.idx (Round.bind (e72 (hon _ hiat.mem) (hon _ huat.mem)) ?_)))
      show Round (fun n ag => chk (decide (0 ≤ (i : Int) ∧ (i : Int) ≤ wr .i64 (((u' + 1 : Nat) : Int) + 1) ∧ wr .i64 (((u' + 1 : Nat) : Int) + 1) ≤ (L.length : Int))) ((call T C n 59 (lineM (gM L i) (gM L (u' + 1)), ((L.take (Int.toNat (wr .i64 (((u' + 1 : Nat) : Int) + 1)))).drop (Int.toNat (i : Int))), ())).bind _)) _ _
      rw [w1]
      refine Round.chk (decide_eq_true (by omega)) ?_
      rw [show (((u' + 1 : Nat) : Int) + 1).toNat = u' + 2 by omega, Int.toNat_natCast]
      refine Round.bind (e59 _ _ (by omega)) (Round.ite (fun hd => ?_) (fun hd => ?_))
      · have hd : ¬ lineM (gM L i) (gM L (u' + 1)) = (L.take (u' + 2)).drop i := by simpa using hd
        rw [bkJ, if_neg hd] at hub
        refine Round.inr _ ⟨⟨u', ?_, by omega, hub, ?_⟩, ?_⟩
        · by_cases e : i = u'
          · subst e
            have h1 : (i : Int) < far a b := by omega
            have h2 := line_step ha hb h1
            rw [← hL] at h2
            exact absurd (by rw [h2, seg_two (by omega)]) hd
          · omega
        · show ((cur, Q, most, ()), true, L, (L.length : Int) - 1, (i : Int), wr .i64 (((u' + 1 : Nat) : Int) - 1), ()) = _
          rw [w2, show ((u' + 1 : Nat) : Int) - 1 = (u' : Int) by omega]
        · show (wr .i64 (((u' + 1 : Nat) : Int) - 1)).toNat < (((u' + 1 : Nat) : Int)).toNat
          rw [w2]; omega
      · have hd : lineM (gM L i) (gM L (u' + 1)) = (L.take (u' + 2)).drop i := by simpa using hd
        rw [bkJ, if_pos hd] at hub
        rw [← hub] at hnext hμ
        exact Round.at huat.idx (Round.bind (e69 cur Q most (gM L (u' + 1)) true (by omega)) (Round.inl _ ⟨hnext, hμ⟩))
  · have hc : ¬ (i : Int) < (L.length : Int) - 1 := by simpa using hc
    rw [goF_last _ _ _ _ (by omega), List.append_nil] at hq
    rw [← hq, hcur (by omega)]
    exact Round.done (Evt.some _)
/- spec.l07Planned -/
theorem e36 (K : List Stk) {most : Int} (G : GoodT K) (m0 : 1 ≤ most) (m1 : most ≤ 63) : Evt (fun n => call T C n 36 (K, most, ())) ((plP most.toNat K, ()), ()) := by
  have hkl := G.len
  refine Evt.next ?_ (fun n => r36 n K most)
  have hst : ∀ i : Nat, OnP (plF most.toNat (K.take i)).1 ∧ (plF most.toNat (K.take i)).2.length ≤ 4000 * 20 := fun i => by
    obtain ⟨a, b⟩ := plF_on (most := most.toNat) (K := K.take i) (fun s hs => G.el s (List.mem_of_mem_take hs))
    rw [List.length_take] at b
    exact ⟨a, by omega⟩
  refine for_evt' 0 (K.length : Int) (fun i (_ : Unit) => (K, ((plF most.toNat (K.take i.toNat)).1, (plF most.toNat (K.take i.toNat)).2, most, ()), i, ())) (fun _ _ => True) (b0 := ()) rfl (by omega) trivial ?_ ?_
  · intro i _ h2 h3 _
    obtain ⟨s, hs⟩ := at_of h2 h3
    obtain ⟨gl, gm⟩ := G.el s hs.mem
    obtain ⟨hon, hln⟩ := hst i.toNat
    obtain ⟨st, hste⟩ := (⟨_, rfl⟩ : ∃ st, st = plF most.toNat (K.take i.toNat))
    rw [← hste] at hon hln ⊢
    have h0 := gM_idx (L := s) (i := 0) (Int.le_refl _) (by omega)
    have o0' : OnP (gM s 0) := gm _ h0.mem
    have g1 := goL_len most.toNat false st.1 (gM s 0)
    have hnext : plF most.toNat (K.take (i + 1).toNat) = stF most.toNat st s := by rw [hs.take, hste]; unfold plF; rw [List.foldl_append]; rfl
    refine Round.yes (decide_eq_true h3) (Round.at hs.idx (Round.at h0.idx (Round.bind (e68 st.2 false hon o0' m0 m1 (by omega)) (Round.at hs.idx (Round.at h0.idx (Round.bind (e69 (gM s 0) (st.2 ++ goL most.toNat false st.1 (gM s 0)) most (gM s 0) true (by rw [List.length_append]; omega)) ?_))))))
    obtain ⟨st1, hst1⟩ := (⟨_, rfl⟩ : ∃ st1 : Mk × List Stp, st1 = (gM s 0, st.2 ++ goL most.toNat false st.1 (gM s 0) ++ [(gM s 0, true, ())]))
    have hst1l : st1.2.length ≤ 80100 := by rw [hst1]; simp only [List.length_append, List.length_singleton]; omega
    refine for_round' 1 (s.length : Int) (fun j (_ : Unit) => (K, ((((s.take j.toNat).drop 1).foldl (drF most.toNat) st1).1, (((s.take j.toNat).drop 1).foldl (drF most.toNat) st1).2, most, ()), i, j, ())) (fun _ _ => True) (b0 := ()) ?_ (by omega) trivial ?_ ?_
    · have : (s.take (1 : Int).toNat).drop 1 = [] := List.drop_of_length_le (by simp; omega)
      rw [this, hst1]
      rfl
    · intro j _ j2 j3 _
      obtain ⟨m, hm⟩ := at_of (l := s) (show 0 ≤ j by omega) j3
      have hd : (s.take (j + 1).toNat).drop 1 = (s.take j.toNat).drop 1 ++ [m] := by
        rw [hm.take, List.drop_append_of_le_length (by simp; omega)]
      obtain ⟨a, b⟩ := drF_on (most := most.toNat) (l := (s.take j.toNat).drop 1) (fun x hx => gm x (List.mem_of_mem_take (List.mem_of_mem_drop hx))) (st := st1) (by rw [hst1]; exact o0')
      rw [List.length_drop, List.length_take] at b
      refine Round.at hs.idx (Round.yes (decide_eq_true j3) (Round.at hs.idx (Round.at hm.idx (Round.bind (e68 (((s.take j.toNat).drop 1).foldl (drF most.toNat) st1).2 true a (gm m hm.mem) m0 m1 (by omega)) (Round.inr _ ⟨(), ?_, trivial⟩)))))
      rw [hd, List.foldl_append]
      show (K, (m, _ ++ goL most.toNat true _ m, most, ()), i, wr .i64 (j + 1), ()) = _
      rw [wrap_id (x := j + 1) (by omega) (by omega)]
      rfl
    · intro _ _
      rw [take_all]
      refine Round.at hs.idx (Round.no (by simp) (Round.inl _ ⟨(), ?_, trivial⟩))
      show (K, (((s.drop 1).foldl (drF most.toNat) st1).1, ((s.drop 1).foldl (drF most.toNat) st1).2, most, ()), wr .i64 (i + 1), ()) = _
      rw [hnext, wr_succ h2 h3 (by omega), hst1]
      rfl
  · intro _ _
    obtain ⟨hon, hln⟩ := hst (K.length : Int).toNat
    rw [take_all] at hon hln ⊢
    exact Round.no (by simp) (Round.done (Evt.bind (e68 (plF most.toNat K).2 false hon o0_on m0 m1 (by omega)) (Evt.some _)))
/- spec.PlanStops -/
theorem e8 (K : List Stk) (hr : RngT K) (most : Int) : Evt (fun n => call T C n 8 (K, most, ())) (psR K most, ()) := by
  refine Evt.next (Evt.bind (e34 K hr) (Evt.ite (fun h => ?_) (fun h => ?_))) (fun n => r8 n K most)
  · have h : skCode K = 0 := by simpa using h
    refine Evt.bind (e35 _ _ _) (Evt.ite (fun hm => ?_) (fun hm => ?_))
    · have hm : inR most 1 63 = false := by simpa using hm
      have : psR K most = ([], 2, ()) := by unfold psR; rw [if_neg (by omega), if_pos hm]
      rw [this]
      exact Evt.yes rfl (Evt.some _)
    · have hm : inR most 1 63 = true := by simpa using hm
      have hb := inR_iff.1 hm
      have : psR K most = if ((plP most.toNat K).length : Int) > 360 then ([], 4, ()) else (plP most.toNat K, 0, ()) := by unfold psR; rw [if_neg (by omega), if_neg (by rw [hm]; simp)]
      rw [this]
      refine Evt.no (by rw [h]; simp) (Evt.bind (e36 K (goodT hr h) hb.1 hb.2) (Evt.ite (fun h => ?_) (fun h => ?_)))
      · rw [if_pos (of_decide_eq_true h)]; exact Evt.some _
      · rw [if_neg (by simpa using h)]; exact Evt.some _
  · have h : skCode K ≠ 0 := by simpa using h
    have : psR K most = ([], skCode K, ()) := by unfold psR; rw [if_pos h]
    rw [this]
    exact Evt.yes (by simpa using h) (Evt.some _)
/- impl.isPlace -/
theorem e70 (a b : Int) : Evt (fun n => call T C n 70 (a, b, ())) ((inR a 0 (wr .i64 (b - 1)), ()), ()) := Evt.next (Evt.bind (e29 _ _ _) (Evt.some _)) (fun n => r70 n a b)
/- impl.machineFor -/
theorem e37 (l : List Stp) (he : ∀ v ∈ l, v.1.length = 2) {m : Int} (h0 : 0 ≤ m) (h1 : m ≤ 1000) (hl : (l.length : Int) ≤ 1000) : Evt (fun n => call T C n 37 (l, m, ())) ((mfR l m.toNat, ()), ()) := by
  refine Evt.next ?_ (fun n => r37 n l m)
  refine for_evt' 0 m (fun i (_ : Unit) => (l, (([], [], [], ()) : Mch), mfR l i.toNat, m, i, ())) (fun _ _ => True) (b0 := ()) rfl h0 trivial ?_ ?_
  · intro i _ h2 h3 _
    have l1 : ((mfR l i.toNat).1.length : Int) ≤ 1000 := by simp [mfR]; omega
    have l2 : ((mfR l i.toNat).2.1.length : Int) ≤ 1000 := by simp [mfR]; omega
    have l3 : ((mfR l i.toNat).2.2.1.length : Int) ≤ 1000 := by simp [mfR]; omega
    have e : mfR l (i + 1).toNat = ((mfR l i.toNat).1 ++ [g (gS l i.toNat).1 0], (mfR l i.toNat).2.1 ++ [g (gS l i.toNat).1 1], (mfR l i.toNat).2.2.1 ++ [pen (gS l i.toNat)], ()) := by rw [show (i + 1).toNat = i.toNat + 1 by omega, mfR_succ]
    refine Round.yes (decide_eq_true h3) ?_
    have two : ∀ v : Mk, v.length = 2 → v[(Int.toNat 0)]? = some (g v 0) ∧ v[(Int.toNat 1)]? = some (g v 1) := fun v hv => ⟨(g_idx (l := v) (i := 0) (by omega) (by omega)).get, (g_idx (l := v) (i := 1) (by omega) (by omega)).get⟩
    refine Round.bind (e70 i (l.length : Int)) ?_
    have wl : wr .i64 ((l.length : Int) - 1) = (l.length : Int) - 1 := wrap_id (by omega) (by omega)
    rw [wl]
    refine Round.ite (fun hc => ?_) (fun hc => ?_)
    rotate_left
    all_goals (first | (have hc : i < (l.length : Int) := by have := inR_iff.1 hc; omega) | (have hc : ¬ i < (l.length : Int) := fun h => hc (inR_iff.2 ⟨h2, by omega⟩)))
    rotate_left
    · have hv := gS_idx (l := l) h2 hc
      obtain ⟨t0, t1⟩ := two (gS l i.toNat).1 (he _ hv.mem)
      refine Round.at hv.idx (Round.ite (fun hd => ?_) (fun hd => ?_))
      · have hp : pen (gS l i.toNat) = 0 := by unfold pen; exact if_pos hd
        refine Round.chk rfl (Round.at t0 (Round.chk (decide_eq_true (by simp; omega)) (Round.chk rfl (Round.at t1 (Round.chk (decide_eq_true (by simp; omega)) (Round.chk (decide_eq_true (by simp; omega)) (Round.again _ ⟨(), ?_, trivial⟩)))))))
        rw [wr_succ h2 h3 (by omega), e, hp]
      · have hp : pen (gS l i.toNat) = 1 := by unfold pen; exact if_neg hd
        refine Round.chk rfl (Round.at t0 (Round.chk (decide_eq_true (by simp; omega)) (Round.chk rfl (Round.at t1 (Round.chk (decide_eq_true (by simp; omega)) (Round.chk (decide_eq_true (by simp; omega)) (Round.again _ ⟨(), ?_, trivial⟩)))))))
        rw [wr_succ h2 h3 (by omega), e, hp]
    · have hg := gS_out (l := l) (i := i.toNat) (by omega)
      refine Round.chk rfl (Round.at (v := (0 : Int)) rfl (Round.chk (decide_eq_true (by simp; omega)) (Round.chk rfl (Round.at (v := (0 : Int)) rfl (Round.chk (decide_eq_true (by simp; omega)) (Round.chk (decide_eq_true (by simp; omega)) (Round.again _ ⟨(), ?_, trivial⟩)))))))
      rw [wr_succ h2 h3 (by omega), e, hg]
      rfl
  · intro _ _
    exact Round.no (by simp) (Round.done (Evt.some _))
/- impl.CompileStrokes -/
theorem e9 (K : List Stk) (hr : RngT K) (most : Int) : Evt (fun n => call T C n 9 (K, most, ())) (csR K most, ()) := by
  have hl := psR_len K most
  refine Evt.next (Evt.bind (e7 K hr most) (Evt.ite (fun h => ?_) (fun h => ?_))) (fun n => r9 n K most)
  · have h : (psR K most).2.1 ≠ 0 := by simpa using h
    have : csR K most = (([], [], [], ()), (psR K most).2.1, ()) := by unfold csR; rw [if_pos h]
    rw [this]; exact Evt.some _
  · have h : (psR K most).2.1 = 0 := by simpa using h
    have : csR K most = (mfR (psR K most).1 (max 8 (psR K most).1.length), 0, ()) := by unfold csR; rw [if_neg (by omega)]
    rw [this]
    have hm : (if ((psR K most).1.length : Int) > 8 then ((psR K most).1.length : Int) else 8) = max 8 ((psR K most).1.length : Int) := by split <;> omega
    show Evt (fun n => (call T C n 37 ((psR K most).1, (if ((psR K most).1.length : Int) > 8 then ((psR K most).1.length : Int) else 8), ())).bind _) _
    rw [hm]
    refine Evt.bind (e37 (psR K most).1 (psR_el hr most) (m := max 8 ((psR K most).1.length : Int)) (by omega) (by omega) (by omega)) ?_
    rw [show (max 8 ((psR K most).1.length : Int)).toNat = max 8 (psR K most).1.length by omega]
    exact Evt.some _
/- spec.l07For -/
theorem e38 (l : List Stp) (he : ∀ v ∈ l, v.1.length = 2) {m : Int} (h0 : 0 ≤ m) (h1 : m ≤ 1000) (hl : (l.length : Int) ≤ 1000) : Evt (fun n => call T C n 38 (l, m, ())) ((mfR l m.toNat, ()), ()) := by
  refine Evt.next ?_ (fun n => r38 n l m)
  refine for_evt' 0 m (fun i (_ : Unit) => (l, m, (([], [], [], ()) : Mch), mfR l i.toNat, i, ())) (fun _ _ => True) (b0 := ()) rfl h0 trivial ?_ ?_
  · intro i _ h2 h3 _
    have l1 : ((mfR l i.toNat).1.length : Int) ≤ 1000 := by simp [mfR]; omega
    have l2 : ((mfR l i.toNat).2.1.length : Int) ≤ 1000 := by simp [mfR]; omega
    have l3 : ((mfR l i.toNat).2.2.1.length : Int) ≤ 1000 := by simp [mfR]; omega
    have e : mfR l (i + 1).toNat = ((mfR l i.toNat).1 ++ [g (gS l i.toNat).1 0], (mfR l i.toNat).2.1 ++ [g (gS l i.toNat).1 1], (mfR l i.toNat).2.2.1 ++ [pen (gS l i.toNat)], ()) := by rw [show (i + 1).toNat = i.toNat + 1 by omega, mfR_succ]
    refine Round.yes (decide_eq_true h3) ?_
    have two : ∀ v : Mk, v.length = 2 → v[(Int.toNat 0)]? = some (g v 0) ∧ v[(Int.toNat 1)]? = some (g v 1) := fun v hv => ⟨(g_idx (l := v) (i := 0) (by omega) (by omega)).get, (g_idx (l := v) (i := 1) (by omega) (by omega)).get⟩
    refine Round.ite (fun hc => ?_) (fun hc => ?_)
    rotate_left
    all_goals (first | (have hc : i < (l.length : Int) := of_decide_eq_true hc) | (have hc : ¬ i < (l.length : Int) := by simpa using hc))
    rotate_left
    · have hv := gS_idx (l := l) h2 hc
      obtain ⟨t0, t1⟩ := two (gS l i.toNat).1 (he _ hv.mem)
      refine Round.at hv.idx (Round.at hv.idx (Round.ite (fun hd => ?_) (fun hd => ?_)))
      · have hp : pen (gS l i.toNat) = 0 := by unfold pen; exact if_pos hd
        refine Round.chk rfl (Round.at t0 (Round.chk (decide_eq_true (by simp; omega)) (Round.chk rfl (Round.at t1 (Round.chk (decide_eq_true (by simp; omega)) (Round.chk (decide_eq_true (by simp; omega)) (Round.again _ ⟨(), ?_, trivial⟩)))))))
        rw [wr_succ h2 h3 (by omega), e, hp]
      · have hp : pen (gS l i.toNat) = 1 := by unfold pen; exact if_neg hd
        refine Round.chk rfl (Round.at t0 (Round.chk (decide_eq_true (by simp; omega)) (Round.chk rfl (Round.at t1 (Round.chk (decide_eq_true (by simp; omega)) (Round.chk (decide_eq_true (by simp; omega)) (Round.again _ ⟨(), ?_, trivial⟩)))))))
        rw [wr_succ h2 h3 (by omega), e, hp]
    · have hg := gS_out (l := l) (i := i.toNat) (by omega)
      refine Round.chk rfl (Round.at (v := (0 : Int)) rfl (Round.chk (decide_eq_true (by simp; omega)) (Round.chk rfl (Round.at (v := (0 : Int)) rfl (Round.chk (decide_eq_true (by simp; omega)) (Round.chk (decide_eq_true (by simp; omega)) (Round.again _ ⟨(), ?_, trivial⟩)))))))
      rw [wr_succ h2 h3 (by omega), e, hg]
      rfl
  · intro _ _
    exact Round.no (by simp) (Round.done (Evt.some _))
/- spec.CompileStrokes -/
theorem e10 (K : List Stk) (hr : RngT K) (most : Int) : Evt (fun n => call T C n 10 (K, most, ())) (csR K most, ()) := by
  have hl := psR_len K most
  refine Evt.next (Evt.bind (e8 K hr most) (Evt.ite (fun h => ?_) (fun h => ?_))) (fun n => r10 n K most)
  · have h : (psR K most).2.1 ≠ 0 := by simpa using h
    have : csR K most = (([], [], [], ()), (psR K most).2.1, ()) := by unfold csR; rw [if_pos h]
    rw [this]; exact Evt.some _
  · have h : (psR K most).2.1 = 0 := by simpa using h
    have : csR K most = (mfR (psR K most).1 (max 8 (psR K most).1.length), 0, ()) := by unfold csR; rw [if_neg (by omega)]
    rw [this]
    refine Evt.bind (e39 _ _) (Evt.bind (e38 (psR K most).1 (psR_el hr most) (m := max 8 ((psR K most).1.length : Int)) (by omega) (by omega) (by omega)) ?_)
    rw [show (max 8 ((psR K most).1.length : Int)).toNat = max 8 (psR K most).1.length by omega]
    exact Evt.some _
/- (*impl.Plate).ink -/
theorem e71 {p : List Int} {m : Mk} (hp : p.length = 64) (ho : OnP m) : Evt (fun n => call T C n 71 (p, m, ())) ((), (inkP p m, ())) := by
  have hx := ho.x; have hy := ho.y
  have hgp := g_idx (l := p) hy.1 (by omega)
  have hb1 : 0 ≤ g m 1 ∧ g m 1 < ((64 : Nat) : Int) := by omega
  exact Evt.next (Evt.chk rfl (Evt.at ho.get1 (Evt.chk (decide_eq_true hb1) (Evt.at hgp.get (Evt.chk rfl (Evt.at ho.get0 (Evt.chk (decide_eq_true hx.1) (Evt.chk (decide_eq_true hb1) (Evt.at hgp.get (Evt.some ((), (inkP p m, ())))))))))))) (fun n => r71 n p m)
/- (*impl.Plate).line -/
theorem e40 {p : List Int} {a b : Mk} (hp : p.length = 64) (ha : OnP a) (hb : OnP b) : Evt (fun n => call T C n 40 (p, a, b, ())) ((), (inkL p (lineM a b), ())) := by
  have hl := lineM_len ha hb
  refine Evt.next (Evt.bind (e65 ha hb) ?_) (fun n => r40 n p a b)
  refine for_evt' 0 ((lineM a b).length : Int) (fun i (_ : Unit) => (inkL p ((lineM a b).take i.toNat), lineM a b, ((lineM a b).length : Int), i, ())) (fun _ _ => True) (b0 := ()) rfl (by omega) trivial ?_ ?_
  · intro i _ h2 h3 _
    obtain ⟨m, hm⟩ := at_of h2 h3
    refine Round.yes (decide_eq_true h3) (Round.at hm.idx (Round.bind (e71 (p := inkL p ((lineM a b).take i.toNat)) (by rw [inkL_len, hp]) (lineM_on ha hb m hm.mem)) (Round.again _ ⟨(), ?_, trivial⟩)))
    rw [wr_succ h2 h3 (by omega), hm.take, inkL_snoc]
  · intro _ _
    simp only [take_all]
    exact Round.no (by simp) (Round.done (Evt.some _))
/- impl.DrawStrokes -/
theorem e11 {K : List Stk} (hr : RngT K) (hc : skCode K = 0) : Evt (fun n => call T C n 11 (K, ())) ((plt (drK K), 0, ()), ()) := by
  have G := goodT hr hc
  have hG : ∀ s ∈ K, ∀ m ∈ s, OnP m := fun s hs => (G.el s hs).2
  have hS := e27 K hr
  rw [hc] at hS
  refine Evt.next (Evt.bind hS (Evt.no (by simp) ?_)) (fun n => r11 n K)
  have hkl := G.len
  refine for_evt' 0 (K.length : Int) (fun i (_ : Unit) => (List.replicate 64 (0 : Int), plt (kM K i.toNat), K, (K.length : Int), i, ())) (fun _ _ => True) (b0 := ()) (by rw [show kM K (0 : Int).toNat = [] from rfl, plate_nil]) (by omega) trivial ?_ ?_
  · intro i _ h2 h3 _
    obtain ⟨s, hs⟩ := at_of h2 h3
    have hsl := (G.el s hs.mem).1
    have hon := hG s hs.mem
    refine Round.yes (decide_eq_true h3) (Round.at hs.idx ?_)
    refine for_round' 0 (s.length : Int) (fun k (_ : Unit) => (List.replicate 64 (0 : Int), plt (kM K i.toNat ++ skM s k.toNat), s, K, (K.length : Int), i, s, (s.length : Int), k, ())) (fun _ _ => True) (b0 := ()) (by simp [skM]) (by omega) trivial ?_ ?_
    · intro k _ k2 k3 _
      have hg := gM_idx k2 k3
      have ho : OnP (gM s k.toNat) := hon _ hg.mem
      have hw : wr .i64 (k - 1) = k - 1 := wrap_id (by omega) (by omega)
      refine Round.yes (decide_eq_true k3) (Round.at hg.idx ?_)
      simp only [hw]
      by_cases c : k = 0
      · subst c
        have hI := e40 (p := plt (kM K i.toNat ++ skM s (0 : Int).toNat)) (plt_len _) ho ho
        rw [lineM_same, inkL_plate _ _ (by simpa using ho)] at hI
        have e : plt (kM K i.toNat ++ skM s (0 + 1 : Int).toNat) = plt (kM K i.toNat ++ skM s (0 : Int).toNat ++ [gM s (0 : Int).toNat]) := by simp [skM]
        refine Round.at hg.idx (Round.bind hI (Round.inr _ ⟨(), ?_, trivial⟩))
        rw [wr_succ k2 k3 (by omega), e]
      · have hif : (if (0 : Int) > k - 1 then (0 : Int) else k - 1) = k - 1 := if_neg (by omega)
        simp only [hif]
        have hg2 := gM_idx (L := s) (i := k - 1) (by omega) (by omega)
        have ho2 : OnP (gM s (k - 1).toNat) := hon _ hg2.mem
        have hI := e40 (p := plt (kM K i.toNat ++ skM s k.toNat)) (plt_len _) ho2 ho
        rw [inkL_plate _ _ (lineM_on ho2 ho)] at hI
        refine Round.at hg2.idx (Round.bind hI (Round.inr _ ⟨(), ?_, trivial⟩))
        rw [wr_succ k2 k3 (by omega)]
        have e : skM s (k + 1).toNat = skM s k.toNat ++ (gM s k.toNat :: lineM (gM s (k - 1).toNat) (gM s k.toNat)) := by
          rw [show (k + 1).toNat = k.toNat + 1 by omega]
          unfold skM
          rw [if_neg (by omega), show k.toNat - 1 = (k - 1).toNat by omega]
          cases hkk : k.toNat <;> rfl
        have e2 : plt (kM K i.toNat ++ skM s (k + 1).toNat) = plt ((kM K i.toNat ++ skM s k.toNat) ++ lineM (gM s (k - 1).toNat) (gM s k.toNat)) := by
          rw [e]
          refine plate_ext fun x => ?_
          have := lineM_end ho2 ho
          simp only [List.mem_append, List.mem_cons]
          constructor <;> intro h
          · rcases h with h | h | h | h
            · exact .inl (.inl h)
            · exact .inl (.inr h)
            · rw [h]; exact .inr this
            · exact .inr h
          · rcases h with (h | h) | h
            · exact .inl h
            · exact .inr (.inl h)
            · exact .inr (.inr (.inr h))
        rw [e2]
    · intro _ _
      refine Round.no (by simp) (Round.inl _ ⟨(), ?_, trivial⟩)
      rw [wr_succ h2 h3 (by omega)]
      have e : kM K (i + 1).toNat = kM K i.toNat ++ skM s s.length := by
        unfold kM
        rw [hs.take, List.flatMap_append]; simp
      rw [e, Int.toNat_natCast]
  · intro _ _
    refine Round.no (by simp) (Round.done ((Evt.some _).of_eq fun n => ?_))
    rw [Int.toNat_natCast, drK_plt hG]
    rfl
/- spec.l07Ink -/
theorem e41 {p : List Int} {a b : Mk} (hp : p.length = 64) (ha : OnP a) (hb : OnP b) : Evt (fun n => call T C n 41 (p, a, b, ())) ((), (inkL p (lineM a b), ())) := by
  have hl := lineM_len ha hb
  refine Evt.next (Evt.bind (e72 ha hb) ?_) (fun n => r41 n p a b)
  refine for_evt' 0 ((lineM a b).length : Int) (fun i (_ : Unit) => (inkL p ((lineM a b).take i.toNat), lineM a b, i, ())) (fun _ _ => True) (b0 := ()) rfl (by omega) trivial ?_ ?_
  · intro i _ h2 h3 _
    obtain ⟨m, hm⟩ := at_of h2 h3
    have ho := lineM_on ha hb m hm.mem
    have hx := ho.x; have hy := ho.y
    have hq : (inkL p ((lineM a b).take i.toNat)).length = 64 := by rw [inkL_len, hp]
    have hgp := g_idx (l := inkL p ((lineM a b).take i.toNat)) hy.1 (by omega)
    refine Round.yes (decide_eq_true h3) (Round.at hm.idx (Round.at ho.idx1 (Round.chk (decide_eq_true (by omega)) (Round.at hgp.get (Round.at hm.idx (Round.at ho.idx0 ?_))))))
    rw [wrapU64 (x := g m 0) (by omega) (by omega)]
    refine Round.chk (decide_eq_true hx.1) (Round.chk (decide_eq_true (by omega)) (Round.at hgp.get (Round.again _ ⟨(), ?_, trivial⟩)))
    rw [wr_succ h2 h3 (by omega), hm.take, inkL_snoc]
    rfl
  · intro _ _
    simp only [take_all]
    exact Round.no (by simp) (Round.done (Evt.some _))
/- spec.DrawStrokes -/
theorem e12 {K : List Stk} (hr : RngT K) (hc : skCode K = 0) : Evt (fun n => call T C n 12 (K, ())) ((plt (drK K), 0, ()), ()) := by
  have G := goodT hr hc
  have hG : ∀ s ∈ K, ∀ m ∈ s, OnP m := fun s hs => (G.el s hs).2
  have hS := e34 K hr
  rw [hc] at hS
  refine Evt.next (Evt.bind hS (Evt.no (by simp) ?_)) (fun n => r12 n K)
  have hkl := G.len
  refine for_evt' 0 (K.length : Int) (fun i (_ : Unit) => (K, List.replicate 64 (0 : Int), plt (kM K i.toNat), i, ())) (fun _ _ => True) (b0 := ()) (by rw [show kM K (0 : Int).toNat = [] from rfl, plate_nil]) (by omega) trivial ?_ ?_
  · intro i _ h2 h3 _
    obtain ⟨s, hs⟩ := at_of h2 h3
    have hsl := (G.el s hs.mem).1
    have hon := hG s hs.mem
    refine Round.yes (decide_eq_true h3) ?_
    refine for_round' 0 (s.length : Int) (fun k (_ : Unit) => (K, List.replicate 64 (0 : Int), plt (kM K i.toNat ++ skM s k.toNat), i, k, ())) (fun _ _ => True) (b0 := ()) (by simp [skM]) (by omega) trivial ?_ ?_
    · intro k _ k2 k3 _
      have hg := gM_idx k2 k3
      have ho : OnP (gM s k.toNat) := hon _ hg.mem
      have hI := e41 (p := plt (kM K i.toNat ++ skM s k.toNat)) (plt_len _) ho ho
      rw [lineM_same, inkL_plate _ _ (by simpa using ho)] at hI
      refine Round.at hs.idx (Round.yes (decide_eq_true k3) (Round.at hs.idx (Round.at hg.idx (Round.at hs.idx (Round.at hg.idx (Round.bind hI (Round.ite (fun c => ?_) (fun c => ?_))))))))
      · have c : k > 0 := of_decide_eq_true c
        have hw : wr .i64 (k - 1) = k - 1 := wrap_id (by omega) (by omega)
        have hg2 := gM_idx (L := s) (i := k - 1) (by omega) (by omega)
        have ho2 : OnP (gM s (k - 1).toNat) := hon _ hg2.mem
        have hI2 := e41 (p := plt ((kM K i.toNat ++ skM s k.toNat) ++ [gM s k.toNat])) (plt_len _) ho2 ho
        rw [inkL_plate _ _ (lineM_on ho2 ho)] at hI2
        rw [hw]
        refine Round.at hs.idx (Round.at hg2.idx (Round.at hs.idx (Round.at hg.idx (Round.bind hI2 (Round.inr _ ⟨(), ?_, trivial⟩)))))
        rw [wr_succ k2 k3 (by omega)]
        have e : skM s (k + 1).toNat = skM s k.toNat ++ (gM s k.toNat :: lineM (gM s (k - 1).toNat) (gM s k.toNat)) := by
          rw [show (k + 1).toNat = k.toNat + 1 by omega]
          unfold skM
          rw [if_neg (by omega), show k.toNat - 1 = (k - 1).toNat by omega]
          cases hkk : k.toNat <;> rfl
        rw [e]
        simp
      · have c : k = 0 := by have : ¬ k > 0 := fun h => c (decide_eq_true h); omega
        subst c
        have e : plt (kM K i.toNat ++ skM s (0 + 1 : Int).toNat) = plt (kM K i.toNat ++ skM s (0 : Int).toNat ++ [gM s (0 : Int).toNat]) := by simp [skM]
        refine Round.inr _ ⟨(), ?_, trivial⟩
        rw [wr_succ k2 k3 (by omega), e]
    · intro _ _
      refine Round.at hs.idx (Round.no (by simp) (Round.inl _ ⟨(), ?_, trivial⟩))
      rw [wr_succ h2 h3 (by omega)]
      have e : kM K (i + 1).toNat = kM K i.toNat ++ skM s s.length := by
        unfold kM
        rw [hs.take, List.flatMap_append]; simp
      rw [e, Int.toNat_natCast]
  · intro _ _
    refine Round.no (by simp) (Round.done ((Evt.some _).of_eq fun n => ?_))
    rw [Int.toNat_natCast, drK_plt hG]
    rfl
/- spec.SameStops -/
theorem e13 (l : List Stp) (hl : (l.length : Int) ≤ 1000000) : Evt (fun n => call T C n 13 (l, l, ())) ((true, ()), ()) := by
  refine Evt.next (Evt.no (by simp) ?_) (fun n => r13 n l l)
  refine for_evt 0 (l.length : Int) (fun i (_ : Unit) => (l, l, i, ())) (fun _ _ => True) (b0 := ()) (by omega) trivial ?_ ?_
  · intro i _ h2 h3 _
    obtain ⟨v, hv⟩ := at_of h2 h3
    exact Round.yes (decide_eq_true h3) (Round.at hv.idx (Round.at hv.idx (Round.no (by simp) (Round.again _ ⟨(), by rw [wr_succ h2 h3 (by omega)], trivial⟩))))
  · intro _ _
    exact Round.no (by simp) (Round.done (Evt.some _))
/- spec.l01Same -/
theorem e42 (l : List Int) (hl : (l.length : Int) ≤ 1000000) : Evt (fun n => call T C n 42 (l, l, ())) ((true, ()), ()) := by
  refine Evt.next (Evt.no (by simp) ?_) (fun n => r42 n l l)
  refine for_evt' 0 (l.length : Int) (fun i (_ : Unit) => (l, l, i, ())) (fun _ _ => True) (b0 := ()) rfl (by omega) trivial ?_ ?_
  · intro i _ h2 h3 _
    obtain ⟨v, hv⟩ := at_of h2 h3
    exact Round.yes (decide_eq_true h3) (Round.at hv.idx (Round.at hv.idx (Round.no (by simp) (Round.again _ ⟨(), by rw [wr_succ h2 h3 (by omega)], trivial⟩))))
  · intro _ _
    exact Round.no (by simp) (Round.done (Evt.some _))
theorem e422 (a b : List Int) (hl : (a.length : Int) ≤ 1000000) : Evt (fun n => call T C n 42 (a, b, ())) ((decide (a = b), ()), ()) := by
  by_cases hlen : a.length = b.length
  · refine Evt.next (Evt.no (by simp [hlen]) ?_) (fun n => r42 n a b)
    refine for_evt' 0 (a.length : Int) (fun i (_ : Unit) => (a, b, i, ())) (fun i _ => a.take i.toNat = b.take i.toNat) (b0 := ()) rfl (by omega) (by simp) ?_ ?_
    · intro i _ h2 h3 he
      obtain ⟨u, hu⟩ := at_of h2 h3
      obtain ⟨v, hv⟩ := at_of (l := b) h2 (by omega)
      refine Round.yes (decide_eq_true h3) (Round.at hu.idx (Round.at hv.idx (Round.ite (fun h => ?_) (fun h => ?_))))
      · have h : u ≠ v := by simpa using h
        have : a ≠ b := fun e => by
          subst e
          have := hu.get.symm.trans hv.get
          exact h (Option.some.inj this)
        rw [decide_eq_false this]
        exact Round.done (Evt.some _)
      · have h : u = v := by simpa using h
        exact Round.again _ ⟨(), by rw [wr_succ h2 h3 (by omega)], by rw [hu.take, hv.take, he, h]⟩
    · intro _ he
      have he : a = b := by rwa [take_all, hlen, take_all] at he
      rw [decide_eq_true he]
      exact Round.no (by simp) (Round.done (Evt.some _))
  · have : a ≠ b := fun e => hlen (by rw [e])
    rw [decide_eq_false this]
    exact Evt.next (Evt.yes (by simp; omega) (Evt.some _)) (fun n => r42 n a b)
/- spec.SameMachine -/
theorem e14 (m : Mch) (hx : (m.1.length : Int) ≤ 1000000) (hy : (m.2.1.length : Int) ≤ 1000000) (hp : (m.2.2.1.length : Int) ≤ 1000000) : Evt (fun n => call T C n 14 (m, m, ())) ((true, ()), ()) :=
  Evt.next (Evt.bind (e42 m.1 hx) (Evt.yes rfl (Evt.bind (e42 m.2.1 hy) (Evt.yes rfl (Evt.bind (e42 m.2.2.1 hp) (Evt.some _)))))) (fun n => r14 n m m)
/- (impl.Cam).steps -/
theorem e77 (a : List Int) : Evt (fun n => call T C n 77 (a, ())) (((a.length : Int), ()), ()) := Evt.next (Evt.some _) (fun n => r77 n a)
/- impl.isSteps -/
theorem e54 (a : Int) : Evt (fun n => call T C n 54 (a, ())) ((inR a 8 360, ()), ()) := Evt.next (Evt.bind (e29 a 8 360) (Evt.some _)) (fun n => r54 n a)
/- impl.isLift -/
theorem e80 (a : Int) : Evt (fun n => call T C n 80 (a, ())) ((inR a 0 10000, ()), ()) := Evt.next (Evt.bind (e29 a 0 10000) (Evt.some _)) (fun n => r80 n a)
/- impl.ValidCam$1 -/
theorem e79 (v : Int) : Evt (fun n => call T C n 79 (v, ())) ((!okV v, ()), ()) := Evt.next (Evt.bind (e80 _) (Evt.some _)) (fun n => r79 n v)
/- slices.IndexFunc[impl.Cam,int16]{impl.ValidCam$1} -/
theorem e91 (l : List Int) (hl : (l.length : Int) ≤ 140737488351232) : Evt (fun n => call T C n 91 (l, ((), ()), ())) ((fi (fun v => !okV v) l 0, ()), ()) := by
  refine Evt.next ?_ (fun n => r91 n l ((), ()))
  refine loop_evt (fun (x : List Int × (Unit × Unit) × Int × Int × Unit) => x.1 = l ∧ x.2.2.1 = (l.length : Int) ∧ 0 ≤ x.2.2.2.1 ∧ x.2.2.2.1 ≤ (l.length : Int) ∧ fi (fun v => !okV v) l 0 = fi (fun v => !okV v) (l.drop x.2.2.2.1.toNat) x.2.2.2.1) (fun (x : List Int × (Unit × Unit) × Int × Int × Unit) => ((l.length : Int) - x.2.2.2.1).toNat) (x := (l, ((), ()), (l.length : Int), 0, ())) ⟨rfl, rfl, Int.le_refl _, by simp, by simp⟩ ?_
  rintro ⟨x1, u, m, i, _⟩ ⟨h', hm, h0, h1, h2⟩
  simp only at h' hm h0 h1 h2
  subst h'; subst hm
  refine Round.ite (fun hlt => ?_) (fun hge => ?_)
  · have hlt : i < (x1.length : Int) := of_decide_eq_true hlt
    obtain ⟨v, hv, hv'⟩ := idx_at h0 hlt
    have hd := drop_cons hv'
    refine Round.at hv (Round.bind (e79 _) (Round.ite (fun hb => ?_) (fun hb => ?_)))
    · have hb : okV v = false := by simpa using hb
      have h3 : fi (fun v => !okV v) x1 0 = i := by rw [h2, hd]; simp [fi, hb]
      rw [h3]
      exact Round.done (Evt.some _)
    · have hb : okV v = true := by simpa using hb
      have hw : wr .i64 (i + 1) = i + 1 := wrap_id (by omega) (by omega)
      refine Round.again _ ⟨⟨rfl, rfl, ?_, ?_, ?_⟩, ?_⟩ <;> simp only [hw]
      · omega
      · omega
      · rw [h2, hd, show (i + 1).toNat = i.toNat + 1 by omega]
        simp [fi, hb]
      · omega
  · have hge : ¬ i < (x1.length : Int) := by simpa using hge
    have : x1.drop i.toNat = [] := List.drop_of_length_le (by omega)
    rw [h2, this]
    exact Round.done (Evt.some _)
/- slices.ContainsFunc[impl.Cam,int16]{impl.ValidCam$1} -/
theorem e78 (l : List Int) (hl : (l.length : Int) ≤ 140737488351232) : Evt (fun n => call T C n 78 (l, ((), ()), ())) ((l.any (fun v => !okV v), ()), ()) := by
  refine Evt.next (Evt.bind (e91 l hl) ((Evt.some _).of_eq fun n => ?_)) (fun n => r78 n l ((), ()))
  simp only [fi_any _ l 0 (Int.le_refl _)]
  rfl
/- impl.ValidCam -/
theorem e49 (l : List Int) (hl : (l.length : Int) ≤ 140737488351232) : Evt (fun n => call T C n 49 (l, ())) ((okC l, ()), ()) := by
  refine Evt.next (Evt.bind (e77 l) (Evt.bind (e54 _) ?_)) (fun n => r49 n l)
  refine Evt.ite (fun h => ?_) (fun h => ?_)
  · refine Evt.bind (e78 l hl) ((Evt.some _).of_eq fun n => ?_)
    have h : inR (l.length : Int) 8 360 = true := h
    have : okC l = !l.any (fun v => !okV v) := by simp [okC, h, List.any_eq_not_all_not]
    rw [this]
    rfl
  · refine (Evt.some _).of_eq fun n => ?_
    have h : inR (l.length : Int) 8 360 = false := by simpa using h
    simp [okC, h]
    rfl
/- slices.Max[impl.Cam,int16] -/
theorem e50 (l : List Int) (hr : Rng l) (h0 : 0 < (l.length : Int)) : Evt (fun n => call T C n 50 (l, ())) ((mxL l, ()), ()) := by
  have hlen := hr.len'
  obtain ⟨v0, hv0⟩ := at_of (l := l) (Int.le_refl 0) h0
  refine Evt.next (Evt.no (by simp; omega) (Evt.at hv0.idx ?_)) (fun n => r50 n l)
  have hh := (head_at hv0).1
  refine for_evt' 1 (l.length : Int) (fun i (_ : Unit) => (l, mxF (l.take i.toNat) v0, i, ())) (fun _ _ => True) (b0 := ()) (by
    have := (head_at hv0).2
    show _ = (l, mxF (l.take 1) v0, 1, ())
    rw [this]; simp [mxF]) (by omega) trivial ?_ ?_
  · intro i _ h2 h3 _
    obtain ⟨v, hv⟩ := at_of (l := l) (show 0 ≤ i by omega) h3
    simp only [wrap_id (x := i + 1) (by omega) (by omega)]
    refine Round.yes (decide_eq_true h3) (Round.at hv.idx (Round.again _ ⟨(), ?_, trivial⟩))
    rw [hv.take, mxF_snoc]
    congr 2
    split <;> omega
  · intro _ _
    have e2 : mxF (l.take (l.length : Int).toNat) v0 = mxL l := by rw [take_all, mxL, hh]
    simp only [e2]
    exact Round.no (by simp) (Round.done (Evt.some _))
/- impl.ValidMachine -/
theorem e19 (m : Mch) (h : RngM m) : Evt (fun n => call T C n 19 (m, ())) ((okM m, ()), ()) := by
  have hx := h.x.len'
  have hy := h.y.len'
  have hp := h.p.len'
  refine Evt.next (Evt.at (x := ([] : List Int)) rfl (Evt.at (x := ([] : List Int)) rfl ?_)) (fun n => r19 n m)
  show Evt (fun n => loopK _ n (m, [m.1, m.2.1], 0, ())) _
  have one : ∀ (c : List Int) (hr : Rng c) (i : Int) (rest : Bool), i = 0 ∨ i = 1 → idx [m.1, m.2.1] i = some c → okM m = (mv c && ((c.length : Int) == (m.2.2.1.length : Int)) && rest) → ∀ {P : (Mch × List (List Int) × Int × Unit) → Prop}, (mv c = true → c.length = m.2.2.1.length → P (m, [m.1, m.2.1], wr .i64 (i + 1), ())) →
      Round (σ := Mch × List (List Int) × Int × Unit) (fun n ag => (idx [m.1, m.2.1] i).bind fun v6 => (call T C n 49 (v6, ())).bind fun r7 => if (!r7.1.1) = true then some ((false, ()), ()) else if (bif false then true else ((v6.length : Int) != (m.2.2.1.length : Int))) = true then some ((false, ()), ()) else (call T C n 50 (v6, ())).bind fun r8 => if (bif false then true else decide (r8.1.1 ≥ 64)) = true then some ((false, ()), ()) else ag (m, [m.1, m.2.1], wr .i64 (i + 1), ())) ((okM m, ()), ()) P := by
    intro c hr i rest _ hi he P hP
    have hc := hr.len'
    refine Round.at hi (Round.bind (e49 c (by omega)) ?_)
    cases hok : okC c with
    | false =>
      have : okM m = false := by rw [he]; simp [mv, hok]
      rw [this]
      exact Round.yes rfl (Round.done (Evt.some _))
    | true =>
      have hl := okC_len hok
      refine Round.no (by simp) (Round.ite (fun hb => ?_) (fun hb => ?_))
      · have hb : ¬ (c.length : Int) = m.2.2.1.length := by simpa using hb
        have : okM m = false := by
          rw [he]
          have : ((c.length : Int) == (m.2.2.1.length : Int)) = false := by simpa using hb
          simp [this]
        rw [this]
        exact Round.done (Evt.some _)
      · have hb : c.length = m.2.2.1.length := by
          have : (c.length : Int) = m.2.2.1.length := by simpa using hb
          omega
        refine Round.bind (e50 c hr (by omega)) (Round.ite (fun hg => ?_) (fun hg => ?_))
        · have hg : mxL c ≥ 64 := of_decide_eq_true hg
          have : okM m = false := by
            rw [he]
            have : mv c = false := by simp [mv]; intro; omega
            simp [this]
          rw [this]
          exact Round.done (Evt.some _)
        · have hg : ¬ mxL c ≥ 64 := by simpa using hg
          exact Round.again _ (hP (by simp [mv, hok]; omega) hb)
  refine for_evt' 0 2 (fun i (_ : Unit) => (m, [m.1, m.2.1], i, ())) (fun i _ => (0 < i → mv m.1 = true ∧ m.1.length = m.2.2.1.length) ∧ (1 < i → mv m.2.1 = true ∧ m.2.1.length = m.2.2.1.length)) (b0 := ()) rfl (by omega) ⟨by omega, by omega⟩ ?_ ?_
  · intro i _ h2 h3 ⟨p1, p2⟩
    refine Round.yes (decide_eq_true h3) ?_
    have hi : i = 0 ∨ i = 1 := by omega
    rcases hi with rfl | rfl
    · refine one m.1 h.x 0 (mv m.2.1 && okC m.2.2.1 && ((m.1.length : Int) == (m.2.1.length : Int))) (.inl rfl) rfl ?_ (fun q1 q2 => ⟨(), rfl, fun _ => ⟨q1, q2⟩, by omega⟩)
      unfold okM
      cases mv m.1 <;> cases mv m.2.1 <;> cases okC m.2.2.1 <;> cases ((m.1.length : Int) == (m.2.1.length : Int)) <;> cases ((m.1.length : Int) == (m.2.2.1.length : Int)) <;> rfl
    · obtain ⟨p3, p4⟩ := p1 (by omega)
      refine one m.2.1 h.y 1 (okC m.2.2.1) (.inr rfl) rfl ?_ (fun q1 q2 => ⟨(), rfl, fun _ => ⟨p3, p4⟩, fun _ => ⟨q1, q2⟩⟩)
      unfold okM
      rw [p3, p4]
      have : ((m.2.2.1.length : Int) == (m.2.1.length : Int)) = ((m.2.1.length : Int) == (m.2.2.1.length : Int)) := BEq.comm
      rw [this]
      cases mv m.2.1 <;> cases okC m.2.2.1 <;> cases ((m.2.1.length : Int) == (m.2.2.1.length : Int)) <;> simp
  · intro _ ⟨p1, p2⟩
    obtain ⟨q1, q2⟩ := p1 (by omega)
    obtain ⟨q3, q4⟩ := p2 (by omega)
    have : okM m = okC m.2.2.1 := by
      unfold okM
      rw [q1, q3, q2, q4]
      simp
    rw [this]
    exact Round.no (by simp) (Round.done (Evt.bind (e49 m.2.2.1 (by omega)) (Evt.some _)))
/- (impl.Machine).steps -/
theorem e74 (m : Mch) : Evt (fun n => call T C n 74 (m, ())) (((m.1.length : Int), ()), ()) := Evt.next (Evt.bind (e77 m.1) (Evt.some _)) (fun n => r74 n m)
/- impl.mod -/
theorem e97 {a b : Int} (hb : 0 < b) (hb' : b ≤ 1000000000000) (h1 : -1000000000000 ≤ a) (h2 : a ≤ 1000000000000) : Evt (fun n => call T C n 97 (a, b, ())) ((a % b, ()), ()) := by
  have hd := Int.emod_def a b
  have h3 := Int.emod_nonneg a (show b ≠ 0 by omega)
  have h4 := Int.emod_lt_of_pos a hb
  refine Evt.next (Evt.bind (e95 hb (by omega) (by omega)) ((Evt.some _).of_eq fun n => ?_)) (fun n => r97 n a b)
  simp only
  rw [wrap_id (x := b * (a / b)) (by omega) (by omega), ← hd, wrap_id (by omega) (by omega)]
  rfl
/- (impl.Cam).at -/
theorem e90 {l : List Int} (hr : Rng l) (h0 : 0 < (l.length : Int)) (h1 : (l.length : Int) ≤ 1000000) {x : Int} (hx : -4000000 ≤ x) (hx' : x ≤ 4000000) : Evt (fun n => call T C n 90 (l, x, ())) ((cAt l x, ()), ()) := by
  have hp := Int.emod_nonneg x (show (l.length : Int) ≠ 0 by omega)
  have hq := Int.emod_lt_of_pos x h0
  have hv := g_idx (l := l) hp hq
  refine Evt.next (Evt.bind (e77 l) (Evt.bind (e97 (a := x) h0 (by omega) (by omega) (by omega)) (Evt.at hv.idx ((Evt.some _).of_eq fun n => ?_)))) (fun n => r90 n l x)
  rw [hr.id hv.mem]
  rfl
/- (impl.Machine).stop -/
theorem e75 (m : Mch) (hr : RngM m) (G : GoodM m) {i : Nat} (h : i < m.1.length) : Evt (fun n => call T C n 75 (m, (i : Int), ())) ((stopM m i, ()), ()) := by
  have lx := okC_len G.x
  have e1 := G.xy
  have e2 := G.xp
  have at_ : ∀ l : List Int, l.length = m.1.length → cAt l (i : Int) = g l i := fun l hl => by
    unfold cAt
    rw [Int.emod_eq_of_lt (by omega) (by omega), Int.toNat_natCast]
  have x1 := hr.x.el _ (g_mem h)
  have y1 := hr.y.el _ (g_mem (i := i) (by omega))
  have p1 := okC_el G.p hr.p _ (g_mem (i := i) (by omega))
  refine Evt.next ?_ (fun n => r75 n m (i : Int))
  refine Evt.bind (e90 hr.x (by omega) (by omega) (by omega) (by omega)) (Evt.bind (e90 hr.y (by omega) (by omega) (by omega) (by omega)) (Evt.at (x := (0 : Int)) rfl (Evt.at (x := (0 : Int)) rfl (Evt.bind (e90 hr.p (by omega) (by omega) (by omega) (by omega)) ((Evt.some _).of_eq fun n => ?_)))))
  rw [at_ _ rfl, at_ _ (by omega), at_ _ (by omega), wrap16 x1.1 x1.2, wrap16 y1.1 y1.2]
  rfl
/- (impl.Machine).stops -/
theorem e46 (m : Mch) (hr : RngM m) (G : GoodM m) : Evt (fun n => call T C n 46 (m, ())) ((stopsM m, ()), ()) := by
  have lx := okC_len G.x
  refine Evt.next (Evt.bind (e74 m) ?_) (fun n => r46 n m)
  refine for_evt' 0 (m.1.length : Int) (fun i (_ : Unit) => (m, (List.range i.toNat).map (stopM m), (m.1.length : Int), i, ())) (fun _ _ => True) (b0 := ()) rfl (by omega) trivial ?_ ?_
  · intro i _ h2 h3 _
    obtain ⟨k, rfl⟩ : ∃ k : Nat, i = k := ⟨i.toNat, by omega⟩
    refine Round.yes (decide_eq_true h3) (Round.bind (e75 m hr G (i := k) (by omega)) (Round.chk (decide_eq_true (by simp; omega)) (Round.again _ ⟨(), ?_, trivial⟩)))
    rw [wr_succ h2 h3 (by omega), show ((k : Int) + 1).toNat = k + 1 by omega, List.range_succ, List.map_append]
    rfl
  · intro _ _
    exact Round.no (by simp) (Round.done (Evt.some _))
/- (impl.Machine).draw -/
theorem e43 (m : Mch) (hr : RngM m) (G : GoodM m) : Evt (fun n => call T C n 43 (m, ())) ((drawTo m m.1.length, ()), ()) := by
  have lx := okC_len G.x
  have hl : (stopsM m).length = m.1.length := by simp [stopsM]
  refine Evt.next (Evt.bind (e46 m hr G) ?_) (fun n => r43 n m)
  refine for_evt' 0 (m.1.length : Int) (fun i (_ : Unit) => (List.replicate 64 0, drawTo m i.toNat, stopsM m, stopsM m, ((stopsM m).length : Int), i, ())) (fun _ _ => True) (b0 := ()) rfl (by omega) trivial ?_ ?_
  · intro i _ h2 h3 _
    obtain ⟨k, rfl⟩ : ∃ k : Nat, i = k := ⟨i.toNat, by omega⟩
    have hk : k < m.1.length := by omega
    have hs := stopsM_at m hk
    have hm1 := Nat.mod_lt (k + 1) (show m.1.length > 0 by omega)
    have ht := stopsM_at m hm1
    have hmod : Int.tmod (wr .i64 ((k : Int) + 1)) ((stopsM m).length : Int) = (((k + 1) % m.1.length : Nat) : Int) := by rw [wr_succ h2 h3 (by omega), hl, show (k : Int) + 1 = ((k + 1 : Nat) : Int) by omega, ← Int.ofNat_tmod]
    have o1 := stop_on hr G hk
    have o2 := stop_on hr G hm1
    show Round (fun n ag => if decide ((k : Int) < ((stopsM m).length : Int)) = true then _ else _) _ _
    refine Round.yes (decide_eq_true (by omega)) (Round.at hs.idx ?_)
    have e : drawTo m ((k : Int) + 1).toNat = drawTo m (k + 1) := by rw [show ((k : Int) + 1).toNat = k + 1 by omega]
    have again : ∀ d, d = drawTo m (k + 1) → ∃ b' : Unit, ((List.replicate 64 (0 : Int), d, stopsM m, stopsM m, ((stopsM m).length : Int), wr .i64 ((k : Int) + 1), ()) : List Int × List Int × List Stp × List Stp × Int × Int × Unit) = (List.replicate 64 0, drawTo m ((k : Int) + 1).toNat, stopsM m, stopsM m, ((stopsM m).length : Int), (k : Int) + 1, ()) ∧ True := fun d hd => ⟨(), by rw [hd, e, wr_succ h2 h3 (by omega)], trivial⟩
    refine Round.ite (fun c => ?_) (fun c => ?_)
    · have c : (stopM m k).2.1 = false := by simpa using c
      refine Round.again _ (again _ ?_)
      show drawTo m k = drawTo m (k + 1)
      rw [drawTo, c]; rfl
    have c : (stopM m k).2.1 = true := by simpa using c
    have hlen : (drawTo m k).length = 64 := drawTo_len m k
    refine Round.bind (e71 (p := drawTo m k) hlen o1) (Round.chk (bne_pos (show 0 < ((stopsM m).length : Int) by omega)) ?_)
    simp only [hmod]
    refine Round.at ht.idx (Round.ite (fun c2 => ?_) (fun c2 => ?_))
    · refine Round.bind (e40 (p := inkP (drawTo m k) (stopM m k).1) (by rw [inkP_len, hlen]) o1 o2) (Round.again _ (again _ ?_))
      rw [drawTo, if_pos c, if_pos c2]
    · refine Round.again _ (again _ ?_)
      rw [drawTo, if_pos c, if_neg c2]
  · intro _ _
    exact Round.no (by simp [hl]) (Round.done (Evt.some _))
/- impl.DrawMachine -/
theorem e15 (m : Mch) (hr : RngM m) : Evt (fun n => call T C n 15 (m, ())) (dmR m, ()) := by
  refine Evt.next (Evt.bind (e19 m hr) ?_) (fun n => r15 n m)
  unfold dmR
  refine Evt.ite (fun h => ?_) (fun h => ?_)
  · have h : okM m = false := by simpa using h
    rw [h]; exact Evt.some _
  · have h : okM m = true := by simpa using h
    rw [if_pos h]
    exact Evt.bind (e43 m hr (goodM h)) (Evt.some _)
/- bits.OnesCount64 -/
theorem e73 {x : Nat} (hx : x < 18446744073709551616) : Evt (fun n => call T C n 73 ((x : Int), ())) ((((bct x 64 : Nat) : Int), ()), ()) := by
  have h := pop_swar hx rfl
  dsimp only at h
  refine Evt.next (Evt.chk rfl (Evt.chk rfl (Evt.chk rfl (Evt.chk rfl (Evt.chk rfl (Evt.chk rfl ?_)))))) (fun n => r73 n x)
  rw [h]
  exact Evt.some _
/- impl.CountInk -/
theorem e44 {W : Nat → Nat} (hW : ∀ j, j < 64 → W j < 18446744073709551616) : Evt (fun n => call T C n 44 (tb 64 (fun j => ((W j : Nat) : Int)), ())) ((((tot W 64 : Nat) : Int), ()), ()) := by
  refine Evt.next ?_ (fun n => r44 n _)
  refine for_evt' 0 64 (fun i (_ : Unit) => (((tot W i.toNat : Nat) : Int), tb 64 (fun j => ((W j : Nat) : Int)), i, ())) (fun _ _ => True) (b0 := ()) rfl (by omega) trivial ?_ ?_
  · intro i _ h2 h3 _
    have hl := tot_le W i.toNat
    have hb := bct_le (W i.toNat) 64
    have hi : idx (tb 64 (fun j => ((W j : Nat) : Int))) i = some ((W i.toNat : Nat) : Int) := by unfold idx; rw [if_pos h2, tb_get (by omega)]
    refine Round.yes (decide_eq_true h3) (Round.at hi (Round.bind (e73 (hW i.toNat (by omega))) (Round.again _ ⟨(), ?_, trivial⟩)))
    rw [wr_succ h2 h3 (by omega), show (i + 1).toNat = i.toNat + 1 by omega, wrap_id (x := ((tot W i.toNat : Nat) : Int) + ((bct (W i.toNat) 64 : Nat) : Int)) (by omega) (by omega)]
    simp only [tot, Int.natCast_add]
  · intro _ _
    exact Round.no (by simp) (Round.done (Evt.some _))
/- bits.TrailingZeros64 -/
theorem e45 (p : Nat → Bool) : Evt (fun n => call T C n 45 (row p, ())) ((((fstZ p : Nat) : Int), ()), ()) := by
  refine Evt.next ?_ (fun n => r45 n (row p))
  have h : 0 ≤ row p ∧ row p < 18446744073709551616 := by have := row_lt p; unfold row; omega
  dsimp only
  rw [if_pos h, row_ctz]
  exact Evt.some _
/- impl.CheckMachine -/
theorem e16 (m : Mch) (hr : RngM m) {p : List Int} (hp : p.length = 64) (hv : W64 p) : Evt (fun n => call T C n 16 (m, p, ())) (cmR m p, ()) := by
  refine Evt.next (Evt.bind (e19 m hr) ?_) (fun n => r16 n m p)
  unfold cmR
  cases hM : okM m with
  | false => exact Evt.yes rfl (Evt.some _)
  | true =>
    refine Evt.no (by simp) (Evt.bind (e43 m hr (goodM hM)) ?_)
    obtain ⟨d, hd⟩ : ∃ d, d = drawTo m m.1.length := ⟨_, rfl⟩
    have ld : d.length = 64 := by rw [hd, drawTo_len]
    have hdv : W64 d := by rw [hd]; exact drawTo_el m _
    rw [← hd]
    obtain ⟨W, hWd⟩ : ∃ W, W = dif p d := ⟨_, rfl⟩
    have hW : ∀ j, j < 64 → W j < 18446744073709551616 := fun j hj => by rw [hWd]; exact dif_lt hv hdv hp ld hj
    rw [← hWd]
    have hd0 : d = tb 64 (fun j => if j < 0 then ((W j : Nat) : Int) else g d j) := by
      conv => lhs; rw [tb_self ld]
      exact tb_ext fun j _ => (if_neg (by omega)).symm
    refine for_evt' 0 64 (fun y (_ : Unit) => (p, List.replicate 2 (0 : Int), tb 64 (fun j => if j < y.toNat then ((W j : Nat) : Int) else g d j), y, ())) (fun _ _ => True) (b0 := ()) (show (p, List.replicate 2 (0 : Int), d, (0 : Int), ()) = (p, List.replicate 2 (0 : Int), tb 64 (fun j => if j < 0 then ((W j : Nat) : Int) else g d j), (0 : Int), ()) by rw [← hd0]) (by omega) trivial ?_ ?_
    · intro y _ h2 h3 _
      obtain ⟨k, rfl⟩ : ∃ k : Nat, y = k := ⟨y.toNat, by omega⟩
      have hk : k < 64 := by omega
      have hxk := (dif_xor hv hdv hp ld hk).2
      rw [← hWd] at hxk
      have g1 := (g_idx (l := p) (i := (k : Int)) (by omega) (by omega)).get
      have e1 : (tb 64 (fun j => if j < (k : Int).toNat then ((W j : Nat) : Int) else g d j))[(k : Int).toNat]? = some (g d k) := by
        rw [tb_get (by omega)]
        simp
      have hin : decide (0 ≤ (k : Int) ∧ (k : Int) < ((64 : Nat) : Int)) = true := decide_eq_true ⟨by omega, by omega⟩
      refine Round.yes (decide_eq_true h3) (Round.chk hin (Round.at e1 (Round.chk hin (Round.at g1 (Round.chk hin (Round.at e1 (Round.again _ ⟨(), ?_, trivial⟩)))))))
      rw [wr_succ h2 h3 (by omega), tb_set]
      simp only [Int.toNat_natCast] at hxk ⊢
      rw [hxk]
      have : tb 64 (fun j => if j = k then ((W k : Nat) : Int) else if j < k then ((W j : Nat) : Int) else g d j) = tb 64 (fun j => if j < ((k : Int) + 1).toNat then ((W j : Nat) : Int) else g d j) := tb_ext fun j hj => by
        by_cases e : j = k
        · rw [if_pos e, if_pos (by omega), e]
        · rw [if_neg e]
          by_cases e2 : j < k
          · rw [if_pos e2, if_pos (by omega)]
          · rw [if_neg e2, if_neg (by omega)]
      rw [this]
    · intro _ _
      have hD : tb 64 (fun j => if j < (64 : Int).toNat then ((W j : Nat) : Int) else g d j) = tb 64 (fun j => ((W j : Nat) : Int)) := tb_ext fun j hj => if_pos (by omega)
      rw [hD]
      refine Round.no (by simp) (Round.done ?_)
      have hcnt := e44 hW
      have htot := allS_cnt W 64
      have htl := tot_le W 64
      generalize hDD : tb 64 (fun j => ((W j : Nat) : Int)) = D at hcnt ⊢
      refine for_evt' 0 64 (fun y (_ : Unit) => (List.replicate 2 (0 : Int), D, D, y, ())) (fun y _ => ∀ j, j < y.toNat → W j = 0) (b0 := ()) rfl (by omega) (fun j h => absurd h (by omega)) ?_ ?_
      · intro y _ h2 h3 h0
        obtain ⟨k, rfl⟩ : ∃ k : Nat, y = k := ⟨y.toNat, by omega⟩
        have hk : k < 64 := by omega
        rw [Int.toNat_natCast] at h0
        have hi : idx D (k : Int) = some ((W k : Nat) : Int) := by unfold idx; rw [if_pos h2, ← hDD, tb_get (by omega)]; rfl
        refine Round.yes (decide_eq_true h3) (Round.at hi (Round.ite (fun hb => ?_) (fun hb => ?_)))
        · have hb : W k ≠ 0 := fun h => by rw [h] at hb; exact absurd hb (by decide)
          obtain ⟨f1, f2⟩ := allS_first h0 hb (hW k hk) 64 hk
          have hrow : ((W k : Nat) : Int) = row (W k).testBit := by unfold row; rw [← mkN_eq (p := (W k).testBit) (n := 64) (hW k hk) (fun _ _ => rfl)]
          have hz : fstZ (W k).testBit < 64 := by
            have hany : (List.range 64).any (W k).testBit = true := by
              rw [← row_ne, ← hrow]
              simpa using hb
            exact (fstZ_some hany).1
          rw [if_pos rfl, if_neg f2, htot, f1]
          have htz := e45 (W k).testBit
          rw [← hrow] at htz
          refine Round.bind hcnt (Round.bind htz (Round.at rfl (Round.at rfl (Round.done ((Evt.some _).of_eq fun n => ?_)))))
          rw [wrap16 (x := ((fstZ (W k).testBit : Nat) : Int)) (by omega) (by omega), wrap16 (x := (k : Int)) (by omega) (by omega)]
          rfl
        · have hb : W k = 0 := by
            have : ¬ (((W k : Nat) : Int) != 0) = true := by simpa using hb
            have : ((W k : Nat) : Int) = 0 := by simpa using this
            omega
          refine Round.again _ ⟨(), by rw [wr_succ h2 h3 (by omega)], fun j hj => ?_⟩
          by_cases e : j = k
          · rw [e]; exact hb
          · exact h0 j (by omega)
      · intro _ h0
        have := allS_none (W := W) (y := 64) (fun j hj => h0 j (by omega))
        rw [if_pos rfl, this, if_pos rfl]
        exact Round.no (by simp) (Round.done (Evt.some _))
/- impl.greatest -/
theorem e48 {l : List Int} (hl : (l.length : Int) ≤ 1000000) (hb : ∀ v ∈ l, -1000000000000 ≤ v ∧ v ≤ 1000000000000) : Evt (fun n => call T C n 48 (l, ())) (((gr l).1, (gr l).2.1, ()), ()) := by
  refine Evt.next ?_ (fun n => r48 n l)
  refine for_evt' 0 (l.length : Int) (fun i (_ : Unit) => ((gr (l.take i.toNat)).1, (gr (l.take i.toNat)).2.1, l, (l.length : Int), i, ())) (fun _ _ => True) (b0 := ()) rfl (by omega) trivial ?_ ?_
  · intro i _ h2 h3 _
    obtain ⟨v, hv⟩ := at_of h2 h3
    have hvb := hb v hv.mem
    have hA := e76 hvb.1 hvb.2
    have hn : (gr (l.take i.toNat)).2.2 = i := by
      have := gr_n (l.take i.toNat) (0, -1, 0)
      have h4 : (l.take i.toNat).length = i.toNat := by rw [List.length_take]; omega
      rw [h4] at this
      unfold gr
      rw [this]
      show (0 : Int) + ((i.toNat : Nat) : Int) = i
      omega
    refine Round.yes (decide_eq_true h3) (Round.at hv.idx (Round.bind hA (Round.ite (fun hc => ?_) (fun hc => ?_))))
    · have hc : siz v > (gr (l.take i.toNat)).2.1 := of_decide_eq_true hc
      refine Round.bind hA (Round.again _ ⟨(), ?_, trivial⟩)
      rw [hv.take, gr_snoc, wr_succ h2 h3 (by omega)]
      unfold grS
      rw [if_pos hc, hn]
    · have hc : ¬ siz v > (gr (l.take i.toNat)).2.1 := by simpa using hc
      refine Round.again _ ⟨(), ?_, trivial⟩
      rw [hv.take, gr_snoc, wr_succ h2 h3 (by omega)]
      unfold grS
      rw [if_neg hc]
  · intro _ _
    simp only [take_all]
    exact Round.no (by simp) (Round.done (Evt.some _))
/- impl.FastestMove -/
theorem e17 {m : Mch} (hr : RngM m) (h : okM m = true) : Evt (fun n => call T C n 17 (m, ())) (((gr (mvS (stopsM m))).1, (gr (mvS (stopsM m))).2.1, 0, ()), ()) := by
  have G := goodM h
  have lx := okC_len G.x
  have hl : (stopsM m).length = m.1.length := by simp [stopsM]
  have hon : ∀ s ∈ stopsM m, OnP s.1 := by
    intro s hs
    simp only [stopsM, List.mem_map, List.mem_range] at hs
    obtain ⟨i, hi, rfl⟩ := hs
    exact stop_on hr G hi
  have hV := e19 m hr
  rw [h] at hV
  refine Evt.next (Evt.bind hV (Evt.no (by simp) (Evt.bind (e46 m hr G) ?_))) (fun n => r17 n m)
  obtain ⟨l, hL⟩ : ∃ l, l = stopsM m := ⟨_, rfl⟩
  rw [← hL] at hl hon ⊢
  refine for_evt' 0 (l.length : Int) (fun i (_ : Unit) => (l, tb i.toNat fun i => far (gS l i).1 (gS l ((i + 1) % l.length)).1, l, (l.length : Int), i, ())) (fun _ _ => True) (b0 := ()) rfl (by omega) trivial ?_ ?_
  · intro i _ h2 h3 _
    obtain ⟨k, rfl⟩ : ∃ k : Nat, i = k := ⟨i.toNat, by omega⟩
    have hs := gS_idx (l := l) (i := (k : Int)) (by omega) (by omega)
    have hm := Nat.mod_lt (k + 1) (show l.length > 0 by omega)
    have ht := gS_idx (l := l) (i := (((k + 1) % l.length : Nat) : Int)) (by omega) (by omega)
    rw [Int.toNat_natCast] at hs ht
    have hmod : Int.tmod (wr .i64 ((k : Int) + 1)) (l.length : Int) = (((k + 1) % l.length : Nat) : Int) := by rw [wr_succ h2 h3 (by omega), show (k : Int) + 1 = ((k + 1 : Nat) : Int) by omega, ← Int.ofNat_tmod]
    refine Round.yes (decide_eq_true h3) (Round.at hs.idx (Round.chk (bne_pos (show 0 < (l.length : Int) by omega)) ?_))
    simp only [hmod]
    refine Round.at ht.idx (Round.bind (e47 (hon _ hs.mem) (hon _ ht.mem)) (Round.chk (decide_eq_true (by simp only [tb_len, List.length_cons, List.length_nil]; omega)) (Round.again _ ⟨(), ?_, trivial⟩)))
    rw [wr_succ h2 h3 (by omega), show ((k : Int) + 1).toNat = k + 1 by omega, ← tb_snoc, Int.toNat_natCast]
  · intro _ _
    rw [Int.toNat_natCast]
    have hG := e48 (l := mvS l) (by unfold mvS; rw [tb_len]; omega) (fun v hv => by
      obtain ⟨i, hi, rfl⟩ := tb_mem hv
      have hm := Nat.mod_lt (i + 1) (show l.length > 0 by omega)
      have o1 := hon _ (gS_idx (l := l) (i := (i : Int)) (by omega) (by omega)).mem
      have o2 := hon _ (gS_idx (l := l) (i := (((i + 1) % l.length : Nat) : Int)) (by omega) (by omega)).mem
      rw [Int.toNat_natCast] at o1 o2
      have := far_bd o1 o2
      omega)
    exact Round.no (by simp) (Round.bind hG (Round.done (Evt.some _)))
/- impl.StopsOf -/
theorem e18 {m : Mch} (hr : RngM m) (h : okM m = true) : Evt (fun n => call T C n 18 (m, ())) ((stopsM m, 0, ()), ()) := by
  have hV := e19 m hr
  rw [h] at hV
  refine Evt.next (Evt.bind hV (Evt.no (by simp) ?_)) (fun n => r18 n m)
  exact Evt.bind (e46 m hr (goodM h)) (Evt.some _)
/- impl.MachineFor$1 -/
theorem e52 (s : Stp) (h : s.1.length = 2) : Evt (fun n => call T C n 52 (s, ())) ((!okMk s.1, ()), ()) := Evt.next (Evt.bind (e53 s.1 h) (Evt.some _)) (fun n => r52 n s)
/- slices.IndexFunc[[]impl.Stop,impl.Stop]{impl.MachineFor$1} -/
theorem e81 (l : List Stp) (hl' : (l.length : Int) ≤ 1000000) (he : ∀ s ∈ l, OnP s.1) : Evt (fun n => call T C n 81 (l, ((), ()), ())) ((-1, ()), ()) := by
  refine Evt.next ?_ (fun n => r81 n l ((), ()))
  refine for_evt' 0 (l.length : Int) (fun i (_ : Unit) => (l, ((), ()), (l.length : Int), i, ())) (fun _ _ => True) (b0 := ()) rfl (by omega) trivial ?_ ?_
  · intro i _ h2 h3 _
    obtain ⟨v, hv⟩ := at_of h2 h3
    have ho := he v hv.mem
    have h1 := e52 v ho.len
    rw [okMk_of ho] at h1
    exact Round.yes (decide_eq_true h3) (Round.at hv.idx (Round.bind h1 (Round.no (by simp) (Round.again _ ⟨(), by rw [wr_succ h2 h3 (by omega)], trivial⟩))))
  · intro _ _
    exact Round.no (by simp) (Round.done (Evt.some _))
/- slices.ContainsFunc[[]impl.Stop,impl.Stop]{impl.MachineFor$1} -/
theorem e51 (l : List Stp) (hl' : (l.length : Int) ≤ 1000000) (he : ∀ s ∈ l, OnP s.1) : Evt (fun n => call T C n 51 (l, ((), ()), ())) ((false, ()), ()) :=
  Evt.next (Evt.bind (e81 l hl' he) (Evt.some _)) (fun n => r51 n l ((), ()))
/- impl.MachineFor -/
theorem e20 (l : List Stp) {k : Nat} (hl : l.length ≤ k) (h8 : 8 ≤ k) (hk : k ≤ 360) (he : ∀ s ∈ l, OnP s.1) : Evt (fun n => call T C n 20 (l, (k : Int), ())) ((mfR l k, 0, ()), ()) := by
  have hS := e54 (k : Int)
  rw [show inR (k : Int) 8 360 = true from inR_iff.2 ⟨by omega, by omega⟩] at hS
  have hM := e37 l (fun v hv => (he v hv).len) (m := (k : Int)) (by omega) (by omega) (by omega)
  rw [Int.toNat_natCast] at hM
  refine Evt.next (Evt.bind (e51 l (by omega) he) (Evt.bind (e28 false 1) (Evt.bind hS (Evt.no (by simp) (Evt.bind (e28 _ 2) (Evt.bind (e26 _ (by simp)) ?_)))))) (fun n => r20 n l k)
  have hd : (bif false then true else (decide ((l.length : Int) > (k : Int)))) = false := by show decide _ = false; exact decide_eq_false (by omega)
  rw [hd]
  exact Evt.no (by simp [fst0]) (Evt.bind hM (Evt.some _))
/- impl.extend -/
theorem e55 (K : List Stk) (m : Mk) (hK : K ≠ []) (hl : K.length ≤ 2000) (hn : ∀ s ∈ K, s.length ≤ 60) : Evt (fun n => call T C n 55 (K, m, ())) ((extT K m, ()), ()) := by
  refine Evt.next ?_ (fun n => r55 n K m)
  have hpos : 0 < K.length := List.length_pos_iff.2 hK
  rw [wrap_id (x := (K.length : Int) - 1) (by omega) (by omega), show ((K.length : Int) - 1).toNat = K.length - 1 by omega]
  obtain ⟨v, hv⟩ : ∃ v, v = K.getLastD [] := ⟨_, rfl⟩
  have hg : K[K.length - 1]? = some v := by
    rw [hv, List.getLastD_eq_getLast?, List.getLast?_eq_getElem?, List.getElem?_eq_getElem (by omega)]; rfl
  have hset : K.set (K.length - 1) v = K := by
    refine List.ext_getElem? fun j => ?_
    rw [List.getElem?_set]
    split
    · rename_i e
      subst e
      rw [if_pos (by omega), hg]
    · rfl
  have hvl := hn v (List.mem_of_getElem? hg)
  have hg2 : (K.set (K.length - 1) v)[K.length - 1]? = some v := by rw [hset]; exact hg
  unfold extT
  rw [← hv]
  refine Evt.chk (decide_eq_true (by omega)) (Evt.at hg ?_)
  refine Evt.ite (fun c => ?_) (fun c => ?_)
  · have c : v.length = 60 := by have e : (v.length : Int) = 60 := (by simpa using c); omega
    have hlast : v[(wr .i64 ((v.length : Int) - 1)).toNat]? = some (lastM v) := by
      rw [c]
      unfold lastM
      rw [show wr .i64 (((60 : Nat) : Int) - 1) = 59 by rfl, List.getLastD_eq_getLast?, List.getLast?_eq_getElem?, c]
      rw [show ((59 : Int)).toNat = 60 - 1 by rfl, List.getElem?_eq_getElem (by omega)]
      rfl
    rw [if_pos c]
    exact Evt.chk (decide_eq_true (by omega)) (Evt.at hg (Evt.at hg2 (Evt.chk (by rw [c]; rfl) (Evt.at hlast (Evt.at hg2 (Evt.chk (decide_eq_true (by simp; omega)) ((Evt.some _).of_eq fun n => by rw [hset, hset]; rfl)))))))
  · have c : v.length ≠ 60 := fun e => by simp [e] at c
    rw [if_neg c]
    exact Evt.chk (decide_eq_true (by omega)) (Evt.at hg (Evt.at hg2 (Evt.chk (decide_eq_true (by simp; omega)) (Evt.chk (decide_eq_true (by rw [hset]; omega)) (Evt.chk (decide_eq_true rfl) (Evt.at hg2 ((Evt.some _).of_eq fun n => by rw [hset]; rfl)))))))
/- impl.StrokesOf -/
theorem e21 (m : Mch) (hr : RngM m) : Evt (fun n => call T C n 21 (m, ())) (soR m, ()) := by
  refine Evt.next (Evt.bind (e19 m hr) ?_) (fun n => r21 n m)
  unfold soR
  cases hM : okM m with
  | false => exact Evt.yes rfl (Evt.some _)
  | true =>
    have G := goodM hM
    have lx := okC_len G.x
    have hl : (stopsM m).length = m.1.length := by simp [stopsM]
    have hon : ∀ s ∈ stopsM m, OnP s.1 := by
      intro s hs
      simp only [stopsM, List.mem_map, List.mem_range] at hs
      obtain ⟨i, hi, rfl⟩ := hs
      exact stop_on hr G hi
    refine Evt.no (by simp) (Evt.bind (e46 m hr G) ?_)
    obtain ⟨l, hL⟩ : ∃ l, l = stopsM m := ⟨_, rfl⟩
    rw [← hL] at hl hon ⊢
    rw [if_pos rfl]
    have hne : ∀ i, trL (l.take (i + 1)) = trS (trL (l.take i)) (l.getD i ([], false, ())) ∨ l.length ≤ i := fun i => by
      by_cases h : i < l.length
      · left
        rw [List.take_succ_eq_append_getElem h, trL_snoc, List.getD_eq_getElem?_getD, List.getElem?_eq_getElem h]; rfl
      · right; omega
    refine for_evt' 0 (l.length : Int) (fun i (_ : Unit) => (l, shutT (trL (l.take i.toNat)), l, (l.length : Int), i, ())) (fun _ _ => True) (b0 := ()) rfl (by omega) trivial ?_ ?_
    · intro i _ h2 h3 _
      obtain ⟨s, hs⟩ := at_of h2 h3
      have hk := trOk_take l hon i.toNat (by omega)
      have hkl := hk.shut
      obtain ⟨p, hp⟩ : ∃ p, trL (l.take i.toNat) = p := ⟨_, rfl⟩
      have hstep : trL (l.take (i + 1).toNat) = trS p s := by rw [hs.take, trL_snoc, hp]
      rw [hp] at hkl
      simp only [hp]
      have again : ∀ o, o = shutT (trS p s) → ∃ b' : Unit, ((l, o, l, (l.length : Int), wr .i64 (i + 1), ()) : List Stp × List Stk × List Stp × Int × Int × Unit) = (l, shutT (trL (l.take (i + 1).toNat)), l, (l.length : Int), i + 1, ()) ∧ True := fun o e => ⟨(), by rw [wr_succ h2 h3 (by omega), hstep, ← e], trivial⟩
      have push : ∀ (hc : s.2.1 = true) (hp0 : p.2 = []), ∃ b' : Unit, ((l, shutT p ++ [[s.1]], l, (l.length : Int), wr .i64 (i + 1), ()) : List Stp × List Stk × List Stp × Int × Int × Unit) = (l, shutT (trL (l.take (i + 1).toNat)), l, (l.length : Int), i + 1, ()) ∧ True := fun hc hp0 => again _ (shut_new hc hp0).symm
      refine Round.yes (decide_eq_true h3) (Round.at hs.idx ?_)
      refine Round.ite (fun c => ?_) (fun c => ?_)
      · have c : s.2.1 = false := by simpa using c
        exact Round.again _ (again _ (shut_up p c).symm)
      have c : s.2.1 = true := by simpa using c
      refine Round.ite (fun c2 => ?_) (fun c2 => ?_)
      · have c2 : i = 0 := by simpa using c2
        have hp0 : p.2 = [] := by rw [← hp, c2]; rfl
        exact Round.chk (decide_eq_true (by simp; omega)) (Round.again _ (push c hp0))
      have c2 : i ≠ 0 := fun e => by simp [e] at c2
      obtain ⟨k, rfl⟩ : ∃ k : Nat, i = ((k + 1 : Nat) : Int) := ⟨(i - 1).toNat, by omega⟩
      obtain ⟨q, hq⟩ := at_of (l := l) (i := (k : Int)) (by omega) (by omega)
      have hpq : p = trS (trL (l.take k)) q := by
        rw [← hp, Int.toNat_natCast]
        have := hq.take
        rw [show ((k : Int) + 1).toNat = k + 1 by omega, Int.toNat_natCast] at this
        rw [this, trL_snoc]
      have hnil := trS_nil (trL (l.take k)) q
      rw [← hpq] at hnil
      have hw : wr .i64 (((k + 1 : Nat) : Int) - 1) = (k : Int) := by rw [wrap_id (by omega) (by omega)]; omega
      rw [hw]
      refine Round.at hq.idx (Round.ite (fun c3 => ?_) (fun c3 => ?_))
      · have c3 : q.2.1 = false := by simpa using c3
        exact Round.chk (decide_eq_true (by simp; omega)) (Round.again _ (push c (hnil.2 c3)))
      · have c3 : p.2 ≠ [] := fun e => by simp [hnil.1 e] at c3
        refine Round.bind (e55 (shutT p) s.1 (by simp [shutT, c3]) (by omega) (fun t ht => (hkl.2 t ht).1)) (Round.again _ (again _ (shut_ext c c3).symm))
    · intro _ _
      simp only [take_all]
      have hk := trOk_take l hon l.length (Nat.le_refl _)
      rw [List.take_length] at hk
      have hkl := hk.shut
      have h0 : idx l 0 = some (l.headD ([], false, ())) := by
        cases l with
        | nil => simp at hl; omega
        | cons a r => rfl
      obtain ⟨q, hq⟩ := at_of (l := l) (i := ((l.length - 1 : Nat) : Int)) (by omega) (by omega)
      have hpq : trL l = trS (trL (l.take (l.length - 1))) q := by
        have := hq.take
        rw [show (((l.length - 1 : Nat) : Int) + 1).toNat = l.length by omega, Int.toNat_natCast, List.take_length] at this
        conv => lhs; rw [this]
        rw [trL_snoc]
      have hnil := trS_nil (trL (l.take (l.length - 1))) q
      rw [← hpq] at hnil
      have hw : wr .i64 ((l.length : Int) - 1) = ((l.length - 1 : Nat) : Int) := by rw [wrap_id (by omega) (by omega)]; omega
      rw [hw]
      have fin : ∀ (K : List Stk), K = trR l → Evt (fun n => if decide ((K.length : Int) > 20) = true then some ((([] : List Stk), (3 : Int), ()), ()) else some ((K, (0 : Int), ()), ())) ((if ((trR l).length : Int) > 20 then (([] : List Stk), (3 : Int), ()) else (trR l, (0 : Int), ())), ()) := fun K e => by
        rw [e]
        refine Evt.ite (fun c => ?_) (fun c => ?_)
        · rw [if_pos (of_decide_eq_true c)]; exact Evt.some _
        · rw [if_neg (by simpa using c)]; exact Evt.some _
      refine Round.no (by simp) (Round.at h0 (Round.ite (fun c => ?_) (fun c => ?_)))
      · refine Round.at hq.idx (Round.ite (fun c2 => ?_) (fun c2 => ?_))
        · have c2 : (trL l).2 ≠ [] := fun e => by simp [hnil.1 e] at c2
          refine Round.at h0 (Round.bind (e55 (shutT (trL l)) (l.headD ([], false, ())).1 (by simp [shutT, c2]) (by omega) (fun t ht => (hkl.2 t ht).1)) (Round.done (fin _ ?_)))
          unfold trR; rw [if_pos ⟨c2, c⟩]
        · have c2 : q.2.1 = false := by simpa using c2
          refine Round.done (fin _ ?_)
          unfold trR; rw [if_neg (fun e => e.1 (hnil.2 c2))]
      · refine Round.done (fin _ ?_)
        unfold trR; rw [if_neg (fun e => c e.2)]
/- spec.l01Steps -/
theorem e93 (a : Int) : Evt (fun n => call T C n 93 (a, ())) ((inR a 8 360, ()), ()) := Evt.next (Evt.bind (e35 a 8 360) (Evt.some _)) (fun n => r93 n a)
/- spec.l01Lift -/
theorem e94 (a : Int) : Evt (fun n => call T C n 94 (a, ())) ((inR a 0 10000, ()), ()) := Evt.next (Evt.bind (e35 a 0 10000) (Evt.some _)) (fun n => r94 n a)
/- spec.l01Ok -/
theorem e83 (l : List Int) (hl : (l.length : Int) ≤ 140737488351232) : Evt (fun n => call T C n 83 (l, ())) ((okC l, ()), ()) := by
  refine Evt.next ?_ (fun n => r83 n l)
  refine Evt.bind (e93 _) ?_
  refine Evt.ite (fun h => ?_) (fun h => ?_)
  · refine (Evt.some _).of_eq fun n => ?_
    have h : inR (l.length : Int) 8 360 = false := by simpa using h
    simp [okC, h]
    rfl
  · have h : inR (l.length : Int) 8 360 = true := by simpa using h
    have he : okC l = l.all okV := by simp [okC, h]
    rw [he]
    refine loop_evt (fun (x : List Int × Int × Unit) => x.1 = l ∧ 0 ≤ x.2.1 ∧ x.2.1 ≤ (l.length : Int) ∧ l.all okV = (l.drop x.2.1.toNat).all okV) (fun (x : List Int × Int × Unit) => ((l.length : Int) - x.2.1).toNat) (x := (l, 0, ())) ⟨rfl, Int.le_refl _, by simp, by simp⟩ ?_
    rintro ⟨x1, i, _⟩ ⟨h', h0, h1, h2⟩
    simp only at h' h0 h1 h2
    subst h'
    refine Round.ite (fun hlt => ?_) (fun hge => ?_)
    · have hlt : i < (x1.length : Int) := of_decide_eq_true hlt
      obtain ⟨v, hv, hv'⟩ := idx_at h0 hlt
      have hd := drop_cons hv'
      refine Round.at hv (Round.bind (e94 _) (Round.ite (fun hb => ?_) (fun hb => ?_)))
      · have hb : okV v = false := by simpa [okV] using hb
        have h3 : x1.all okV = false := by rw [h2, hd]; simp [hb]
        rw [h3]
        exact Round.done (Evt.some _)
      · have hb : okV v = true := by simpa [okV] using hb
        have hw : wr .i64 (i + 1) = i + 1 := wrap_id (by omega) (by omega)
        refine Round.again _ ⟨⟨rfl, ?_, ?_, ?_⟩, ?_⟩ <;> simp only [hw]
        · omega
        · omega
        · rw [h2, hd, show (i + 1).toNat = i.toNat + 1 by omega]
          simp [hb]
        · omega
    · have hge : ¬ i < (x1.length : Int) := by simpa using hge
      have : x1.drop i.toNat = [] := List.drop_of_length_le (by omega)
      rw [h2, this]
      exact Round.done (Evt.some _)
/- spec.l01Range -/
theorem e92 (l : List Int) (hr : Rng l) (h0 : 0 < (l.length : Int)) : Evt (fun n => call T C n 92 (l, ())) ((mnL l, mxL l, ()), ()) := by
  have hlen := hr.len'
  obtain ⟨v0, hv0⟩ := at_of (l := l) (Int.le_refl 0) h0
  refine Evt.next (Evt.at hv0.idx ?_) (fun n => r92 n l)
  rw [hr.id hv0.mem]
  have hh := (head_at hv0).1
  refine for_evt' 1 (l.length : Int) (fun i (_ : Unit) => (l, mnF (l.take i.toNat) v0, mxF (l.take i.toNat) v0, i, ())) (fun _ _ => True) (b0 := ()) (by
    have := (head_at hv0).2
    show _ = (l, mnF (l.take 1) v0, mxF (l.take 1) v0, 1, ())
    rw [this]; simp [mnF, mxF]) (by omega) trivial ?_ ?_
  · intro i _ h2 h3 _
    obtain ⟨v, hv⟩ := at_of (l := l) (show 0 ≤ i by omega) h3
    simp only [wrap_id (x := i + 1) (by omega) (by omega)]
    refine Round.yes (decide_eq_true h3) (Round.at hv.idx (Round.bind (e87 _ _) (Round.at hv.idx (Round.bind (e39 _ _) (Round.again _ ⟨(), ?_, trivial⟩)))))
    rw [hv.take, mnF_snoc, mxF_snoc, hr.id hv.mem]
  · intro _ _
    have e1 : mnF (l.take (l.length : Int).toNat) v0 = mnL l := by rw [take_all, mnL, hh]
    have e2 : mxF (l.take (l.length : Int).toNat) v0 = mxL l := by rw [take_all, mxL, hh]
    simp only [e1, e2]
    exact Round.no (by simp) (Round.done (Evt.some _))
/- spec.l07Moves -/
theorem e82 (l : List Int) (hr : Rng l) : Evt (fun n => call T C n 82 (l, ())) ((mv l, ()), ()) := by
  have hlen := hr.len'
  refine Evt.next (Evt.bind (e83 l (by omega)) ?_) (fun n => r82 n l)
  unfold mv
  cases hok : okC l with
  | false => exact Evt.yes rfl (Evt.some _)
  | true =>
    have := okC_len hok
    exact Evt.no (by simp) (Evt.bind (e92 l hr (by omega)) (Evt.some _))
/- spec.l07Ok -/
theorem e56 (m : Mch) (h : RngM m) : Evt (fun n => call T C n 56 (m, ())) ((okM m, ()), ()) := by
  have hp := h.p.len'
  refine Evt.next (Evt.bind (e82 m.1 h.x) ?_) (fun n => r56 n m)
  unfold okM
  cases mv m.1 with
  | false => exact Evt.no (by simp) (Evt.some _)
  | true =>
    refine Evt.yes rfl (Evt.bind (e82 m.2.1 h.y) ?_)
    cases mv m.2.1 with
    | false => exact Evt.no (by simp) (Evt.some _)
    | true =>
      refine Evt.yes rfl (Evt.bind (e83 m.2.2.1 (by omega)) ?_)
      cases okC m.2.2.1 with
      | false => exact Evt.no (by simp) (Evt.some _)
      | true =>
        refine Evt.yes rfl ?_
        cases ((m.1.length : Int) == (m.2.1.length : Int)) with
        | false => exact Evt.no (by simp) (Evt.some _)
        | true => exact Evt.yes rfl (Evt.some _)
/- spec.l07Stops -/
theorem e58 (m : Mch) (G : GoodM m) : Evt (fun n => call T C n 58 (m, ())) ((stopsM m, ()), ()) := by
  have lx := okC_len G.x
  have e1 := G.xy
  have e2 := G.xp
  refine Evt.next ?_ (fun n => r58 n m)
  refine for_evt' 0 (m.1.length : Int) (fun i (_ : Unit) => (m, (List.range i.toNat).map (stopM m), i, ())) (fun _ _ => True) (b0 := ()) rfl (by omega) trivial ?_ ?_
  · intro i _ h2 h3 _
    have hx := g_idx (l := m.1) h2 h3
    have hy := g_idx (l := m.2.1) h2 (by omega)
    have hp := g_idx (l := m.2.2.1) h2 (by omega)
    refine Round.yes (decide_eq_true h3) (Round.at hx.idx (Round.at hy.idx (Round.at (v := (0 : Int)) rfl (Round.at (v := (0 : Int)) rfl (Round.at hp.idx (Round.chk (decide_eq_true (by simp; omega)) (Round.again _ ⟨(), ?_, trivial⟩)))))))
    rw [wr_succ h2 h3 (by omega), show (i + 1).toNat = i.toNat + 1 by omega, List.range_succ, List.map_append]
    rfl
  · intro _ _
    exact Round.no (by simp) (Round.done (Evt.some _))
/- spec.l07Traced -/
theorem e57 (l : List Stp) (hl : 0 < l.length) (hb : l.length ≤ 1000) (h : ∀ s ∈ l, OnP s.1) : Evt (fun n => call T C n 57 (l, ())) ((trR l, ()), ()) := by
  refine Evt.next ?_ (fun n => r57 n l)
  refine for_evt' 0 (l.length : Int) (fun i (_ : Unit) => (l, (trL (l.take i.toNat)).1, (trL (l.take i.toNat)).2, i, ())) (fun _ _ => True) (b0 := ()) rfl (by omega) trivial ?_ ?_
  · intro i _ h2 h3 _
    obtain ⟨s, hs⟩ := at_of h2 h3
    have hk := trOk_take l h i.toNat (by omega)
    have hkl := hk.len
    have hkn := hk.now.1
    obtain ⟨p, hp⟩ : ∃ p, trL (l.take i.toNat) = p := ⟨_, rfl⟩
    have hstep : trL (l.take (i + 1).toNat) = trS p s := by rw [hs.take, trL_snoc, hp]
    rw [hp] at hkl hkn
    simp only [hp]
    have again : ∀ o w, (o, w) = trS p s → ∃ b' : Unit, ((l, o, w, wr .i64 (i + 1), ()) : List Stp × List Stk × Stk × Int × Unit) = (l, (trL (l.take (i + 1).toNat)).1, (trL (l.take (i + 1).toNat)).2, i + 1, ()) ∧ True := fun o w e => ⟨(), by rw [wr_succ h2 h3 (by omega), hstep, ← e], trivial⟩
    refine Round.yes (decide_eq_true h3) (Round.at hs.idx ?_)
    refine Round.ite (fun c => ?_) (fun c => ?_)
    · have c : s.2.1 = false := by simpa using c
      refine Round.ite (fun c2 => ?_) (fun c2 => ?_)
      · have c2 : p.2 ≠ [] := fun e => by simp [e] at c2
        rw [if_neg c2] at hkl
        exact Round.chk (decide_eq_true (by simp; omega)) (Round.again _ (again _ _ (by simp [trS, c, c2])))
      · have c2 : p.2 = [] := by simpa using c2
        exact Round.again _ (again _ _ (by simp [trS, c, c2]))
    · have c : s.2.1 = true := by simpa using c
      refine Round.ite (fun c2 => ?_) (fun c2 => ?_)
      · have c2 : p.2.length = 60 := by have e : (p.2.length : Int) = 60 := (by simpa using c2); omega
        have hne : p.2 ≠ [] := fun e => by rw [e] at c2; simp at c2
        rw [if_neg hne] at hkl
        have hlast : idx p.2 (wr .i64 ((p.2.length : Int) - 1)) = some (lastM p.2) := by
          rw [c2]
          unfold idx lastM
          rw [show wr .i64 (((60 : Nat) : Int) - 1) = 59 by rfl, if_pos (by omega), List.getLastD_eq_getLast?, List.getLast?_eq_getElem?, c2]
          rw [show ((59 : Int)).toNat = 60 - 1 by rfl, List.getElem?_eq_getElem (by omega)]
          rfl
        exact Round.chk (decide_eq_true (by simp; omega)) (Round.at hlast (Round.at hs.idx (Round.chk (by simp) (Round.again _ (again _ _ (by simp [trS, c, c2]))))))
      · have c2 : p.2.length ≠ 60 := fun e => by simp [e] at c2
        exact Round.at hs.idx (Round.chk (decide_eq_true (by simp; omega)) (Round.again _ (again _ _ (by simp [trS, c, c2]))))
  · intro _ _
    simp only [take_all]
    have hk := trOk_take l h l.length (Nat.le_refl _)
    rw [List.take_length] at hk
    have hkl := hk.len
    have hkn := hk.now.1
    obtain ⟨p, hp⟩ : ∃ p, trL l = p := ⟨_, rfl⟩
    rw [hp] at hkl hkn
    have h0 : idx l 0 = some (l.headD ([], false, ())) := by
      cases l with
      | nil => simp at hl
      | cons a r => rfl
    have hR := trR_eq l
    rw [hp] at hR
    simp only [hp, hR]
    clear hR
    generalize l.headD ([], false, ()) = hd at h0 ⊢
    refine Round.no (by simp) (Round.ite (fun c => ?_) (fun c => ?_))
    · have c : p.2 ≠ [] := fun e => by simp [e] at c
      rw [if_neg c] at hkl ⊢
      refine Round.at h0 (Round.ite (fun c2 => ?_) (fun c2 => ?_))
      · rw [if_pos c2]
        refine Round.ite (fun c3 => ?_) (fun c3 => ?_)
        · have c3 : p.2.length = 60 := by have e : (p.2.length : Int) = 60 := (by simpa using c3); omega
          have hlast : idx p.2 (wr .i64 ((p.2.length : Int) - 1)) = some (lastM p.2) := by
            rw [c3]
            unfold idx lastM
            rw [show wr .i64 (((60 : Nat) : Int) - 1) = 59 by rfl, if_pos (by omega), List.getLastD_eq_getLast?, List.getLast?_eq_getElem?, c3]
            rw [show ((59 : Int)).toNat = 60 - 1 by rfl, List.getElem?_eq_getElem (by omega)]
            rfl
          refine Round.chk (decide_eq_true (by simp; omega)) (Round.at hlast (Round.at h0 (Round.chk (by simp) (Round.chk (decide_eq_true (by simp; omega)) (Round.done ((Evt.some _).of_eq fun n => ?_))))))
          simp [trS, c2, c3, shutT]
          try rfl
        · have c3 : p.2.length ≠ 60 := fun e => by simp [e] at c3
          refine Round.at h0 (Round.chk (decide_eq_true (by simp; omega)) (Round.chk (decide_eq_true (by simp; omega)) (Round.done ((Evt.some _).of_eq fun n => ?_))))
          simp [trS, c2, c3, shutT]
          try rfl
      · rw [if_neg c2]
        exact Round.chk (decide_eq_true (by simp; omega)) (Round.done (Evt.some _))
    · have c : p.2 = [] := by simpa using c
      rw [if_pos c]
      exact Round.done (Evt.some _)
/- spec.StrokesOf -/
theorem e22 (m : Mch) (hr : RngM m) : Evt (fun n => call T C n 22 (m, ())) (soR m, ()) := by
  refine Evt.next (Evt.bind (e56 m hr) ?_) (fun n => r22 n m)
  unfold soR
  cases hM : okM m with
  | false => exact Evt.yes rfl (Evt.some _)
  | true =>
    have G := goodM hM
    have lx := okC_len G.x
    have hl : (stopsM m).length = m.1.length := by simp [stopsM]
    have hon : ∀ s ∈ stopsM m, OnP s.1 := by
      intro s hs
      simp only [stopsM, List.mem_map, List.mem_range] at hs
      obtain ⟨i, hi, rfl⟩ := hs
      exact stop_on hr G hi
    refine Evt.no (by simp) (Evt.bind (e58 m G) (Evt.bind (e57 (stopsM m) (by omega) (by omega) hon) ?_))
    refine Evt.ite (fun c => ?_) (fun c => ?_)
    · rw [if_pos rfl, if_pos (of_decide_eq_true c)]; exact Evt.some _
    · rw [if_pos rfl, if_neg (by simpa using c)]; exact Evt.some _
/- spec.SameStrokes -/
theorem e23 (K : List Stk) (hl : (K.length : Int) ≤ 1000000) (he : ∀ s ∈ K, (s.length : Int) ≤ 140737488351232) : Evt (fun n => call T C n 23 (K, K, ())) ((true, ()), ()) := by
  refine Evt.next (Evt.no (by simp) ?_) (fun n => r23 n K K)
  refine for_evt 0 (K.length : Int) (fun i (_ : Unit) => (K, K, i, ())) (fun _ _ => True) (b0 := ()) (by omega) trivial ?_ ?_
  · intro i _ h2 h3 _
    obtain ⟨v, hv⟩ := at_of h2 h3
    exact Round.yes (decide_eq_true h3) (Round.at hv.idx (Round.at hv.idx (Round.bind (e59 v v (by have := he v hv.mem; omega)) (Round.no (by simp) (Round.again _ ⟨(), by rw [wr_succ h2 h3 (by omega)], trivial⟩)))))
  · intro _ _
    exact Round.no (by simp) (Round.done (Evt.some _))
/- laws.FnCompiled -/
theorem e3 (a b : List Int) (hd : DomA (C 3).params (a, b, ())) : Evt (fun n => call T C n 3 (a, b, ())) ((true, ()), ()) := by
  have ha : ∀ v ∈ a, 0 ≤ v ∧ v ≤ 255 := fun v hv => hd.1.2 v hv
  have hb : ∀ v ∈ b, 0 ≤ v ∧ v ≤ 255 := fun v hv => hd.2.1.2 v hv
  refine Evt.next (Evt.bind (e4 a) (Evt.ite (fun _ => Evt.some _) (fun h1 => Evt.bind (e4 b) (Evt.ite (fun _ => Evt.some _) (fun h2 => ?_))))) (fun n => r3 n a b)
  have la : (a.length : Int) ≤ 4096 := by simpa using h1
  have lb : (b.length : Int) ≤ 4096 := by
    have h : ¬ decide ((b.length : Int) > 4096) = true := h2
    simpa using h
  obtain ⟨K, hK, S⟩ := e5 ha la
  obtain ⟨v, hV, v0, v1⟩ := e6 hb lb (m := 12) (by omega) (by omega)
  refine Evt.bind hK (Evt.bind hV ?_)
  rw [wrap_id (x := 1 + v) (by omega) (by omega)]
  obtain ⟨most, hmost⟩ : ∃ most, most = 1 + v := ⟨_, rfl⟩
  rw [← hmost]
  have m1 : 1 ≤ most := by omega
  have m2 : most ≤ 63 := by omega
  have hr := S.rng
  have hc := skCode_ok (by have := S.1; omega) S.good
  have hpl := psR_len K most
  have hcl := csR_small K most
  refine Evt.bind (e7 K hr most) (Evt.bind (e8 K hr most) (Evt.bind (e9 K hr most) (Evt.bind (e10 K hr most) (Evt.bind (e11 hr hc) (Evt.bind (e12 hr hc) ?_)))))
  refine Evt.no (by simp) (Evt.bind (e13 (psR K most).1 (by omega)) (Evt.no (by simp) (Evt.no (by simp) (Evt.bind (e14 (csR K most).1 (by omega) (by omega) (by omega)) (Evt.no (by simp) (Evt.no (by simp) (Evt.no (by simp) (Evt.no (by simp) ?_))))))))
  rcases csR_cases S m1 m2 with ⟨e1, e2⟩ | ⟨e1, hl, e2⟩
  · refine Evt.yes (by rw [e1]; rfl) (Evt.yes (by rw [e1]; rfl) ((Evt.some _).of_eq fun n => ?_))
    rw [e2]; rfl
  · have M := cmpM S m1 m2 hl
    have hmv := cmp_moves m1 M
    rw [e1, e2]
    generalize hmm : mfR (plP most.toNat K) (max 8 (plP most.toNat K).length) = m at M hmv
    generalize hll : plP most.toNat K = l at *
    have hml := M.mlen
    have hlen := M.len
    have hx : (m.1.length : Int) ≤ 360 := by omega
    have G := goodM M.ok
    have hxy := G.xy
    have hxp := G.xp
    have hsl : (stopsM m).length = m.1.length := by simp [stopsM]
    have hst := M.stops
    have hD := e15 m M.rng
    have hDm : dmR m = (plt (drK K), 0, ()) := by unfold dmR; rw [if_pos M.ok, M.draw]
    rw [hDm] at hD
    have hW : W64 (plt (drK K)) := by rw [← M.draw]; exact drawTo_el m _
    have hC := e16 m M.rng (p := plt (drK K)) (plt_len _) hW
    have hCm : cmR m (plt (drK K)) = (0, [0, 0], 6, ()) := by
      unfold cmR
      rw [if_pos M.ok, M.draw, allS_same]; rfl
    rw [hCm] at hC
    refine Evt.no (by simp) (Evt.bind hD (Evt.bind hC (Evt.bind (e17 M.rng M.ok) (Evt.bind (e18 M.rng M.ok) ?_))))
    refine Evt.no (by simp) (Evt.no (by simp) (Evt.no (by simp) (Evt.no (by simp) (Evt.no ?_ (Evt.no (by simp) (Evt.no ?_ (Evt.chk ?_ ?_)))))))
    · show ¬ decide ((gr (mvS (stopsM m))).2.1 > most) = true
      intro h
      have := of_decide_eq_true h
      omega
    · show ¬ decide (((stopsM m).length : Int) < (l.length : Int)) = true
      intro h
      have := of_decide_eq_true h
      omega
    · exact decide_eq_true ⟨by omega, by show (0 : Int) ≤ (l.length : Int); omega, by show (l.length : Int) ≤ ((stopsM m).length : Int); omega⟩
    have htk : ((stopsM m).take (l.length : Int).toNat).drop (0 : Int).toNat = l := by
      rw [hst, Int.toNat_natCast]
      show (csL l (max 8 l.length)).take l.length = l
      unfold csL
      rw [List.take_left]
    simp only [htk]
    have hVM := e19 m M.rng
    rw [M.ok] at hVM
    have hF := e20 l (k := (stopsM m).length) (by omega) (by omega) (by omega) M.on
    rw [hsl, hml, hmm] at hF
    obtain ⟨hsr, hs20, hst2⟩ := soR_rng M.rng
    refine Evt.bind (e13 l (by omega)) (Evt.no (by simp) (Evt.bind hVM (Evt.no (by simp) ?_)))
    simp only [hsl, hml]
    refine Evt.bind hF (Evt.bind (e21 m M.rng) (Evt.bind (e22 m M.rng) ?_))
    refine Evt.no (by simp) (Evt.bind (e14 m (by omega) (by omega) (by omega)) (Evt.no (by simp) (Evt.no (by simp) (Evt.bind (e23 (soR m).1 (by omega) (fun s hs => by have := (hsr.el s hs).1; omega)) (Evt.no (by simp) ?_)))))
    by_cases h0 : (soR m).2.1 = 0
    · obtain ⟨d1, d2⟩ := soR_draws M.rng M.ok h0
      have hDr := e11 hsr d1
      rw [d2, M.draw] at hDr
      refine Evt.no (by simp [h0]) (Evt.bind hDr (Evt.yes rfl ((Evt.some _).of_eq fun n => ?_)))
      rw [decide_eq_true rfl]; rfl
    · have h3 : (soR m).2.1 = 3 := by
        unfold soR at h0 ⊢
        rw [if_pos M.ok] at h0 ⊢
        split at h0
        · rename_i c; rw [if_pos c]
        · exact absurd rfl h0
      refine Evt.yes (by simp [h3]) ((Evt.some _).of_eq fun n => ?_)
      rw [h3]; rfl

end Go.Cams.YtgcncghbeplgnaaDoorLCo
