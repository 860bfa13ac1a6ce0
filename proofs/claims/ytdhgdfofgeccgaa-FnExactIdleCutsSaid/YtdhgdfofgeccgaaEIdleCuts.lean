/- What the functions that the law reaches come to. -/
import Derived.Test.YtdhgdfofgeccgaaRIdleCuts
import Derived.Test.YtdhgdfofgeccgaaPuAll
namespace Go.Cams.YtdhgdfofgeccgaaLIdleCuts
open Go Go.Fw Go.Proofs Go.Proofs.Ytdhgdfofgeccgaa.LIdleCuts
/- laws.szCutter -/
theorem e146 (l : List Int) (a : Int) : Evt (fun n => call T C n 146 (l, a, ())) ((sz1 l a, ()), ()) := by
  refine Evt.next ?_ (fun n => r146 n l a)
  unfold sz1
  refine Evt.ite (fun h => ?_) (fun h => ?_)
  · rw [if_pos (of_decide_eq_true h)]; exact Evt.some _
  · rw [if_neg (by simpa using h)]; exact Evt.some _
/- laws.szCutterS -/
theorem e57 (K : List (List Int)) (hl : (K.length : Int) ≤ 140737488351232) (a : Int) : Evt (fun n => call T C n 57 (K, a, ())) ((szL K a, ()), ()) := by
  refine Evt.next ?_ (fun n => r57 n K a)
  unfold szL
  refine Evt.ite (fun h => ?_) (fun h => ?_)
  · rw [if_pos (of_decide_eq_true h)]; exact Evt.some _
  · rw [if_neg (by simpa using h)]
    generalize wr .i64 (a - (K.length : Int)) = b
    refine for_evt' 0 (K.length : Int) (fun i (c : Int) => (K, c, i, ())) (fun i c => szLf K b = szLf (K.drop i.toNat) c) (b0 := b) rfl (by omega) (by simp) ?_ ?_
    · intro i c h2 h3 hp
      obtain ⟨v, hv⟩ := at_of h2 h3
      rw [hv.drop] at hp
      simp only [szLf] at hp
      refine Round.yes (decide_eq_true h3) (Round.at hv.idx (Round.bind (e146 v c) (Round.ite (fun hb => ?_) (fun hb => ?_))))
      · rw [hp, if_pos (of_decide_eq_true hb)]
        exact Round.done (Evt.some _)
      · rw [if_neg (by simpa using hb)] at hp
        exact Round.again _ ⟨sz1 v c, by rw [wr_succ h2 h3 (by omega)], hp⟩
    · intro c hp
      rw [drop_all] at hp
      rw [hp]
      exact Round.no (by simp) (Round.done (Evt.some _))
/- laws.szCutS -/
theorem e58 (l : List Ct) (a : Int) : Evt (fun n => call T C n 58 (l, a, ())) (((if wr .i64 (a - (l.length : Int)) < 0 then -1 else wr .i64 (a - (l.length : Int))), ()), ()) := by
  refine Evt.next ?_ (fun n => r58 n l a)
  refine Evt.ite (fun h => ?_) (fun h => ?_)
  · rw [if_pos (of_decide_eq_true h)]; exact Evt.some _
  · rw [if_neg (by simpa using h)]; exact Evt.some _
/- laws.toCutter -/
theorem e151 (l : List Int) (hl : (l.length : Int) * 2 ≤ 140737488351232) : Evt (fun n => call T C n 151 (l, ())) ((l, ()), ()) := by
  refine Evt.next (Evt.chk (by simp; omega) ?_) (fun n => r151 n l)
  refine for_evt 0 (l.length : Int) (fun i (b : List Int) => (l, b, i, ())) (fun i b => b.length = l.length ∧ b.take i.toNat = l.take i.toNat) (b0 := List.replicate (Int.toNat (l.length : Int)) 0) (by omega) ⟨by simp, by simp⟩ ?_ ?_
  · intro i b h2 h3 ⟨hb, ht⟩
    have hi : i < (b.length : Int) := by omega
    obtain ⟨v, hv⟩ := at_of h2 h3
    obtain ⟨u, hu⟩ := get_of_lt h2 hi
    refine Round.yes (decide_eq_true h3) (Round.at hv.idx (Round.chk (chk_at h2 hi) (Round.at hu (Round.again _ ⟨b.set i.toNat v, ?_, by simpa using hb, ?_⟩))))
    · rw [wr_succ h2 h3 (by omega)]
    · rw [take_set_succ h2 hi, ht, hv.take]
  · intro b ⟨hb, ht⟩
    have e : b = l := by rw [← take_all b, hb, ht]; simp
    rw [e]
    exact Round.no (by simp) (Round.done (Evt.some _))
/- laws.toCutterS -/
theorem e60 (K : List (List Int)) (hr : RngS K) : Evt (fun n => call T C n 60 (K, ())) ((K, ()), ()) := by
  have hl := hr.len
  refine Evt.next (Evt.chk (by simp; omega) ?_) (fun n => r60 n K)
  refine for_evt' 0 (K.length : Int) (fun i (b : List (List Int)) => (K, b, i, ())) (fun i b => b.length = K.length ∧ b.take i.toNat = K.take i.toNat) (b0 := List.replicate (Int.toNat (K.length : Int)) []) rfl (by omega) ⟨by simp, by simp⟩ ?_ ?_
  · intro i b h2 h3 ⟨hb, ht⟩
    have hi : i < (b.length : Int) := by omega
    obtain ⟨v, hv⟩ := at_of h2 h3
    obtain ⟨u, hu⟩ := get_of_lt h2 hi
    refine Round.yes (decide_eq_true h3) (Round.at hv.idx (Round.bind (e151 v (hr.el v hv.mem).len) (Round.chk (chk_at h2 hi) (Round.at hu (Round.again _ ⟨b.set i.toNat v, ?_, by simpa using hb, ?_⟩)))))
    · rw [wr_succ h2 h3 (by omega)]
    · rw [take_set_succ h2 hi, ht, hv.take]
  · intro b ⟨hb, ht⟩
    have e : b = K := by rw [← take_all b, hb, ht]; simp
    rw [e]
    exact Round.no (by simp) (Round.done (Evt.some _))
/- laws.toCut -/
theorem e152 (v : Ct) : Evt (fun n => call T C n 152 (v, ())) ((v, ()), ()) := Evt.next (Evt.some ((v, ()), ())) (fun n => r152 n v)
/- laws.toCutS -/
theorem e61 (l : List Ct) (hr : RngC l) : Evt (fun n => call T C n 61 (l, ())) ((l, ()), ()) := by
  have hl := hr.len
  refine Evt.next (Evt.chk (by simp; omega) ?_) (fun n => r61 n l)
  refine for_evt' 0 (l.length : Int) (fun i (b : List Ct) => (l, b, i, ())) (fun i b => b.length = l.length ∧ b.take i.toNat = l.take i.toNat) (b0 := List.replicate (Int.toNat (l.length : Int)) (0, 0, 0, ())) rfl (by omega) ⟨by simp, by simp⟩ ?_ ?_
  · intro i b h2 h3 ⟨hb, ht⟩
    have hi : i < (b.length : Int) := by omega
    obtain ⟨v, hv⟩ := at_of h2 h3
    obtain ⟨u, hu⟩ := get_of_lt h2 hi
    refine Round.yes (decide_eq_true h3) (Round.at hv.idx (Round.bind (e152 v) (Round.chk (chk_at h2 hi) (Round.at hu (Round.again _ ⟨b.set i.toNat v, ?_, by simpa using hb, ?_⟩)))))
    · rw [wr_succ h2 h3 (by omega)]
    · rw [take_set_succ h2 hi, ht, hv.take]
  · intro b ⟨hb, ht⟩
    have e : b = l := by rw [← take_all b, hb, ht]; simp
    rw [e]
    exact Round.no (by simp) (Round.done (Evt.some _))
/- spec.l00In -/
theorem e85 (a b c : Int) : Evt (fun n => call T C n 85 (a, b, c, ())) ((inR a b c, ()), ()) := by
  refine Evt.next ?_ (fun n => r85 n a b c)
  refine Evt.ite (fun h => ?_) (fun h => ?_)
  · refine (Evt.some _).of_eq fun n => ?_
    have h : b ≤ a := of_decide_eq_true h
    simp [inR, h]
    rfl
  · refine (Evt.some _).of_eq fun n => ?_
    have h : ¬ b ≤ a := by simpa using h
    simp [inR, h]
    rfl
/- spec.l06Some -/
theorem e191 (K : List (List Int)) : Evt (fun n => call T C n 191 (K, ())) ((inR (K.length : Int) 1 8, ()), ()) := Evt.next (Evt.bind (e85 _ _ _) (Evt.some _)) (fun n => r191 n K)
/- spec.l01Lift -/
theorem e108 (a : Int) : Evt (fun n => call T C n 108 (a, ())) ((inR a 0 10000, ()), ()) := Evt.next (Evt.bind (e85 a 0 10000) (Evt.some _)) (fun n => r108 n a)
/- spec.l06Ok -/
theorem e211 (k : List Int) (hr : Rng k) : Evt (fun n => call T C n 211 (k, ())) ((okK k, ()), ()) := by
  have hl := hr.len'
  refine Evt.next (Evt.bind (e85 _ _ _) ?_) (fun n => r211 n k)
  unfold okK
  cases h1 : inR (k.length : Int) 1 31 with
  | false => exact Evt.yes rfl (Evt.some _)
  | true =>
    have hb := inR_iff.1 h1
    have hm : Int.tmod (k.length : Int) 2 = ((k.length % 2 : Nat) : Int) := by rw [show (2 : Int) = ((2 : Nat) : Int) from rfl, ← Int.ofNat_tmod]
    have hd : Int.tdiv (k.length : Int) 2 = ((k.length / 2 : Nat) : Int) := by rw [show (2 : Int) = ((2 : Nat) : Int) from rfl, ← Int.ofNat_tdiv]
    rw [hm, hd, wrap_id (x := ((k.length / 2 : Nat) : Int)) (by omega) (by omega)]
    refine Evt.no (by simp) (Evt.chk rfl (Evt.ite (fun h => ?_) (fun h => ?_)))
    · have h : k.length % 2 = 0 := by
        have h' : (k.length : Int) % 2 = 0 := by simpa using h
        omega
      have e : decide (k.length % 2 = 1) = false := decide_eq_false (by omega)
      rw [e]; exact Evt.some _
    · have h : k.length % 2 = 1 := by
        have h' : ¬ (k.length : Int) % 2 = 0 := by simpa using h
        omega
      have e : decide (k.length % 2 = 1) = true := decide_eq_true h
      rw [e]
      have hmid := g_idx (l := k) (i := ((k.length / 2 : Nat) : Int)) (by omega) (by omega)
      rw [Int.toNat_natCast] at hmid
      refine Evt.chk rfl (Evt.at hmid.idx (Evt.ite (fun h0 => ?_) (fun h0 => ?_)))
      · have h0 : (g k (k.length / 2) == 0) = false := by simpa using h0
        rw [h0]; exact Evt.some _
      · have h0 : (g k (k.length / 2) == 0) = true := by simpa using h0
        rw [h0]
        simp only [Bool.true_and]
        refine for_evt' 0 (((k.length / 2 : Nat) : Int) + 1) (fun i (_ : Unit) => (k, (k.length : Int), i, ())) (fun i _ => allTo (kOne k) i.toNat = true) (b0 := ()) rfl (by omega) (by rfl) ?_ ?_
        · intro i _ h2 h3 hp
          obtain ⟨a, rfl⟩ : ∃ a : Nat, i = a := ⟨i.toNat, by omega⟩
          rw [Int.toNat_natCast] at hp
          have h3' : a < k.length / 2 + 1 := by omega
          have hai := g_idx (l := k) (i := (a : Int)) (by omega) (by omega)
          have haj := g_idx (l := k) (i := (k.length : Int) - 1 - a) (by omega) (by omega)
          rw [Int.toNat_natCast] at hai
          rw [show ((k.length : Int) - 1 - a).toNat = k.length - 1 - a by omega] at haj
          have bad : kOne k a = false → allTo (kOne k) (k.length / 2 + 1) = false := allTo_false h3'
          simp only [hd, wrap_id (x := ((k.length / 2 : Nat) : Int)) (by omega) (by omega), wrap_id (x := (a : Int) + 1) (by omega) (by omega), wrap_id (x := (a : Int) - 1) (by omega) (by omega), wrap_id (x := (k.length : Int) - 1) (by omega) (by omega), wrap_id (x := (k.length : Int) - 1 - (a : Int)) (by omega) (by omega)]
          refine Round.chk rfl (Round.yes (decide_eq_true (by omega)) (Round.at hai.idx (Round.bind (e108 _) (Round.ite (fun c1 => ?_) (fun c1 => ?_)))))
          · have c1 : inR (wr .i64 (g k a)) 0 10000 = false := by simpa using c1
            rw [bad (by simp [kOne, c1])]
            exact Round.done (Evt.some _)
          have c1 : inR (wr .i64 (g k a)) 0 10000 = true := by simpa using c1
          refine Round.at haj.idx (Round.at hai.idx (Round.ite (fun c2 => ?_) (fun c2 => ?_)))
          · have c2 : (g k (k.length - 1 - a) == g k a) = false := by simpa using c2
            rw [bad (by simp [kOne, c2])]
            exact Round.done (Evt.some _)
          have c2 : (g k (k.length - 1 - a) == g k a) = true := by simpa using c2
          have again : kOne k a = true → ∃ b' : Unit, ((k, (k.length : Int), (a : Int) + 1, ()) : List Int × Int × Int × Unit) = (k, (k.length : Int), (a : Int) + 1, ()) ∧ allTo (kOne k) ((a : Int) + 1).toNat = true := fun h => ⟨(), rfl, by rw [show ((a : Int) + 1).toNat = a + 1 by omega, allTo_succ, hp, h]; rfl⟩
          refine Round.ite (fun c3 => ?_) (fun c3 => ?_)
          · have c3 : (a : Int) > 0 := of_decide_eq_true c3
            have hab := g_idx (l := k) (i := (a : Int) - 1) (by omega) (by omega)
            rw [show ((a : Int) - 1).toNat = a - 1 by omega] at hab
            refine Round.at hab.idx (Round.at hai.idx (Round.ite (fun c4 => ?_) (fun c4 => ?_)))
            · have c4 : g k (a - 1) < g k a := by simpa using c4
              rw [bad (by simp [kOne, c4]; omega)]
              exact Round.done (Evt.some _)
            · have c4 : ¬ g k (a - 1) < g k a := by simpa using c4
              exact Round.again _ (again (by simp only [kOne, c1, c2]; simp; omega))
          · have c3 : ¬ (a : Int) > 0 := by simpa using c3
            exact Round.no (by simp) (Round.again _ (again (by simp only [kOne, c1, c2]; simp; omega)))
        · intro _ hp
          have hp : allTo (kOne k) (k.length / 2 + 1) = true := by
            rw [show (((k.length / 2 : Nat) : Int) + 1).toNat = k.length / 2 + 1 by omega] at hp; exact hp
          rw [hp]
          simp only [hd, wrap_id (x := ((k.length / 2 : Nat) : Int)) (by omega) (by omega)]
          exact Round.chk rfl (Round.no (by simp; omega) (Round.done (Evt.some _)))
/- spec.l06Cutters -/
theorem e192 (K : List (List Int)) (hr : RngS K) : Evt (fun n => call T C n 192 (K, ())) ((okKs K, ()), ()) := by
  have hl := hr.len'
  refine Evt.next ?_ (fun n => r192 n K)
  refine for_evt' 0 (K.length : Int) (fun i (_ : Unit) => (K, i, ())) (fun i _ => okKs K = (K.drop i.toNat).all okK) (b0 := ()) rfl (by omega) (by simp [okKs]) ?_ ?_
  · intro i _ h2 h3 hp
    obtain ⟨v, hv⟩ := at_of h2 h3
    rw [hv.drop, List.all_cons] at hp
    refine Round.yes (decide_eq_true h3) (Round.at hv.idx (Round.bind (e211 v (hr.el v hv.mem)) ?_))
    cases hb : okK v with
    | false => rw [hp, hb]; exact Round.yes rfl (Round.done (Evt.some _))
    | true =>
      rw [hb, Bool.true_and] at hp
      exact Round.no (by simp) (Round.again _ ⟨(), by rw [wr_succ h2 h3 (by omega)], hp⟩)
  · intro _ hp
    rw [drop_all] at hp
    rw [hp]
    exact Round.no (by simp) (Round.done (Evt.some _))
/- spec.l06Plain -/
theorem e193 (l : List Ct) (m : Int) : Evt (fun n => call T C n 193 (l, m, ())) ((okCt l m, ()), ()) := by
  refine Evt.next ?_ (fun n => r193 n l m)
  unfold okCt
  refine Evt.ite (fun h => ?_) (fun h => ?_)
  · have h : (l.length : Int) > 400 := of_decide_eq_true h
    rw [decide_eq_false (show ¬ (l.length : Int) ≤ 400 by omega)]
    exact Evt.some _
  have h : ¬ (l.length : Int) > 400 := by simpa using h
  rw [decide_eq_true (show (l.length : Int) ≤ 400 by omega)]
  simp only [Bool.true_and]
  refine for_evt' 0 (l.length : Int) (fun i (_ : Unit) => (l, m, i, ())) (fun i _ => l.all (ctOk m) = (l.drop i.toNat).all (ctOk m)) (b0 := ()) rfl (by omega) (by simp) ?_ ?_
  · intro i _ h2 h3 hp
    obtain ⟨v, hv⟩ := at_of h2 h3
    have bad : ctOk m v = false → l.all (ctOk m) = false := all_false hv.mem
    rw [hv.drop, List.all_cons] at hp
    refine Round.yes (decide_eq_true h3) (Round.at hv.idx (Round.bind (e85 _ _ _) ?_))
    cases c1 : inR (wr .i64 v.1) 0 359 with
    | false => rw [bad (by simp [ctOk, c1])]; exact Round.yes rfl (Round.done (Evt.some _))
    | true =>
      refine Round.no (by simp) (Round.bind (e108 _) ?_)
      cases c2 : inR (wr .i64 v.2.1) 0 10000 with
      | false => rw [bad (by simp [ctOk, c2])]; exact Round.yes rfl (Round.done (Evt.some _))
      | true =>
        refine Round.no (by simp) (Round.bind (e85 _ _ _) ?_)
        cases c3 : inR (wr .i64 v.2.2.1) 0 (wr .i64 (m - 1)) with
        | false => rw [bad (by simp [ctOk, c3])]; exact Round.yes rfl (Round.done (Evt.some _))
        | true =>
          have : ctOk m v = true := by simp [ctOk, c1, c2, c3]
          rw [this, Bool.true_and] at hp
          exact Round.no (by simp) (Round.again _ ⟨(), by rw [wr_succ h2 h3 (by omega)], hp⟩)
  · intro _ hp
    rw [drop_all] at hp
    rw [hp]
    exact Round.no (by simp) (Round.done (Evt.some _))
/- spec.l06Cuts -/
theorem e147 (l : List Ct) (K : List (List Int)) (hk : RngS K) : Evt (fun n => call T C n 147 (l, K, ())) ((okCuts l K, ()), ()) := by
  refine Evt.next (Evt.bind (e191 K) ?_) (fun n => r147 n l K)
  unfold okCuts
  cases inR (K.length : Int) 1 8 with
  | false => exact Evt.no (by simp) (Evt.some _)
  | true =>
    refine Evt.yes rfl (Evt.bind (e192 K hk) ?_)
    cases okKs K with
    | false => exact Evt.no (by simp) (Evt.some _)
    | true => exact Evt.yes rfl (Evt.bind (e193 l _) (Evt.some _))
/- spec.l01Steps -/
theorem e117 (a : Int) : Evt (fun n => call T C n 117 (a, ())) ((inR a 8 360, ()), ()) := Evt.next (Evt.bind (e85 a 8 360) (Evt.some _)) (fun n => r117 n a)
/- spec.l06On -/
theorem e148 (l : List Ct) (hr : RngC l) (m : Int) : Evt (fun n => call T C n 148 (l, m, ())) ((onCt l m, ()), ()) := by
  have hl := hr.len'
  refine Evt.next ?_ (fun n => r148 n l m)
  refine for_evt' 0 (l.length : Int) (fun i (_ : Unit) => (l, m, i, ())) (fun i _ => onCt l m = onCt (l.drop i.toNat) m) (b0 := ()) rfl (by omega) (by simp) ?_ ?_
  · intro i _ h2 h3 hp
    obtain ⟨v, hv⟩ := at_of h2 h3
    rw [hv.drop] at hp
    simp only [onCt, List.all_cons] at hp
    refine Round.yes (decide_eq_true h3) (Round.at hv.idx (Round.ite (fun hb => ?_) (fun hb => ?_)))
    · have e : onCt l m = false := by unfold onCt; rw [hp, hb]; rfl
      rw [e]; exact Round.done (Evt.some _)
    · have hb : decide (wr .i64 v.1 ≥ m) = false := by simpa using hb
      refine Round.again _ ⟨(), by rw [wr_succ h2 h3 (by omega)], ?_⟩
      unfold onCt
      rw [hp, hb]; rfl
  · intro _ hp
    rw [drop_all] at hp
    rw [hp]
    exact Round.no (by simp) (Round.done (Evt.some _))
/- spec.l06Blank -/
theorem e149 {n0 x : Int} (hn : inR n0 8 360 = true) (hx : inR x 0 10000 = true) : Evt (fun n => call T C n 149 (n0, x, ())) ((List.replicate n0.toNat x, ()), ()) := by
  have hn := inR_iff.1 hn
  have hx := inR_iff.1 hx
  refine Evt.next ?_ (fun n => r149 n n0 x)
  refine for_evt' 0 n0 (fun i (_ : Unit) => (n0, x, List.replicate i.toNat x, i, ())) (fun _ _ => True) (b0 := ()) rfl (by omega) trivial ?_ ?_
  · intro i _ h2 h3 _
    refine Round.yes (decide_eq_true h3) (Round.chk (by simp; omega) (Round.again _ ⟨(), ?_, trivial⟩))
    rw [wr_succ h2 h3 (by omega), wrap16 (x := x) (by omega) (by omega), show (i + 1).toNat = i.toNat + 1 by omega, List.replicate_succ']
  · intro _ _
    exact Round.no (by simp) (Round.done (Evt.some _))
/- spec.l06Cut -/
theorem e150 {o k : List Int} (hk : Rng k) (hl0 : 0 < o.length) (hl1 : o.length ≤ 1000) (ho : ∀ v ∈ o, 0 ≤ v ∧ v ≤ 10000) (G : GoodK k) {s t : Int} (h0 : 0 ≤ s) (h1 : s ≤ 1000000) (t0 : 0 ≤ t) (t1 : t ≤ 1000000) : Evt (fun n => call T C n 150 (o, k, s, t, ())) (((cutTo k s t o k.length).1, (cutTo k s t o k.length).2, ()), ()) := by
  have hd : Int.tdiv (k.length : Int) 2 = ((k.length / 2 : Nat) : Int) := by rw [show (2 : Int) = ((2 : Nat) : Int) from rfl, ← Int.ofNat_tdiv]
  have hlo := G.lo
  have hhi := G.hi
  have hodd := G.odd
  refine Evt.next (Evt.chk (by simp; omega) (Evt.chk rfl ?_)) (fun n => r150 n o k s t)
  rw [hd, wrap_id (x := ((k.length / 2 : Nat) : Int)) (by omega) (by omega), wrap_id (x := 0 - ((k.length / 2 : Nat) : Int)) (by omega) (by omega)]
  refine for_evt' 0 (k.length : Int) (fun i (_ : Unit) => (k, s, t, (cutTo k s t o i.toNat).1, (o.length : Int), ((k.length / 2 : Nat) : Int), (cutTo k s t o i.toNat).2, i - ((k.length / 2 : Nat) : Int), ())) (fun _ _ => True) (b0 := ()) (by simp [cutTo]) (by omega) trivial ?_ ?_
  · intro i _ h2 h3 _
    obtain ⟨a, rfl⟩ : ∃ a : Nat, i = a := ⟨i.toNat, by omega⟩
    have hai := g_idx (l := k) (i := (a : Int)) (by omega) (by omega)
    rw [Int.toNat_natCast] at hai
    have hka := G.el a (by omega)
    obtain ⟨b1, b2, b3⟩ := cutTo_bd k s hl0 t0 (fun i hi => (G.el i hi).1) ho a (by omega)
    have hlen := cutTo_len k s t o a
    have hpl := place_lt k s hl0 a
    have hplace : ((place k s o.length a : Nat) : Int) = (s + (a : Int) - ((k.length / 2 : Nat) : Int)) % (o.length : Int) := by
      have := Int.emod_nonneg (s + (a : Int) - ((k.length / 2 : Nat) : Int)) (show (o.length : Int) ≠ 0 by omega)
      unfold place half
      omega
    have hat := g_idx (l := (cutTo k s t o a).1) (i := ((place k s o.length a : Nat) : Int)) (by omega) (by omega)
    rw [Int.toNat_natCast] at hat
    have hv := b1 _ (g_mem (l := (cutTo k s t o a).1) (i := place k s o.length a) (by omega))
    have hget : (cutTo k s t o a).1[place k s o.length a]? = some (g (cutTo k s t o a).1 (place k s o.length a)) := by have := hat.get; rwa [Int.toNat_natCast] at this
    have hat2 : Int.tmod (wr .i64 (Int.tmod (s + (a : Int) - ((k.length / 2 : Nat) : Int)) (o.length : Int) + (o.length : Int))) (o.length : Int) = ((place k s o.length a : Nat) : Int) := by
      rw [hplace]; exact turn_at (by omega) (by omega) (by omega) (by omega)
    simp only [Int.toNat_natCast, wrap_id (x := s + (a : Int) - ((k.length / 2 : Nat) : Int)) (by omega) (by omega), wrap_id (x := s + ((a : Int) - ((k.length / 2 : Nat) : Int))) (by omega) (by omega), show s + ((a : Int) - ((k.length / 2 : Nat) : Int)) = s + (a : Int) - ((k.length / 2 : Nat) : Int) by omega, hat2, show ((k.length / 2 : Nat) : Int) + ((a : Int) - ((k.length / 2 : Nat) : Int)) = a by omega, wrap_id (x := (a : Int)) (by omega) (by omega), wrap_id (x := (a : Int) - ((k.length / 2 : Nat) : Int) + 1) (by omega) (by omega)]
    refine Round.yes (decide_eq_true (by omega)) (Round.chk (bne_pos (by omega)) (Round.chk (bne_pos (by omega)) (Round.at hai.idx ?_)))
    simp only [hk.id (g_mem (l := k) (i := a) (by omega)), wrap_id (x := t + g k a) (by omega) (by omega)]
    refine Round.chk (decide_eq_true ⟨by omega, by omega⟩) (Round.at hget ?_)
    simp only [wrap_id (x := g (cutTo k s t o a).1 (place k s o.length a)) (by omega) (by omega)]
    refine Round.ite (fun hc => ?_) (fun hc => ?_)
    · have hc : g (cutTo k s t o a).1 (place k s o.length a) > t + g k a := of_decide_eq_true hc
      refine Round.chk (decide_eq_true ⟨by omega, by omega⟩) (Round.at hget (Round.chk (decide_eq_true ⟨by omega, by omega⟩) (Round.at hget (Round.again _ ⟨(), ?_, trivial⟩))))
      rw [show ((a : Int) + 1).toNat = a + 1 by omega, cutTo_succ, if_pos hc, wrap16 (x := t + g k a) (by omega) (by omega), wrap_id (x := g (cutTo k s t o a).1 (place k s o.length a)) (by omega) (by omega), wrap_id (x := g (cutTo k s t o a).1 (place k s o.length a) - (t + g k a)) (by omega) (by omega), wrap_id (x := (cutTo k s t o a).2 + (g (cutTo k s t o a).1 (place k s o.length a) - (t + g k a))) (by omega) (by omega)]
      rw [show (a : Int) - ((k.length / 2 : Nat) : Int) + 1 = (a : Int) + 1 - ((k.length / 2 : Nat) : Int) by omega]
    · have hc : ¬ g (cutTo k s t o a).1 (place k s o.length a) > t + g k a := by simpa using hc
      refine Round.again _ ⟨(), ?_, trivial⟩
      rw [show ((a : Int) + 1).toNat = a + 1 by omega, cutTo_succ, if_neg hc]
      rw [show (a : Int) - ((k.length / 2 : Nat) : Int) + 1 = (a : Int) + 1 - ((k.length / 2 : Nat) : Int) by omega]
  · intro _ _
    simp only [Int.toNat_natCast]
    exact Round.no (by simp; omega) (Round.done (Evt.some _))
/- spec.IdleCuts -/
theorem e59 (x n0 : Int) (K : List (List Int)) (l : List Ct) (hk : RngS K) (hr : RngC l) : Evt (fun n => call T C n 59 (x, n0, K, l, ())) (idR x n0 K l, ()) := by
  refine Evt.next (Evt.bind (e147 l K hk) ?_) (fun n => r59 n x n0 K l)
  unfold idR
  cases h1 : okCuts l K with
  | false => exact Evt.yes rfl (Evt.some _)
  | true =>
    refine Evt.no (by simp) (Evt.bind (e117 n0) ?_)
    cases h2 : inR n0 8 360 with
    | false => exact Evt.yes rfl (Evt.some _)
    | true =>
      refine Evt.no (by simp) (Evt.bind (e108 x) ?_)
      cases h3 : inR x 0 10000 with
      | false => exact Evt.yes rfl (Evt.some _)
      | true =>
        refine Evt.no (by simp) (Evt.bind (e148 l hr _) ?_)
        cases h4 : onCt l n0 with
        | false => exact Evt.yes rfl (Evt.some _)
        | true =>
          refine Evt.no (by simp) (Evt.bind (e149 h2 h3) ?_)
          have G := goodL hr h1 h2 h4
          have S := flat_surf (m := n0.toNat) h3
          have hl := G.l
          have m0 := G.m0
          have m1 := G.m1
          refine for_evt' 0 (l.length : Int) (fun i (_ : Unit) => (K, l, (idF K (l.take i.toNat) (List.replicate n0.toNat x)).1, (idF K (l.take i.toNat) (List.replicate n0.toNat x)).2.1, i, ())) (fun _ _ => True) (b0 := ()) (by simp [idF]) (by omega) trivial ?_ ?_
          · intro i _ h5 h6 _
            obtain ⟨v, hv⟩ := at_of h5 h6
            obtain ⟨g1, g2, g3⟩ := G.el v hv.mem
            obtain ⟨k, hk'⟩ := at_of (l := K) g3.1 g3.2
            have e : kOf K v = k := getD_at hk'
            obtain ⟨S1, b1, b2⟩ := idF_surf hk G S (i := i.toNat) (by omega)
            refine Round.yes (decide_eq_true h6) (Round.at hv.idx (Round.at hk'.idx (Round.at hv.idx (Round.at hv.idx ?_))))
            simp only [hr.i1 hv.mem, hr.i2 hv.mem]
            have hl1 := S1.len
            have e2 : cutTo k v.1 v.2.1 (idF K (l.take i.toNat) (List.replicate n0.toNat x)).1 k.length = cut1 K v (idF K (l.take i.toNat) (List.replicate n0.toNat x)).1 := by unfold cut1; rw [e]
            refine Round.bind (e150 (hk.el k hk'.mem) (by omega) (by omega) S1.el ((goodKs hk G.hk).el k hk'.mem) g1.1 (by omega) g2.1 (by omega)) ?_
            rw [e2]
            refine Round.ite (fun hb => ?_) (fun hb => ?_)
            · have hb : (cut1 K v (idF K (l.take i.toNat) (List.replicate n0.toNat x)).1).2 = 0 := by simpa using hb
              refine Round.chk (by simp; omega) (Round.again _ ⟨(), ?_, trivial⟩)
              rw [hv.take, idF_snoc, wr_succ h5 h6 (by omega)]
              simp only [idS]
              rw [if_pos hb, b2, show ((i.toNat : Nat) : Int) = i by omega]
            · have hb : ¬ (cut1 K v (idF K (l.take i.toNat) (List.replicate n0.toNat x)).1).2 = 0 := by simpa using hb
              refine Round.again _ ⟨(), ?_, trivial⟩
              rw [hv.take, idF_snoc, wr_succ h5 h6 (by omega)]
              simp only [idS]
              rw [if_neg hb]
          · intro _ _
            simp only [take_all]
            exact Round.no (by simp) (Round.done (Evt.some _))
/- impl.inRange -/
theorem e91 (a b c : Int) : Evt (fun n => call T C n 91 (a, b, c, ())) ((inR a b c, ()), ()) := by
  refine Evt.next ?_ (fun n => r91 n a b c)
  refine Evt.ite (fun h => ?_) (fun h => ?_)
  · refine (Evt.some _).of_eq fun n => ?_
    have h : b ≤ a := of_decide_eq_true h
    simp [inR, h]
    rfl
  · refine (Evt.some _).of_eq fun n => ?_
    have h : ¬ b ≤ a := by simpa using h
    simp [inR, h]
    rfl
/- impl.isCount -/
theorem e194 (K : List (List Int)) : Evt (fun n => call T C n 194 (K, ())) ((inR (K.length : Int) 1 8, ()), ()) := Evt.next (Evt.bind (e91 _ _ _) (Evt.some _)) (fun n => r194 n K)
/- impl.isLift -/
theorem e114 (a : Int) : Evt (fun n => call T C n 114 (a, ())) ((inR a 0 10000, ()), ()) := Evt.next (Evt.bind (e91 a 0 10000) (Evt.some _)) (fun n => r114 n a)
/- impl.ValidCutter -/
theorem e214 (k : List Int) (hr : Rng k) : Evt (fun n => call T C n 214 (k, ())) ((okK k, ()), ()) := by
  have hl := hr.len'
  have hm : Int.tmod (k.length : Int) 2 = ((k.length % 2 : Nat) : Int) := by rw [show (2 : Int) = ((2 : Nat) : Int) from rfl, ← Int.ofNat_tmod]
  have hd : Int.tdiv (k.length : Int) 2 = ((k.length / 2 : Nat) : Int) := by rw [show (2 : Int) = ((2 : Nat) : Int) from rfl, ← Int.ofNat_tdiv]
  refine Evt.next (Evt.chk rfl ?_) (fun n => r214 n k)
  rw [hm, hd, wrap_id (x := ((k.length / 2 : Nat) : Int)) (by omega) (by omega)]
  refine Evt.ite (fun h => ?_) (fun h => ?_)
  · have h : k.length % 2 = 0 := by
      have h' : (k.length : Int) % 2 = 0 := by simpa using h
      omega
    have e : okK k = false := by unfold okK; rw [show decide (k.length % 2 = 1) = false from decide_eq_false (by omega)]; simp
    rw [e]; exact Evt.some _
  have h : k.length % 2 = 1 := by
    have h' : ¬ (k.length : Int) % 2 = 0 := by simpa using h
    omega
  refine Evt.ite (fun h1 => ?_) (fun h1 => ?_)
  · have h1 : (k.length : Int) > 31 := by simpa using h1
    have e : okK k = false := by
      unfold okK
      have : inR (k.length : Int) 1 31 = false := by rw [Bool.eq_false_iff]; intro hh; have := inR_iff.1 hh; omega
      rw [this]; simp
    rw [e]; exact Evt.some _
  have h1 : ¬ (k.length : Int) > 31 := by simpa using h1
  have hin : inR (k.length : Int) 1 31 = true := inR_iff.2 ⟨by omega, by omega⟩
  have e : okK k = ((g k (k.length / 2) == 0) && allTo (kOne k) (k.length / 2 + 1)) := by unfold okK; rw [hin, show decide (k.length % 2 = 1) = true from decide_eq_true h]; simp
  rw [e]
  have hmid := g_idx (l := k) (i := ((k.length / 2 : Nat) : Int)) (by omega) (by omega)
  rw [Int.toNat_natCast] at hmid
  refine Evt.chk rfl (Evt.at hmid.idx (Evt.ite (fun h0 => ?_) (fun h0 => ?_)))
  · have h0 : (g k (k.length / 2) == 0) = false := by simpa using h0
    rw [h0]; exact Evt.some _
  have h0 : (g k (k.length / 2) == 0) = true := by simpa using h0
  rw [h0]
  simp only [Bool.true_and]
  have e2 : allTo (kOne k) (k.length / 2 + 1) = allTo (kTwo k) k.length := by
    rw [Bool.eq_iff_iff]
    exact ⟨kTwo_of h, kOne_of h⟩
  rw [e2]
  refine for_evt' 0 (k.length : Int) (fun i (_ : Unit) => (k, (k.length : Int), k, (k.length : Int), i, ())) (fun i _ => allTo (kTwo k) i.toNat = true) (b0 := ()) rfl (by omega) (by rfl) ?_ ?_
  · intro i _ h2 h3 hp
    obtain ⟨a, rfl⟩ : ∃ a : Nat, i = a := ⟨i.toNat, by omega⟩
    rw [Int.toNat_natCast] at hp
    have hai := g_idx (l := k) (i := (a : Int)) (by omega) (by omega)
    have haj := g_idx (l := k) (i := (k.length : Int) - 1 - a) (by omega) (by omega)
    rw [Int.toNat_natCast] at hai
    rw [show ((k.length : Int) - 1 - a).toNat = k.length - 1 - a by omega] at haj
    have bad : kTwo k a = false → allTo (kTwo k) k.length = false := allTo_false (by omega)
    simp only [hd, wrap_id (x := ((k.length / 2 : Nat) : Int)) (by omega) (by omega), wrap_id (x := (a : Int) + 1) (by omega) (by omega), wrap_id (x := (a : Int) - 1) (by omega) (by omega), wrap_id (x := (k.length : Int) - 1) (by omega) (by omega), wrap_id (x := (k.length : Int) - 1 - (a : Int)) (by omega) (by omega)]
    refine Round.yes (decide_eq_true h3) (Round.at hai.idx (Round.bind (e114 _) (Round.ite (fun c1 => ?_) (fun c1 => ?_))))
    · have c1 : inR (wr .i64 (g k a)) 0 10000 = false := by simpa using c1
      rw [bad (by simp [kTwo, c1])]
      exact Round.done (Evt.some _)
    have c1 : inR (wr .i64 (g k a)) 0 10000 = true := by simpa using c1
    refine Round.at haj.idx (Round.ite (fun c2 => ?_) (fun c2 => ?_))
    · have c2 : (g k a == g k (k.length - 1 - a)) = false := by simpa using c2
      rw [bad (by simp [kTwo, c2])]
      exact Round.done (Evt.some _)
    have c2 : (g k a == g k (k.length - 1 - a)) = true := by simpa using c2
    have again : kTwo k a = true → ∃ b' : Unit, ((k, (k.length : Int), k, (k.length : Int), (a : Int) + 1, ()) : List Int × Int × List Int × Int × Int × Unit) = (k, (k.length : Int), k, (k.length : Int), (a : Int) + 1, ()) ∧ allTo (kTwo k) ((a : Int) + 1).toNat = true := fun h => ⟨(), rfl, by rw [show ((a : Int) + 1).toNat = a + 1 by omega, allTo_succ, hp, h]; rfl⟩
    refine Round.chk rfl (Round.ite (fun c3 => ?_) (fun c3 => ?_))
    · have c3 : (a : Int) > ((k.length / 2 : Nat) : Int) := of_decide_eq_true c3
      have hab := g_idx (l := k) (i := (a : Int) - 1) (by omega) (by omega)
      rw [show ((a : Int) - 1).toNat = a - 1 by omega] at hab
      refine Round.at hab.idx (Round.ite (fun c4 => ?_) (fun c4 => ?_))
      · have c4 : g k a < g k (a - 1) := by simpa using c4
        rw [bad (by
          have c5 : a > k.length / 2 := by omega
          simp [kTwo, c4, c5])]
        exact Round.done (Evt.some _)
      · have c4 : ¬ g k a < g k (a - 1) := by simpa using c4
        exact Round.again _ (again (by simp only [kTwo, c1, c2, decide_eq_false c4]; simp))
    · have c3 : ¬ (a : Int) > ((k.length / 2 : Nat) : Int) := by simpa using c3
      exact Round.no (by simp) (Round.again _ (again (by simp only [kTwo, c1, c2, decide_eq_false (show ¬ a > k.length / 2 by omega)]; simp)))
  · intro _ hp
    have hp : allTo (kTwo k) k.length = true := by simpa using hp
    rw [hp]
    exact Round.no (by simp) (Round.done (Evt.some _))
/- impl.areCutters$1 -/
theorem e213 (k : List Int) (hr : Rng k) : Evt (fun n => call T C n 213 (k, ())) ((!okK k, ()), ()) := Evt.next (Evt.bind (e214 k hr) (Evt.some _)) (fun n => r213 n k)
/- slices.IndexFunc[[]impl.Cutter,impl.Cutter]{impl.areCutters$1} -/
theorem e220 (K : List (List Int)) (hr : RngS K) : Evt (fun n => call T C n 220 (K, ((), ()), ())) ((fi (fun v => !okK v) K 0, ()), ()) := by
  have hl := hr.len'
  refine Evt.next ?_ (fun n => r220 n K ((), ()))
  refine for_evt' 0 (K.length : Int) (fun i (_ : Unit) => (K, ((), ()), (K.length : Int), i, ())) (fun i _ => fi (fun v => !okK v) K 0 = fi (fun v => !okK v) (K.drop i.toNat) i) (b0 := ()) rfl (by omega) (by simp) ?_ ?_
  · intro i _ h2 h3 hp
    obtain ⟨v, hv⟩ := at_of h2 h3
    rw [hv.drop] at hp
    simp only [fi] at hp
    refine Round.yes (decide_eq_true h3) (Round.at hv.idx (Round.bind (e213 v (hr.el v hv.mem)) ?_))
    cases hb : okK v with
    | false =>
      simp only [hb, Bool.not_false, if_true] at hp
      rw [hp]
      exact Round.yes rfl (Round.done (Evt.some _))
    | true =>
      simp only [hb, Bool.not_true, Bool.false_eq_true, if_false] at hp
      exact Round.no (by simp) (Round.again _ ⟨(), by rw [wr_succ h2 h3 (by omega)], hp⟩)
  · intro _ hp
    rw [drop_all] at hp
    rw [hp]
    exact Round.no (by simp) (Round.done (Evt.some _))
/- slices.ContainsFunc[[]impl.Cutter,impl.Cutter]{impl.areCutters$1} -/
theorem e212 (K : List (List Int)) (hr : RngS K) : Evt (fun n => call T C n 212 (K, ((), ()), ())) ((K.any (fun v => !okK v), ()), ()) := by
  refine Evt.next (Evt.bind (e220 K hr) ((Evt.some _).of_eq fun n => ?_)) (fun n => r212 n K ((), ()))
  simp only [fi_any _ K 0 (Int.le_refl _)]
  rfl
/- impl.areCutters -/
theorem e195 (K : List (List Int)) (hr : RngS K) : Evt (fun n => call T C n 195 (K, ())) ((okKs K, ()), ()) := by
  refine Evt.next (Evt.bind (e212 K hr) ((Evt.some _).of_eq fun n => ?_)) (fun n => r195 n K)
  have : okKs K = !K.any (fun v => !okK v) := by simp [okKs, List.any_eq_not_all_not]
  rw [this]
  rfl
/- impl.isPlace -/
theorem e176 (a b : Int) : Evt (fun n => call T C n 176 (a, b, ())) ((inR a 0 (wr .i64 (b - 1)), ()), ()) := Evt.next (Evt.bind (e91 _ _ _) (Evt.some _)) (fun n => r176 n a b)
/- impl.areCuts$1 -/
theorem e215 (v : Ct) (m : Int) : Evt (fun n => call T C n 215 (v, m, ())) ((!ctOk m v, ()), (m, ())) := by
  refine Evt.next (Evt.bind (e91 _ _ _) ?_) (fun n => r215 n v m)
  unfold ctOk
  cases inR (wr .i64 v.1) 0 359 with
  | false => exact Evt.yes rfl (Evt.some _)
  | true =>
    refine Evt.no (by simp) (Evt.bind (e114 _) ?_)
    cases inR (wr .i64 v.2.1) 0 10000 with
    | false => exact Evt.yes rfl (Evt.some _)
    | true => exact Evt.no (by simp) (Evt.bind (e176 _ _) (Evt.some _))
/- slices.IndexFunc[[]impl.Cut,impl.Cut]{impl.areCuts$1} -/
theorem e216 (l : List Ct) (m : Int) (hr : RngC l) : Evt (fun n => call T C n 216 (l, ((), m, ()), ())) ((fi (fun v => !ctOk m v) l 0, ()), (((), m, ()), ())) := by
  have hl : (l.length : Int) ≤ 140737488351232 := by have := hr.len'; omega
  refine Evt.next ?_ (fun n => r216 n l ((), m, ()))
  refine for_evt' 0 (l.length : Int) (fun i (_ : Unit) => (l, ((), m, ()), (l.length : Int), i, ())) (fun i _ => fi (fun v => !ctOk m v) l 0 = fi (fun v => !ctOk m v) (l.drop i.toNat) i) (b0 := ()) rfl (by omega) (by simp) ?_ ?_
  · intro i _ h2 h3 hp
    obtain ⟨v, hv⟩ := at_of h2 h3
    rw [hv.drop] at hp
    simp only [fi] at hp
    refine Round.yes (decide_eq_true h3) (Round.at hv.idx (Round.bind (e215 v m) ?_))
    cases hb : !ctOk m v with
    | true =>
      simp only [hb, if_true] at hp
      rw [hp]
      exact Round.yes rfl (Round.done (Evt.some _))
    | false =>
      simp only [hb, Bool.false_eq_true, if_false] at hp
      exact Round.no (by simp) (Round.again _ ⟨(), by rw [wr_succ h2 h3 (by omega)], hp⟩)
  · intro _ hp
    rw [drop_all] at hp
    rw [hp]
    exact Round.no (by simp) (Round.done (Evt.some _))
/- slices.ContainsFunc[[]impl.Cut,impl.Cut]{impl.areCuts$1} -/
theorem e197 (l : List Ct) (m : Int) (hr : RngC l) : Evt (fun n => call T C n 197 (l, ((), m, ()), ())) ((l.any (fun v => !ctOk m v), ()), (((), m, ()), ())) := by
  refine Evt.next (Evt.bind (e216 l m hr) ((Evt.some _).of_eq fun n => ?_)) (fun n => r197 n l ((), m, ()))
  simp only [fi_any _ l 0 (Int.le_refl _)]
  rfl
/- impl.areCuts -/
theorem e196 (l : List Ct) (hr : RngC l) (m : Int) : Evt (fun n => call T C n 196 (l, m, ())) ((okCt l m, ()), ()) := by
  refine Evt.next ?_ (fun n => r196 n l m)
  unfold okCt
  cases decide ((l.length : Int) ≤ 400) with
  | false => exact Evt.no (by simp) (Evt.some _)
  | true =>
    refine Evt.yes rfl (Evt.bind (e197 l m hr) ((Evt.some _).of_eq fun n => ?_))
    have : l.all (ctOk m) = !l.any (fun v => !ctOk m v) := by simp [List.any_eq_not_all_not]
    rw [this]
    rfl
/- impl.ValidCuts -/
theorem e153 (l : List Ct) (K : List (List Int)) (hk : RngS K) (hr : RngC l) : Evt (fun n => call T C n 153 (l, K, ())) ((okCuts l K, ()), ()) := by
  refine Evt.next (Evt.bind (e194 K) ?_) (fun n => r153 n l K)
  unfold okCuts
  cases inR (K.length : Int) 1 8 with
  | false => exact Evt.no (by simp) (Evt.some _)
  | true =>
    refine Evt.yes rfl (Evt.bind (e195 K hk) ?_)
    cases okKs K with
    | false => exact Evt.no (by simp) (Evt.some _)
    | true => exact Evt.yes rfl (Evt.bind (e196 l hr _) (Evt.some _))
/- impl.codeIf -/
theorem e90 (c : Bool) (v : Int) : Evt (fun n => call T C n 90 (c, v, ())) (((if c = true then v else 0), ()), ()) := by
  refine Evt.next ?_ (fun n => r90 n c v)
  cases c with
  | true => exact Evt.yes rfl (Evt.some _)
  | false => exact Evt.no (by simp) (Evt.some _)
/- impl.isSteps -/
theorem e115 (a : Int) : Evt (fun n => call T C n 115 (a, ())) ((inR a 8 360, ()), ()) := Evt.next (Evt.bind (e91 a 8 360) (Evt.some _)) (fun n => r115 n a)
/- impl.areOn$1 -/
theorem e198 (v : Ct) (m : Int) : Evt (fun n => call T C n 198 (v, m, ())) ((decide (wr .i64 v.1 ≥ m), ()), (m, ())) := Evt.next (Evt.some _) (fun n => r198 n v m)
/- slices.IndexFunc[[]impl.Cut,impl.Cut]{impl.areOn$1} -/
theorem e1216 (l : List Ct) (m : Int) (hr : RngC l) : Evt (fun n => call T C n 1216 (l, ((), m, ()), ())) ((fi (fun v => decide (wr .i64 v.1 ≥ m)) l 0, ()), (((), m, ()), ())) := by
  have hl : (l.length : Int) ≤ 140737488351232 := by have := hr.len'; omega
  refine Evt.next ?_ (fun n => r1216 n l ((), m, ()))
  refine for_evt' 0 (l.length : Int) (fun i (_ : Unit) => (l, ((), m, ()), (l.length : Int), i, ())) (fun i _ => fi (fun v => decide (wr .i64 v.1 ≥ m)) l 0 = fi (fun v => decide (wr .i64 v.1 ≥ m)) (l.drop i.toNat) i) (b0 := ()) rfl (by omega) (by simp) ?_ ?_
  · intro i _ h2 h3 hp
    obtain ⟨v, hv⟩ := at_of h2 h3
    rw [hv.drop] at hp
    simp only [fi] at hp
    refine Round.yes (decide_eq_true h3) (Round.at hv.idx (Round.bind (e198 v m) ?_))
    cases hb : decide (wr .i64 v.1 ≥ m) with
    | true =>
      simp only [hb, if_true] at hp
      rw [hp]
      exact Round.yes rfl (Round.done (Evt.some _))
    | false =>
      simp only [hb, Bool.false_eq_true, if_false] at hp
      exact Round.no (by simp) (Round.again _ ⟨(), by rw [wr_succ h2 h3 (by omega)], hp⟩)
  · intro _ hp
    rw [drop_all] at hp
    rw [hp]
    exact Round.no (by simp) (Round.done (Evt.some _))
/- slices.ContainsFunc[[]impl.Cut,impl.Cut]{impl.areOn$1} -/
theorem e1197 (l : List Ct) (m : Int) (hr : RngC l) : Evt (fun n => call T C n 1197 (l, ((), m, ()), ())) ((l.any (fun v => decide (wr .i64 v.1 ≥ m)), ()), (((), m, ()), ())) := by
  refine Evt.next (Evt.bind (e1216 l m hr) ((Evt.some _).of_eq fun n => ?_)) (fun n => r1197 n l ((), m, ()))
  simp only [fi_any _ l 0 (Int.le_refl _)]
  rfl
/- impl.areOn -/
theorem e154 (l : List Ct) (hr : RngC l) (m : Int) : Evt (fun n => call T C n 154 (l, m, ())) ((onCt l m, ()), ()) := by
  refine Evt.next (Evt.bind (e1197 l m hr) ((Evt.some _).of_eq fun n => ?_)) (fun n => r154 n l m)
  have : onCt l m = !l.any (fun v => decide (wr .i64 v.1 ≥ m)) := by unfold onCt; rw [List.any_eq_not_all_not]; simp
  rw [this]
  rfl
/- impl.firstCode -/
theorem e88 (l : List Int) (hl : (l.length : Int) ≤ 140737488351232) : Evt (fun n => call T C n 88 (l, ())) ((fst0 l, ()), ()) := by
  refine Evt.next ?_ (fun n => r88 n l)
  refine loop_evt (fun (x : List Int × Int × Int × Unit) => x.1 = l ∧ x.2.1 = (l.length : Int) ∧ 0 ≤ x.2.2.1 ∧ x.2.2.1 ≤ (l.length : Int) ∧ fst0 l = fst0 (l.drop x.2.2.1.toNat)) (fun (x : List Int × Int × Int × Unit) => ((l.length : Int) - x.2.2.1).toNat) (x := (l, (l.length : Int), 0, ())) ⟨rfl, rfl, Int.le_refl _, by simp, by simp⟩ ?_
  rintro ⟨x1, m, i, _⟩ ⟨h', hm, h0, h1, h2⟩
  simp only at h' hm h0 h1 h2
  subst h'; subst hm
  refine Round.ite (fun hlt => ?_) (fun hge => ?_)
  · have hlt : i < (x1.length : Int) := of_decide_eq_true hlt
    obtain ⟨v, hv, hv'⟩ := idx_at h0 hlt
    have hd := drop_cons hv'
    refine Round.at hv (Round.ite (fun hb => ?_) (fun hb => ?_))
    · have hb : v ≠ 0 := by simpa using hb
      have h3 : fst0 x1 = v := by rw [h2, hd]; simp [fst0, hb]
      rw [h3]
      exact Round.done (Evt.some _)
    · have hb : v = 0 := by simpa using hb
      have hw : wr .i64 (i + 1) = i + 1 := wrap_id (by omega) (by omega)
      refine Round.again _ ⟨⟨rfl, rfl, ?_, ?_, ?_⟩, ?_⟩ <;> simp only [hw]
      · omega
      · omega
      · rw [h2, hd, show (i + 1).toNat = i.toNat + 1 by omega]
        simp [fst0, hb]
      · omega
  · have hge : ¬ i < (x1.length : Int) := by simpa using hge
    have : x1.drop i.toNat = [] := List.drop_of_length_le (by omega)
    rw [h2, this]
    exact Round.done (Evt.some _)
/- impl.FlatCam$1 -/
theorem e199 (s x : Int) : Evt (fun n => call T C n 199 (s, x, ())) ((x, ()), (x, ())) := Evt.next (Evt.some _) (fun n => r199 n s x)
/- impl.camOf{impl.FlatCam$1} -/
theorem e131 {n0 x : Int} (hn : inR n0 8 360 = true) (hx : inR x 0 10000 = true) : Evt (fun n => call T C n 131 (n0, ((), x, ()), ())) ((List.replicate n0.toNat x, 0, ()), (((), x, ()), ())) := by
  have hb := inR_iff.1 hn
  have hx' := inR_iff.1 hx
  refine Evt.next ?_ (fun n => r131 n n0 ((), x, ()))
  refine for_evt' 0 n0 (fun i (_ : Unit) => (((), (x, ())), List.replicate i.toNat x, n0, i, ())) (fun _ _ => True) (b0 := ()) rfl (by omega) trivial ?_ ?_
  · intro i _ h2 h3 _
    refine Round.yes (decide_eq_true h3) (Round.bind (e199 i x) (Round.bind (e114 _) (Round.no (by simp [hx]) (Round.chk (by simp; omega) (Round.again _ ⟨(), ?_, trivial⟩)))))
    rw [wr_succ h2 h3 (by omega), wrap16 (x := x) (by omega) (by omega), show (i + 1).toNat = i.toNat + 1 by omega, List.replicate_succ']
  · intro _ _
    exact Round.no (by simp) (Round.done (Evt.some _))
/- impl.FlatCam -/
theorem e155 {n0 x : Int} (hn : inR n0 8 360 = true) (hx : inR x 0 10000 = true) : Evt (fun n => call T C n 155 (n0, x, ())) ((List.replicate n0.toNat x, 0, ()), ()) := by
  refine Evt.next (Evt.bind (e115 n0) ?_) (fun n => r155 n n0 x)
  rw [hn]
  refine Evt.no (by simp) (Evt.bind (e114 x) ?_)
  rw [hx]
  exact Evt.no (by simp) (Evt.bind (e131 hn hx) (Evt.some _))
/- (impl.Cam).steps -/
theorem e132 (a : List Int) : Evt (fun n => call T C n 132 (a, ())) (((a.length : Int), ()), ()) := Evt.next (Evt.some _) (fun n => r132 n a)
/- impl.floorDiv -/
theorem e210 {a b : Int} (hb : 0 < b) (h1 : -4500000000000000000 ≤ a) (h2 : a ≤ 4500000000000000000) : Evt (fun n => call T C n 210 (a, b, ())) ((a / b, ()), ()) := by
  have hbd := ediv_bd hb h1 h2 (by omega)
  have he := floorDiv_eq (a := a) hb
  refine Evt.next (Evt.chk (bne_pos hb) (Evt.chk (bne_pos hb) (Evt.ite (fun h => ?_) (fun h => ?_)))) (fun n => r210 n a b)
  · have h : Int.tmod a b < 0 := of_decide_eq_true h
    rw [if_pos h] at he
    refine (Evt.some _).of_eq fun n => ?_
    rw [wrap_id (x := Int.tdiv a b) (by omega) (by omega), wrap_id (by omega) (by omega), he]
    rfl
  · have h : ¬ Int.tmod a b < 0 := by simpa using h
    rw [if_neg h] at he
    refine (Evt.some _).of_eq fun n => ?_
    rw [wrap_id (x := Int.tdiv a b) (by omega) (by omega), he]
    rfl
/- impl.mod -/
theorem e188 {a b : Int} (hb : 0 < b) (hb' : b ≤ 1000000000000) (h1 : -1000000000000 ≤ a) (h2 : a ≤ 1000000000000) : Evt (fun n => call T C n 188 (a, b, ())) ((a % b, ()), ()) := by
  have hd := Int.emod_def a b
  have h3 := Int.emod_nonneg a (show b ≠ 0 by omega)
  have h4 := Int.emod_lt_of_pos a hb
  refine Evt.next (Evt.bind (e210 hb (by omega) (by omega)) ((Evt.some _).of_eq fun n => ?_)) (fun n => r188 n a b)
  simp only
  rw [wrap_id (x := b * (a / b)) (by omega) (by omega), ← hd, wrap_id (by omega) (by omega)]
  rfl
/- (impl.Cam).cut$1 -/
theorem e218 {o : List Int} (h0 : 0 < o.length) (h1 : o.length ≤ 1000) (ho : ∀ v ∈ o, 0 ≤ v ∧ v ≤ 10000) {x y t z : Int} (hx : -4000000 ≤ x) (hx' : x ≤ 4000000) (hy : 0 ≤ y) (hy' : y ≤ 10000) (ht : 0 ≤ t) (ht' : t ≤ 1000000) (hz : 0 ≤ z) (hz' : z ≤ 1000000) :
    Evt (fun n => call T C n 218 (x, y, o, t, z, ())) ((), (if g o (x % (o.length : Int)).toNat > t + y then o.set (x % (o.length : Int)).toNat (t + y) else o), t, (if g o (x % (o.length : Int)).toNat > t + y then z + (g o (x % (o.length : Int)).toNat - (t + y)) else z), ()) := by
  have hp := Int.emod_nonneg x (show (o.length : Int) ≠ 0 by omega)
  have hq := Int.emod_lt_of_pos x (show 0 < (o.length : Int) by omega)
  have hv := g_idx (l := o) (i := x % o.length) hp hq
  have hb := ho _ hv.mem
  refine Evt.next (Evt.bind (e132 o) (Evt.bind (e188 (a := x) (show 0 < (o.length : Int) by omega) (by omega) (by omega) (by omega)) (Evt.chk (decide_eq_true ⟨hp, hq⟩) (Evt.at hv.get ?_)))) (fun n => r218 n x y o t z)
  simp only [wrap_id (x := g o (x % (o.length : Int)).toNat) (by omega) (by omega), wrap_id (x := t + y) (by omega) (by omega)]
  refine Evt.ite (fun hc => ?_) (fun hc => ?_)
  · have hc : g o (x % (o.length : Int)).toNat > t + y := of_decide_eq_true hc
    refine Evt.chk (decide_eq_true ⟨hp, hq⟩) (Evt.at hv.get (Evt.chk (decide_eq_true ⟨hp, hq⟩) (Evt.at hv.get ?_)))
    rw [if_pos hc, if_pos hc]
    simp only [wrap_id (x := g o (x % (o.length : Int)).toNat) (by omega) (by omega), wrap_id (x := g o (x % (o.length : Int)).toNat - (t + y)) (by omega) (by omega), wrap_id (x := z + (g o (x % (o.length : Int)).toNat - (t + y))) (by omega) (by omega), wrap16 (x := t + y) (by omega) (by omega)]
    exact Evt.some _
  · have hc : ¬ g o (x % (o.length : Int)).toNat > t + y := by simpa using hc
    rw [if_neg hc, if_neg hc]
    exact Evt.some _
/- (impl.Cutter).each{(impl.Cam).cut$1} -/
theorem e217 {o k : List Int} (hk : Rng k) (hl0 : 0 < o.length) (hl1 : o.length ≤ 1000) (ho : ∀ v ∈ o, 0 ≤ v ∧ v ≤ 10000) (G : GoodK k) {s t : Int} (h0 : 0 ≤ s) (h1 : s ≤ 1000000) (t0 : 0 ≤ t) (t1 : t ≤ 1000000) : Evt (fun n => call T C n 217 (k, s, ((), o, t, 0, ()), ())) ((), (((), (cutTo k s t o k.length).1, t, (cutTo k s t o k.length).2, ()), ())) := by
  have hd : Int.tdiv (k.length : Int) 2 = ((k.length / 2 : Nat) : Int) := by rw [show (2 : Int) = ((2 : Nat) : Int) from rfl, ← Int.ofNat_tdiv]
  have hhi := G.hi
  refine Evt.next (Evt.chk rfl ?_) (fun n => r217 n k s ((), o, t, 0, ()))
  rw [hd, wrap_id (x := ((k.length / 2 : Nat) : Int)) (by omega) (by omega)]
  refine for_evt' 0 (k.length : Int) (fun i (_ : Unit) => (s, ((), ((cutTo k s t o i.toNat).1, (t, ((cutTo k s t o i.toNat).2, ())))), ((k.length / 2 : Nat) : Int), k, (k.length : Int), i, ())) (fun _ _ => True) (b0 := ()) rfl (by omega) trivial ?_ ?_
  · intro i _ h2 h3 _
    obtain ⟨a, rfl⟩ : ∃ a : Nat, i = a := ⟨i.toNat, by omega⟩
    have hai := g_idx (l := k) (i := (a : Int)) (by omega) (by omega)
    rw [Int.toNat_natCast] at hai
    have hka := G.el a (by omega)
    obtain ⟨b1, b2, b3⟩ := cutTo_bd k s hl0 t0 (fun i hi => (G.el i hi).1) ho a (by omega)
    have hlen := cutTo_len k s t o a
    simp only [Int.toNat_natCast, wr_succ h2 h3 (by omega), wrap_id (x := s + (a : Int)) (by omega) (by omega), wrap_id (x := s + (a : Int) - ((k.length / 2 : Nat) : Int)) (by omega) (by omega)]
    refine Round.yes (decide_eq_true h3) (Round.at hai.idx ?_)
    simp only [hk.id hai.mem]
    refine Round.bind (e218 (by omega) (by omega) b1 (by omega) (by omega) hka.1 hka.2 t0 t1 b2 (by omega)) (Round.again _ ⟨(), ?_, trivial⟩)
    rw [show ((a : Int) + 1).toNat = a + 1 by omega, cutTo_succ, hlen]
    show _ = (s, ((), ((if g (cutTo k s t o a).1 ((s + (a : Int) - ((k.length / 2 : Nat) : Int)) % (o.length : Int)).toNat > t + g k a then _ else _ : List Int × Int).1, (t, ((if g (cutTo k s t o a).1 ((s + (a : Int) - ((k.length / 2 : Nat) : Int)) % (o.length : Int)).toNat > t + g k a then _ else _ : List Int × Int).2, ())))), _)
    by_cases hc : g (cutTo k s t o a).1 ((s + (a : Int) - ((k.length / 2 : Nat) : Int)) % (o.length : Int)).toNat > t + g k a
    · simp only [if_pos hc]
      rfl
    · simp only [if_neg hc]
  · intro _ _
    simp only [Int.toNat_natCast]
    exact Round.no (by simp) (Round.done (Evt.some _))
/- (impl.Cam).cut -/
theorem e200 {o k : List Int} (hk : Rng k) (hl0 : 0 < o.length) (hl1 : o.length ≤ 1000) (ho : ∀ v ∈ o, 0 ≤ v ∧ v ≤ 10000) (G : GoodK k) {s t : Int} (h0 : 0 ≤ s) (h1 : s ≤ 1000000) (t0 : 0 ≤ t) (t1 : t ≤ 1000000) : Evt (fun n => call T C n 200 (o, k, s, t, ())) (((cutTo k s t o k.length).2, ()), ((cutTo k s t o k.length).1, ())) :=
  Evt.next (Evt.bind (e217 hk hl0 hl1 ho G h0 h1 t0 t1) (Evt.some (((cutTo k s t o k.length).2, ()), ((cutTo k s t o k.length).1, ())))) (fun n => r200 n o k s t)
/- (impl.Cam).do -/
theorem e156 {m : Nat} {o : List Int} {K : List (List Int)} {l : List Ct} (hk : RngS K) (hr : RngC l) (G : GoodL m K l) (S : Surf m o) {v : Ct} (hv : v ∈ l) : Evt (fun n => call T C n 156 (o, K, v, ())) (((cut1 K v o).2, ()), ((cut1 K v o).1, ())) := by
  obtain ⟨g1, g2, g3⟩ := G.el v hv
  obtain ⟨k, hk'⟩ := at_of (l := K) g3.1 g3.2
  have e : kOf K v = k := getD_at hk'
  have m0 := G.m0
  have m1 := G.m1
  have hol := S.len
  refine Evt.next (Evt.at hk'.idx ?_) (fun n => r156 n o K v)
  simp only [hr.i1 hv, hr.i2 hv]
  have e2 : cut1 K v o = cutTo k v.1 v.2.1 o k.length := by unfold cut1; rw [e]
  rw [e2]
  exact Evt.bind (e200 (hk.el k hk'.mem) (by omega) (by omega) S.el ((goodKs hk G.hk).el k hk'.mem) g1.1 (by omega) g2.1 (by omega)) (Evt.some _)
/- impl.IdleCuts -/
theorem e62 (x n0 : Int) (K : List (List Int)) (l : List Ct) (hk : RngS K) (hr : RngC l) : Evt (fun n => call T C n 62 (x, n0, K, l, ())) (idR x n0 K l, ()) := by
  refine Evt.next (Evt.bind (e153 l K hk hr) (Evt.bind (e90 _ _) (Evt.bind (e114 x) ?_))) (fun n => r62 n x n0 K l)
  have bad : ∀ b, okCuts l K = b → (inR n0 8 360 && inR x 0 10000 && onCt l n0) = false → idR x n0 K l = ([], (if (!b) = true then 1 else 2), ()) := fun b h1 h2 => by
    unfold idR
    rw [h1, h2]
    cases b <;> rfl
  have hf : ∀ b : Bool, Evt (fun n => call T C n 88 ([if (!b) = true then (1 : Int) else 0, 2], ())) (((if (!b) = true then 1 else 2), ()), ()) := fun b => by
    have h := e88 [if (!b) = true then (1 : Int) else 0, 2] (by simp)
    rw [show fst0 [if (!b) = true then (1 : Int) else 0, 2] = (if (!b) = true then 1 else 2) by cases b <;> rfl] at h
    exact h
  cases h3 : inR x 0 10000 with
  | false =>
    rw [bad _ rfl (by rw [h3]; simp)]
    refine Evt.yes rfl (Evt.bind (e90 _ _) (Evt.bind (hf _) (Evt.yes ?_ (Evt.some _))))
    cases okCuts l K <;> rfl
  | true =>
    refine Evt.no (by simp) (Evt.bind (e115 n0) ?_)
    cases h2 : inR n0 8 360 with
    | false =>
      rw [bad _ rfl (by rw [h2]; simp)]
      refine Evt.yes rfl (Evt.bind (e90 _ _) (Evt.bind (hf _) (Evt.yes ?_ (Evt.some _))))
      cases okCuts l K <;> rfl
    | true =>
      refine Evt.no (by simp) (Evt.bind (e154 l hr _) (Evt.bind (e90 _ _) ?_))
      cases h4 : onCt l n0 with
      | false =>
        rw [bad _ rfl (by rw [h4]; simp)]
        refine Evt.bind (hf _) (Evt.yes ?_ (Evt.some _))
        cases okCuts l K <;> rfl
      | true =>
        refine Evt.bind (e88 _ (by simp)) ?_
        cases h1 : okCuts l K with
        | false =>
          have e : idR x n0 K l = ([], 1, ()) := by unfold idR; rw [h1]; rfl
          rw [e]
          exact Evt.yes rfl (Evt.some _)
        | true =>
          have e : idR x n0 K l = ((idF K l (List.replicate n0.toNat x)).2.1, 0, ()) := by unfold idR; rw [h1, h2, h3, h4]; rfl
          rw [e]
          refine Evt.no (by decide) (Evt.bind (e155 h2 h3) ?_)
          have G := goodL hr h1 h2 h4
          have S := flat_surf (m := n0.toNat) h3
          have hl := G.l
          refine for_evt' 0 (l.length : Int) (fun i (_ : Unit) => (K, (idF K (l.take i.toNat) (List.replicate n0.toNat x)).1, (idF K (l.take i.toNat) (List.replicate n0.toNat x)).2.1, l, (l.length : Int), i, ())) (fun _ _ => True) (b0 := ()) (by simp [idF]) (by omega) trivial ?_ ?_
          · intro i _ h5 h6 _
            obtain ⟨v, hv⟩ := at_of h5 h6
            obtain ⟨S1, b1, b2⟩ := idF_surf hk G S (i := i.toNat) (by omega)
            refine Round.yes (decide_eq_true h6) (Round.at hv.idx (Round.bind (e156 hk hr G S1 hv.mem) ?_))
            refine Round.ite (fun hb => ?_) (fun hb => ?_)
            · have hb : (cut1 K v (idF K (l.take i.toNat) (List.replicate n0.toNat x)).1).2 = 0 := by simpa using hb
              refine Round.chk (by simp; omega) (Round.again _ ⟨(), ?_, trivial⟩)
              rw [hv.take, idF_snoc, wr_succ h5 h6 (by omega)]
              simp only [idS]
              rw [if_pos hb, b2, show ((i.toNat : Nat) : Int) = i by omega]
            · have hb : ¬ (cut1 K v (idF K (l.take i.toNat) (List.replicate n0.toNat x)).1).2 = 0 := by simpa using hb
              refine Round.again _ ⟨(), ?_, trivial⟩
              rw [hv.take, idF_snoc, wr_succ h5 h6 (by omega)]
              simp only [idS]
              rw [if_neg hb]
          · intro _ _
            simp only [take_all]
            exact Round.no (by simp) (Round.done (Evt.some _))
/- laws.eqInt64S -/
theorem e63 (l : List Int) (hl : (l.length : Int) ≤ 140737488351232) : Evt (fun n => call T C n 63 (l, l, ())) ((true, ()), ()) := by
  refine Evt.next (Evt.no (by simp) ?_) (fun n => r63 n l l)
  refine for_evt 0 (l.length : Int) (fun i (_ : Unit) => (l, l, i, ())) (fun _ _ => True) (b0 := ()) (by omega) trivial ?_ ?_
  · intro i _ h2 h3 _
    obtain ⟨v, hv⟩ := at_of h2 h3
    refine Round.yes (decide_eq_true h3) (Round.at hv.idx (Round.at hv.idx (Round.no (by simp) (Round.again _ ⟨(), ?_, trivial⟩))))
    rw [wr_succ h2 h3 (by omega)]
  · intro _ _
    exact Round.no (by simp) (Round.done (Evt.some _))
/- laws.eqCutter -/
theorem e157 (l : List Int) (hl : (l.length : Int) ≤ 140737488351232) : Evt (fun n => call T C n 157 (l, l, ())) ((true, ()), ()) := by
  refine Evt.next (Evt.no (by simp) ?_) (fun n => r157 n l l)
  refine for_evt 0 (l.length : Int) (fun i (_ : Unit) => (l, l, i, ())) (fun _ _ => True) (b0 := ()) (by omega) trivial ?_ ?_
  · intro i _ h2 h3 _
    obtain ⟨v, hv⟩ := at_of h2 h3
    refine Round.yes (decide_eq_true h3) (Round.at hv.idx (Round.at hv.idx (Round.no (by simp) (Round.again _ ⟨(), ?_, trivial⟩))))
    rw [wr_succ h2 h3 (by omega)]
  · intro _ _
    exact Round.no (by simp) (Round.done (Evt.some _))
/- laws.eqCutterS -/
theorem e64 (K : List (List Int)) (hr : RngS K) : Evt (fun n => call T C n 64 (K, K, ())) ((true, ()), ()) := by
  have hl := hr.len'
  refine Evt.next (Evt.no (by simp) ?_) (fun n => r64 n K K)
  refine for_evt' 0 (K.length : Int) (fun i (_ : Unit) => (K, K, i, ())) (fun _ _ => True) (b0 := ()) rfl (by omega) trivial ?_ ?_
  · intro i _ h2 h3 _
    obtain ⟨v, hv⟩ := at_of h2 h3
    have hvl := (hr.el v hv.mem).len'
    refine Round.yes (decide_eq_true h3) (Round.at hv.idx (Round.at hv.idx (Round.bind (e157 v (by omega)) (Round.no (by simp) (Round.again _ ⟨(), ?_, trivial⟩)))))
    rw [wr_succ h2 h3 (by omega)]
  · intro _ _
    exact Round.no (by simp) (Round.done (Evt.some _))
/- laws.eqCut -/
theorem e158 (v : Ct) : Evt (fun n => call T C n 158 (v, v, ())) ((true, ()), ()) := Evt.next (Evt.no (by simp) (Evt.no (by simp) (Evt.no (by simp) (Evt.some _)))) (fun n => r158 n v v)
/- laws.eqCutS -/
theorem e65 (l : List Ct) (hl : (l.length : Int) ≤ 140737488351232) : Evt (fun n => call T C n 65 (l, l, ())) ((true, ()), ()) := by
  refine Evt.next (Evt.no (by simp) ?_) (fun n => r65 n l l)
  refine for_evt 0 (l.length : Int) (fun i (_ : Unit) => (l, l, i, ())) (fun _ _ => True) (b0 := ()) (by omega) trivial ?_ ?_
  · intro i _ h2 h3 _
    obtain ⟨v, hv⟩ := at_of h2 h3
    refine Round.yes (decide_eq_true h3) (Round.at hv.idx (Round.at hv.idx (Round.bind (e158 v) (Round.no (by simp) (Round.again _ ⟨(), ?_, trivial⟩)))))
    rw [wr_succ h2 h3 (by omega)]
  · intro _ _
    exact Round.no (by simp) (Round.done (Evt.some _))
/- laws.markCutter -/
theorem e159 (l : List Int) (k : Int) (h0 : 0 ≤ k) (h1 : k + l.length ≤ 4611686018427387904) : Evt (fun n => call T C n 159 (l, k, ())) ((k + l.length, ()), (mkL (wr .i16) l.length k, ())) := by
  refine Evt.next ?_ (fun n => r159 n l k)
  refine for_evt' 0 (l.length : Int) (fun i (b : List Int) => (b, k + i, i, ())) (fun i b => b.length = l.length ∧ b.take i.toNat = mkL (wr .i16) i.toNat k) (b0 := l) (by simp) (by omega) ⟨rfl, by simp [mkL]⟩ ?_ ?_
  · intro i b h2 h3 ⟨hb, ht⟩
    have hi : i < (b.length : Int) := by omega
    obtain ⟨u, hu⟩ := get_of_lt h2 hi
    refine Round.yes (decide_eq_true hi) (Round.chk (chk_at h2 hi) (Round.at hu (Round.again _ ⟨b.set i.toNat (wr .i16 (k + i)), ?_, by simpa using hb, ?_⟩)))
    · rw [wrap_id (x := k + i + 1) (by omega) (by omega), wrap_id (x := i + 1) (by omega) (by omega)]
      simp only [Int.add_assoc, id_eq]
    · rw [take_set_succ h2 hi, ht, show (i + 1).toNat = i.toNat + 1 by omega, mkL_succ, show ((i.toNat : Nat) : Int) = i by omega]
  · intro b ⟨hb, ht⟩
    have e : b = mkL (wr .i16) l.length k := by rw [← take_all b, hb, ht]; simp
    rw [← e]
    exact Round.no (by simp [hb]) (Round.done (Evt.some _))
/- laws.markCutterS -/
theorem e66 (K : List (List Int)) (hr : RngS K) (k : Int) (h0 : 0 ≤ k) (h1 : k + totL K ≤ 4611686018427387904) : Evt (fun n => call T C n 66 (K, k, ())) ((k + totL K, ()), (mkKs K k, ())) := by
  have hkl := hr.len'
  refine Evt.next ?_ (fun n => r66 n K k)
  refine for_evt' 0 (K.length : Int) (fun i (b : List (List Int)) => (b, k + totL (K.take i.toNat), i, ())) (fun i b => b.length = K.length ∧ b.drop i.toNat = K.drop i.toNat ∧ b.take i.toNat = mkKs (K.take i.toNat) k) (b0 := K) (by simp [totL]) (by omega) ⟨rfl, rfl, by simp [mkKs]⟩ ?_ ?_
  · intro i b h2 h3 ⟨hb, hd, ht⟩
    have hi : i < (b.length : Int) := by omega
    obtain ⟨v, hv⟩ := at_of (l := K) h2 h3
    obtain ⟨u, hu⟩ := at_of (l := b) h2 hi
    have huv : u = v := by
      have e1 := hu.drop
      have e2 := hv.drop
      rw [hd, e2] at e1
      exact (List.cons.inj e1).1.symm
    subst huv
    have htot := totL_take K (i + 1).toNat
    have hnn := totL_nonneg (K.drop (i + 1).toNat)
    have hnn2 := totL_nonneg (K.take i.toNat)
    have e3 : totL (K.take (i + 1).toNat) = totL (K.take i.toNat) + u.length := by rw [hv.take, totL_append]; simp [totL]
    refine Round.yes (decide_eq_true hi) (Round.chk (chk_at h2 hi) (Round.at hu.get (Round.bind (e159 u (k + totL (K.take i.toNat)) (by omega) (by omega)) (Round.at hu.get (Round.again _ ⟨b.set i.toNat (mkL (wr .i16) u.length (k + totL (K.take i.toNat))), ?_, by simpa using hb, ?_, ?_⟩)))))
    · rw [wr_succ h2 h3 (by omega), e3, Int.add_assoc]
    · rw [show (i + 1).toNat = i.toNat + 1 by omega, List.drop_set_of_lt (by omega)]
      have e1 := hu.drop
      have e2 := hv.drop
      rw [hd, e2] at e1
      have := (List.cons.inj e1).2
      rw [show (i + 1).toNat = i.toNat + 1 by omega] at this
      have e4 : b.drop (i.toNat + 1) = (b.drop i.toNat).tail := by simp
      have e5 : K.drop (i.toNat + 1) = (K.drop i.toNat).tail := by simp
      rw [e4, e5, hd]
    · rw [take_set_succ h2 hi, ht, hv.take, mkKs_snoc]
  · intro b ⟨hb, hd, ht⟩
    simp only [take_all] at ht ⊢
    have e : b = mkKs K k := by rw [← ht, ← hb, take_all]
    rw [← e]
    exact Round.no (by simp [hb]) (Round.done (Evt.some _))
/- laws.markCutS -/
theorem e67 (l : List Ct) (k : Int) (h0 : 0 ≤ k) (h1 : k + 3 * l.length ≤ 4611686018427387904) : Evt (fun n => call T C n 67 (l, k, ())) ((k + 3 * l.length, ()), (mkC (wr .i16) (wr .i16) (wr .i8) l.length k, ())) := by
  refine Evt.next ?_ (fun n => r67 n l k)
  refine for_evt' 0 (l.length : Int) (fun i (b : List Ct) => (b, k + 3 * i, i, ())) (fun i b => b.length = l.length ∧ b.take i.toNat = mkC (wr .i16) (wr .i16) (wr .i8) i.toNat k) (b0 := l) (by simp) (by omega) ⟨rfl, by simp [mkC]⟩ ?_ ?_
  · intro i b h2 h3 ⟨hb, ht⟩
    have hi : i < (b.length : Int) := by omega
    obtain ⟨u, hu⟩ := get_of_lt h2 hi
    have hset : ∀ v : Ct, (b.set i.toNat v)[i.toNat]? = some v := fun v => List.getElem?_set_self (by omega)
    have hsl : ∀ v : Ct, i < (((b.set i.toNat v).length : Nat) : Int) := fun v => by rw [List.length_set]; exact hi
    simp only [wrap_id (x := k + 3 * i + 1) (by omega) (by omega), wrap_id (x := k + 3 * i + 1 + 1) (by omega) (by omega), wrap_id (x := k + 3 * i + 1 + 1 + 1) (by omega) (by omega), wrap_id (x := i + 1) (by omega) (by omega), List.set_set]
    refine Round.yes (decide_eq_true hi) (Round.chk (chk_at h2 hi) (Round.at hu (Round.chk (chk_at h2 (hsl _)) (Round.at (hset _) (Round.chk (chk_at h2 (hsl _)) (Round.at (hset _) (Round.again _ ⟨b.set i.toNat (wr .i16 (k + 3 * i), wr .i16 (k + 3 * i + 1), wr .i8 (k + 3 * i + 1 + 1), ()), ?_, by simpa using hb, ?_⟩)))))))
    · rw [show k + 3 * (i + 1) = k + 3 * i + 1 + 1 + 1 by omega]
    · rw [take_set_succ h2 hi, ht, show (i + 1).toNat = i.toNat + 1 by omega, mkC_succ, show ((i.toNat : Nat) : Int) = i by omega]
  · intro b ⟨hb, ht⟩
    have e : b = mkC (wr .i16) (wr .i16) (wr .i8) l.length k := by rw [← take_all b, hb, ht]; simp
    rw [← e]
    exact Round.no (by simp [hb]) (Round.done (Evt.some _))
/- laws.markInt64S -/
theorem e68 (l : List Int) (k : Int) (h0 : 0 ≤ k) (h1 : k + l.length ≤ 4611686018427387904) : Evt (fun n => call T C n 68 (l, k, ())) ((k + l.length, ()), (mkL id l.length k, ())) := by
  refine Evt.next ?_ (fun n => r68 n l k)
  refine for_evt' 0 (l.length : Int) (fun i (b : List Int) => (b, k + i, i, ())) (fun i b => b.length = l.length ∧ b.take i.toNat = mkL id i.toNat k) (b0 := l) (by simp) (by omega) ⟨rfl, by simp [mkL]⟩ ?_ ?_
  · intro i b h2 h3 ⟨hb, ht⟩
    have hi : i < (b.length : Int) := by omega
    obtain ⟨u, hu⟩ := get_of_lt h2 hi
    refine Round.yes (decide_eq_true hi) (Round.chk (chk_at h2 hi) (Round.at hu (Round.again _ ⟨b.set i.toNat (id (k + i)), ?_, by simpa using hb, ?_⟩)))
    · rw [wrap_id (x := k + i + 1) (by omega) (by omega), wrap_id (x := i + 1) (by omega) (by omega)]
      simp only [Int.add_assoc, id_eq]
    · rw [take_set_succ h2 hi, ht, show (i + 1).toNat = i.toNat + 1 by omega, mkL_succ, show ((i.toNat : Nat) : Int) = i by omega]
  · intro b ⟨hb, ht⟩
    have e : b = mkL id l.length k := by rw [← take_all b, hb, ht]; simp
    rw [← e]
    exact Round.no (by simp [hb]) (Round.done (Evt.some _))
/- laws.heldInt64S -/
theorem e69 (m : Nat) (k : Int) (h0 : 0 ≤ k) (h1 : k + m ≤ 4611686018427387904) : Evt (fun n => call T C n 69 (mkL id m k, k, ())) ((k + m, ()), ()) := by
  refine Evt.next ?_ (fun n => r69 n _ k)
  refine for_evt' 0 (m : Int) (fun i (_ : Unit) => (mkL id m k, k + i, i, ())) (fun _ _ => True) (b0 := ()) (by simp) (by omega) trivial ?_ ?_
  · intro i _ h2 h3 _
    obtain ⟨v, hv⟩ := at_of (l := mkL id m k) h2 (by rw [mkL_len]; exact h3)
    have e := mkL_at id m k hv h2
    refine Round.yes (by rw [mkL_len]; exact decide_eq_true h3) (Round.at hv.idx (Round.no (by simp [e]) (Round.again _ ⟨(), ?_, trivial⟩)))
    rw [wrap_id (x := k + i + 1) (by omega) (by omega), wrap_id (x := i + 1) (by omega) (by omega)]
    simp only [Int.add_assoc]
  · intro _ _
    exact Round.no (by simp [mkL_len]) (Round.done (Evt.some _))
/- laws.FnExactIdleCuts -/
theorem e8 (x n0 : Int) (K : List (List Int)) (l : List Ct) (hd : DomA (C 8).params (x, n0, K, l, ())) : Evt (fun n => call T C n 8 (x, n0, K, l, ())) ((true, ()), ()) := by
  have hk : RngS K := rngS_of hd.2.2.1
  have hr : RngC l := rngC_of hd.2.2.2.1
  have hkl := hk.len'
  have hll := hr.len'
  refine Evt.next (Evt.bind (e57 K (by omega) 1048576) (Evt.ite (fun _ => Evt.some _) (fun hs2 => ?_))) (fun n => r8 n x n0 K l)
  have hs2 := szL_ok hk (by omega) (Int.le_refl _) (by simpa using hs2)
  refine Evt.bind (e58 l _) (Evt.ite (fun _ => Evt.some _) (fun hs3 => ?_))
  have hR := idR_len (x := x) (n := n0) hk hr
  have htn := totL_nonneg K
  have to2 := e60 K hk
  have to3 := e61 l hr
  have im := e62 x n0 K l hk hr
  have hm1 := e66 K hk 1 (by omega) (by omega)
  have hm2 := e67 l (1 + totL K) (by omega) (by omega)
  have hm := e68 (idR x n0 K l).1 1 (by omega) (by omega)
  have hh := e69 (idR x n0 K l).1.length 1 (by omega) (by omega)
  have eqg := e63 (idR x n0 K l).1 (by omega)
  refine Evt.bind to2 (Evt.bind to3 (Evt.bind (e59 x n0 K l hk hr) (Evt.bind to2 (Evt.bind to3 (Evt.bind im (Evt.bind eqg ?_))))))
  refine Evt.no (by simp) (Evt.no (by simp) ?_)
  refine Evt.bind to2 (Evt.bind (e64 K hk) (Evt.no (by simp) (Evt.bind to3 (Evt.bind (e65 l (by omega)) (Evt.no (by simp) ?_)))))
  refine Evt.bind hm1 (Evt.bind hm2 (Evt.no (by simp; omega) (Evt.bind eqg (Evt.no (by simp) (Evt.no (by simp) ?_)))))
  refine Evt.bind hm (Evt.bind hh (Evt.no (by simp; omega) (Evt.no (by simp) ?_)))
  refine Evt.bind to2 (Evt.bind to3 (Evt.bind im (Evt.bind eqg (Evt.no (by simp) (Evt.no (by simp) (Evt.bind hh (Evt.no (by simp; omega) (Evt.no (by simp) (Evt.some _)))))))))

end Go.Cams.YtdhgdfofgeccgaaLIdleCuts
