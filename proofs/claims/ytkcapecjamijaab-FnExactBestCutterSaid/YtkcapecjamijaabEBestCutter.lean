/- What the functions that the law reaches come to. -/
import Derived.Test.YtkcapecjamijaabRBestCutter
import Derived.Test.YtkcapecjamijaabPu9
namespace Go.Cams.YtkcapecjamijaabLBestCutter
open Go Go.Fw Go.Proofs Go.Proofs.Ytkcapecjamijaab.LBestCutter
/- laws.szCutter -/
theorem e21 (l : List Int) (a : Int) : Evt (fun n => call T C n 21 (l, a, ())) ((sz1 l a, ()), ()) := by
  refine Evt.next ?_ (fun n => r21 n l a)
  unfold sz1
  refine Evt.ite (fun h => ?_) (fun h => ?_)
  · rw [if_pos (of_decide_eq_true h)]; exact Evt.some _
  · rw [if_neg (by simpa using h)]; exact Evt.some _
/- laws.szCutterS -/
theorem e5 (K : List (List Int)) (hl : (K.length : Int) ≤ 140737488351232) (a : Int) : Evt (fun n => call T C n 5 (K, a, ())) ((szL K a, ()), ()) := by
  refine Evt.next ?_ (fun n => r5 n K a)
  unfold szL
  refine Evt.ite (fun h => ?_) (fun h => ?_)
  · rw [if_pos (of_decide_eq_true h)]; exact Evt.some _
  · rw [if_neg (by simpa using h)]
    generalize wr .i64 (a - (K.length : Int)) = b
    refine for_evt' 0 (K.length : Int) (fun i (c : Int) => (K, c, i, ())) (fun i c => szLf K b = szLf (K.drop i.toNat) c) (b0 := b) rfl (by omega) (by simp) ?_ ?_
    · intro i c h2 h3 hp
      obtain ⟨v, hv⟩ := at_of h2 h3
      rw [hv.drop] at hp
      simp only [szLf] at hp
      refine Round.yes (decide_eq_true h3) (Round.at hv.idx (Round.bind (e21 v c) (Round.ite (fun hb => ?_) (fun hb => ?_))))
      · rw [hp, if_pos (of_decide_eq_true hb)]
        exact Round.done (Evt.some _)
      · rw [if_neg (by simpa using hb)] at hp
        exact Round.again _ ⟨sz1 v c, by rw [wr_succ h2 h3 (by omega)], hp⟩
    · intro c hp
      rw [drop_all] at hp
      rw [hp]
      exact Round.no (by simp) (Round.done (Evt.some _))
/- laws.toCam -/
theorem e7 (l : List Int) (hl : (l.length : Int) * 2 ≤ 140737488351232) : Evt (fun n => call T C n 7 (l, ())) ((l, ()), ()) := by
  refine Evt.next (Evt.chk (by simp; omega) ?_) (fun n => r7 n l)
  refine for_evt 0 (l.length : Int) (fun i (b : List Int) => (l, b, i, ())) (fun i b => b.length = l.length ∧ b.take i.toNat = l.take i.toNat) (b0 := List.replicate (Int.toNat (l.length : Int)) 0) (by omega) ⟨by simp, by simp⟩ ?_ ?_
  · intro i b h2 h3 ⟨hb, ht⟩
    have hi : i < (b.length : Int) := by omega
    obtain ⟨v, hv⟩ := at_of h2 h3
    obtain ⟨u, hu⟩ := get_of_lt h2 hi
    refine Round.yes (decide_eq_true h3) (Round.at hv.idx (Round.chk (chk_at h2 hi) (Round.at hu (Round.again _ ⟨b.set i.toNat v, ?_, by simpa using hb, ?_⟩))))
    · rw [wr_succ h2 h3 (by omega)]
    · rw [take_set_succ h2 hi, ht, hv.take]
  · intro b ⟨hb, ht⟩
    have e : b = l := by rw [← take_all b, hb, ht]; simp
    rw [e]
    exact Round.no (by simp) (Round.done (Evt.some _))
/- laws.toCutter -/
theorem e26 (l : List Int) (hl : (l.length : Int) * 2 ≤ 140737488351232) : Evt (fun n => call T C n 26 (l, ())) ((l, ()), ()) := by
  refine Evt.next (Evt.chk (by simp; omega) ?_) (fun n => r26 n l)
  refine for_evt 0 (l.length : Int) (fun i (b : List Int) => (l, b, i, ())) (fun i b => b.length = l.length ∧ b.take i.toNat = l.take i.toNat) (b0 := List.replicate (Int.toNat (l.length : Int)) 0) (by omega) ⟨by simp, by simp⟩ ?_ ?_
  · intro i b h2 h3 ⟨hb, ht⟩
    have hi : i < (b.length : Int) := by omega
    obtain ⟨v, hv⟩ := at_of h2 h3
    obtain ⟨u, hu⟩ := get_of_lt h2 hi
    refine Round.yes (decide_eq_true h3) (Round.at hv.idx (Round.chk (chk_at h2 hi) (Round.at hu (Round.again _ ⟨b.set i.toNat v, ?_, by simpa using hb, ?_⟩))))
    · rw [wr_succ h2 h3 (by omega)]
    · rw [take_set_succ h2 hi, ht, hv.take]
  · intro b ⟨hb, ht⟩
    have e : b = l := by rw [← take_all b, hb, ht]; simp
    rw [e]
    exact Round.no (by simp) (Round.done (Evt.some _))
/- laws.toCutterS -/
theorem e8 (K : List (List Int)) (hr : RngS K) : Evt (fun n => call T C n 8 (K, ())) ((K, ()), ()) := by
  have hl := hr.len
  refine Evt.next (Evt.chk (by simp; omega) ?_) (fun n => r8 n K)
  refine for_evt' 0 (K.length : Int) (fun i (b : List (List Int)) => (K, b, i, ())) (fun i b => b.length = K.length ∧ b.take i.toNat = K.take i.toNat) (b0 := List.replicate (Int.toNat (K.length : Int)) []) rfl (by omega) ⟨by simp, by simp⟩ ?_ ?_
  · intro i b h2 h3 ⟨hb, ht⟩
    have hi : i < (b.length : Int) := by omega
    obtain ⟨v, hv⟩ := at_of h2 h3
    obtain ⟨u, hu⟩ := get_of_lt h2 hi
    refine Round.yes (decide_eq_true h3) (Round.at hv.idx (Round.bind (e26 v (hr.el v hv.mem).len) (Round.chk (chk_at h2 hi) (Round.at hu (Round.again _ ⟨b.set i.toNat v, ?_, by simpa using hb, ?_⟩)))))
    · rw [wr_succ h2 h3 (by omega)]
    · rw [take_set_succ h2 hi, ht, hv.take]
  · intro b ⟨hb, ht⟩
    have e : b = K := by rw [← take_all b, hb, ht]; simp
    rw [e]
    exact Round.no (by simp) (Round.done (Evt.some _))
/- spec.l00In -/
theorem e48 (a b c : Int) : Evt (fun n => call T C n 48 (a, b, c, ())) ((inR a b c, ()), ()) := by
  refine Evt.next ?_ (fun n => r48 n a b c)
  refine Evt.ite (fun h => ?_) (fun h => ?_)
  · refine (Evt.some _).of_eq fun n => ?_
    have h : b ≤ a := of_decide_eq_true h
    simp [inR, h]
    rfl
  · refine (Evt.some _).of_eq fun n => ?_
    have h : ¬ b ≤ a := by simpa using h
    simp [inR, h]
    rfl
/- spec.l01Steps -/
theorem e45 (a : Int) : Evt (fun n => call T C n 45 (a, ())) ((inR a 8 360, ()), ()) := Evt.next (Evt.bind (e48 a 8 360) (Evt.some _)) (fun n => r45 n a)
/- spec.l01Lift -/
theorem e46 (a : Int) : Evt (fun n => call T C n 46 (a, ())) ((inR a 0 10000, ()), ()) := Evt.next (Evt.bind (e48 a 0 10000) (Evt.some _)) (fun n => r46 n a)
/- spec.l01Ok -/
theorem e22 (l : List Int) (hl : (l.length : Int) ≤ 140737488351232) : Evt (fun n => call T C n 22 (l, ())) ((okC l, ()), ()) := by
  refine Evt.next ?_ (fun n => r22 n l)
  refine Evt.bind (e45 _) ?_
  refine Evt.ite (fun h => ?_) (fun h => ?_)
  · refine (Evt.some _).of_eq fun n => ?_
    have h : inR (l.length : Int) 8 360 = false := by simpa using h
    simp [okC, h]
    rfl
  · have h : inR (l.length : Int) 8 360 = true := by simpa using h
    have he : okC l = l.all okV := by simp [okC, h]
    rw [he]
    refine loop_evt (fun (x : List Int × Int × Unit) => x.1 = l ∧ 0 ≤ x.2.1 ∧ x.2.1 ≤ (l.length : Int) ∧ l.all okV = (l.drop x.2.1.toNat).all okV) (fun (x : List Int × Int × Unit) => ((l.length : Int) - x.2.1).toNat) (x := (l, 0, ())) ⟨rfl, Int.le_refl _, by simp, by simp⟩ ?_
    rintro ⟨x1, i, _⟩ ⟨h', h0, h1, h2⟩
    simp only at h' h0 h1 h2
    subst h'
    refine Round.ite (fun hlt => ?_) (fun hge => ?_)
    · have hlt : i < (x1.length : Int) := of_decide_eq_true hlt
      obtain ⟨v, hv, hv'⟩ := idx_at h0 hlt
      have hd := drop_cons hv'
      refine Round.at hv (Round.bind (e46 _) (Round.ite (fun hb => ?_) (fun hb => ?_)))
      · have hb : okV v = false := by simpa [okV] using hb
        have h3 : x1.all okV = false := by rw [h2, hd]; simp [hb]
        rw [h3]
        exact Round.done (Evt.some _)
      · have hb : okV v = true := by simpa [okV] using hb
        have hw : wr .i64 (i + 1) = i + 1 := wrap_id (by omega) (by omega)
        refine Round.again _ ⟨⟨rfl, ?_, ?_, ?_⟩, ?_⟩ <;> simp only [hw]
        · omega
        · omega
        · rw [h2, hd, show (i + 1).toNat = i.toNat + 1 by omega]
          simp [hb]
        · omega
    · have hge : ¬ i < (x1.length : Int) := by simpa using hge
      have : x1.drop i.toNat = [] := List.drop_of_length_le (by omega)
      rw [h2, this]
      exact Round.done (Evt.some _)
/- spec.l06Ok -/
theorem e47 (k : List Int) (hr : Rng k) : Evt (fun n => call T C n 47 (k, ())) ((okK k, ()), ()) := by
  have hl := hr.len'
  refine Evt.next (Evt.bind (e48 _ _ _) ?_) (fun n => r47 n k)
  unfold okK
  cases h1 : inR (k.length : Int) 1 31 with
  | false => exact Evt.yes rfl (Evt.some _)
  | true =>
    have hb := inR_iff.1 h1
    have hm : Int.tmod (k.length : Int) 2 = ((k.length % 2 : Nat) : Int) := by rw [show (2 : Int) = ((2 : Nat) : Int) from rfl, ← Int.ofNat_tmod]
    have hd : Int.tdiv (k.length : Int) 2 = ((k.length / 2 : Nat) : Int) := by rw [show (2 : Int) = ((2 : Nat) : Int) from rfl, ← Int.ofNat_tdiv]
    rw [hm, hd, wrap_id (x := ((k.length / 2 : Nat) : Int)) (by omega) (by omega)]
    refine Evt.no (by simp) (Evt.chk rfl (Evt.ite (fun h => ?_) (fun h => ?_)))
    · have h : k.length % 2 = 0 := by
        have h' : (k.length : Int) % 2 = 0 := by simpa using h
        omega
      have e : decide (k.length % 2 = 1) = false := decide_eq_false (by omega)
      rw [e]; exact Evt.some _
    · have h : k.length % 2 = 1 := by
        have h' : ¬ (k.length : Int) % 2 = 0 := by simpa using h
        omega
      have e : decide (k.length % 2 = 1) = true := decide_eq_true h
      rw [e]
      have hmid := g_idx (l := k) (i := ((k.length / 2 : Nat) : Int)) (by omega) (by omega)
      rw [Int.toNat_natCast] at hmid
      refine Evt.chk rfl (Evt.at hmid.idx (Evt.ite (fun h0 => ?_) (fun h0 => ?_)))
      · have h0 : (g k (k.length / 2) == 0) = false := by simpa using h0
        rw [h0]; exact Evt.some _
      · have h0 : (g k (k.length / 2) == 0) = true := by simpa using h0
        rw [h0]
        simp only [Bool.true_and]
        refine for_evt' 0 (((k.length / 2 : Nat) : Int) + 1) (fun i (_ : Unit) => (k, (k.length : Int), i, ())) (fun i _ => allTo (kOne k) i.toNat = true) (b0 := ()) rfl (by omega) (by rfl) ?_ ?_
        · intro i _ h2 h3 hp
          obtain ⟨a, rfl⟩ : ∃ a : Nat, i = a := ⟨i.toNat, by omega⟩
          rw [Int.toNat_natCast] at hp
          have h3' : a < k.length / 2 + 1 := by omega
          have hai := g_idx (l := k) (i := (a : Int)) (by omega) (by omega)
          have haj := g_idx (l := k) (i := (k.length : Int) - 1 - a) (by omega) (by omega)
          rw [Int.toNat_natCast] at hai
          rw [show ((k.length : Int) - 1 - a).toNat = k.length - 1 - a by omega] at haj
          have bad : kOne k a = false → allTo (kOne k) (k.length / 2 + 1) = false := allTo_false h3'
          simp only [hd, wrap_id (x := ((k.length / 2 : Nat) : Int)) (by omega) (by omega), wrap_id (x := (a : Int) + 1) (by omega) (by omega), wrap_id (x := (a : Int) - 1) (by omega) (by omega), wrap_id (x := (k.length : Int) - 1) (by omega) (by omega), wrap_id (x := (k.length : Int) - 1 - (a : Int)) (by omega) (by omega)]
          refine Round.chk rfl (Round.yes (decide_eq_true (by omega)) (Round.at hai.idx (Round.bind (e46 _) (Round.ite (fun c1 => ?_) (fun c1 => ?_)))))
          · have c1 : inR (wr .i64 (g k a)) 0 10000 = false := by simpa using c1
            rw [bad (by simp [kOne, c1])]
            exact Round.done (Evt.some _)
          have c1 : inR (wr .i64 (g k a)) 0 10000 = true := by simpa using c1
          refine Round.at haj.idx (Round.at hai.idx (Round.ite (fun c2 => ?_) (fun c2 => ?_)))
          · have c2 : (g k (k.length - 1 - a) == g k a) = false := by simpa using c2
            rw [bad (by simp [kOne, c2])]
            exact Round.done (Evt.some _)
          have c2 : (g k (k.length - 1 - a) == g k a) = true := by simpa using c2
          have again : kOne k a = true → ∃ b' : Unit, ((k, (k.length : Int), (a : Int) + 1, ()) : List Int × Int × Int × Unit) = (k, (k.length : Int), (a : Int) + 1, ()) ∧ allTo (kOne k) ((a : Int) + 1).toNat = true := fun h => ⟨(), rfl, by rw [show ((a : Int) + 1).toNat = a + 1 by omega, allTo_succ, hp, h]; rfl⟩
          refine Round.ite (fun c3 => ?_) (fun c3 => ?_)
          · have c3 : (a : Int) > 0 := of_decide_eq_true c3
            have hab := g_idx (l := k) (i := (a : Int) - 1) (by omega) (by omega)
            rw [show ((a : Int) - 1).toNat = a - 1 by omega] at hab
            refine Round.at hab.idx (Round.at hai.idx (Round.ite (fun c4 => ?_) (fun c4 => ?_)))
            · have c4 : g k (a - 1) < g k a := by simpa using c4
              rw [bad (by simp [kOne, c4]; omega)]
              exact Round.done (Evt.some _)
            · have c4 : ¬ g k (a - 1) < g k a := by simpa using c4
              exact Round.again _ (again (by simp only [kOne, c1, c2]; simp; omega))
          · have c3 : ¬ (a : Int) > 0 := by simpa using c3
            exact Round.no (by simp) (Round.again _ (again (by simp only [kOne, c1, c2]; simp; omega)))
        · intro _ hp
          have hp : allTo (kOne k) (k.length / 2 + 1) = true := by
            rw [show (((k.length / 2 : Nat) : Int) + 1).toNat = k.length / 2 + 1 by omega] at hp; exact hp
          rw [hp]
          simp only [hd, wrap_id (x := ((k.length / 2 : Nat) : Int)) (by omega) (by omega)]
          exact Round.chk rfl (Round.no (by simp; omega) (Round.done (Evt.some _)))
/- spec.l06Cutters -/
theorem e23 (K : List (List Int)) (hr : RngS K) : Evt (fun n => call T C n 23 (K, ())) ((okKs K, ()), ()) := by
  have hl := hr.len'
  refine Evt.next ?_ (fun n => r23 n K)
  refine for_evt' 0 (K.length : Int) (fun i (_ : Unit) => (K, i, ())) (fun i _ => okKs K = (K.drop i.toNat).all okK) (b0 := ()) rfl (by omega) (by simp [okKs]) ?_ ?_
  · intro i _ h2 h3 hp
    obtain ⟨v, hv⟩ := at_of h2 h3
    rw [hv.drop, List.all_cons] at hp
    refine Round.yes (decide_eq_true h3) (Round.at hv.idx (Round.bind (e47 v (hr.el v hv.mem)) ?_))
    cases hb : okK v with
    | false => rw [hp, hb]; exact Round.yes rfl (Round.done (Evt.some _))
    | true =>
      rw [hb, Bool.true_and] at hp
      exact Round.no (by simp) (Round.again _ ⟨(), by rw [wr_succ h2 h3 (by omega)], hp⟩)
  · intro _ hp
    rw [drop_all] at hp
    rw [hp]
    exact Round.no (by simp) (Round.done (Evt.some _))
/- spec.l06Some -/
theorem e24 (K : List (List Int)) : Evt (fun n => call T C n 24 (K, ())) ((inR (K.length : Int) 1 8, ()), ()) := Evt.next (Evt.bind (e48 _ _ _) (Evt.some _)) (fun n => r24 n K)
/- spec.l01At -/
theorem e86 {l : List Int} (hr : Rng l) (h0 : 0 < (l.length : Int)) (h1 : (l.length : Int) ≤ 1000000) {x : Int} (hx : -4000000 ≤ x) (hx' : x ≤ 4000000) : ∃ v, l[(x % l.length).toNat]? = some v ∧ v ∈ l ∧ Evt (fun n => call T C n 86 (l, x, ())) ((v, ()), ()) := by
  have hp := Int.emod_nonneg x (show (l.length : Int) ≠ 0 by omega)
  obtain ⟨v, hv⟩ := at_of (l := l) hp (Int.emod_lt_of_pos x h0)
  refine ⟨v, hv.get, hv.mem, ?_⟩
  refine Evt.next (Evt.chk (bne_pos h0) (Evt.chk (bne_pos h0) ?_)) (fun n => r86 n l x)
  rw [turn_at h0 h1 hx hx']
  refine Evt.at hv.idx ((Evt.some _).of_eq fun n => ?_)
  rw [hr.id hv.mem]
  rfl
theorem e86' {l : List Int} (hr : Rng l) (h0 : 0 < (l.length : Int)) (h1 : (l.length : Int) ≤ 1000000) {x : Int} (hx : -4000000 ≤ x) (hx' : x ≤ 4000000) : Evt (fun n => call T C n 86 (l, x, ())) ((cAt l x, ()), ()) := by
  obtain ⟨v, hv, hm, he⟩ := e86 hr h0 h1 hx hx'
  have : cAt l x = v := by unfold cAt g; rw [List.getD_eq_getElem?_getD, hv]; rfl
  rw [this]; exact he
/- spec.l00Max -/
theorem e80 (a b : Int) : Evt (fun n => call T C n 80 (a, b, ())) ((max a b, ()), ()) := by
  refine Evt.next (Evt.ite (fun h => ?_) (fun h => ?_)) (fun n => r80 n a b)
  · have h : a > b := of_decide_eq_true h
    rw [show max a b = a by omega]; exact Evt.some _
  · have h : ¬ a > b := by simpa using h
    rw [show max a b = b by omega]; exact Evt.some _
/- spec.l06Tip -/
theorem e81 {c k : List Int} (hc : Rng c) (hk : Rng k) (hl0 : 0 < c.length) (hl1 : c.length ≤ 1000) (hC : ∀ v ∈ c, 0 ≤ v ∧ v ≤ 10000) (G : GoodK k) {s : Int} (h0 : 0 ≤ s) (h1 : s ≤ 1000000) : Evt (fun n => call T C n 81 (c, k, s, ())) ((tip c k s, ()), ()) := by
  have hd : Int.tdiv (k.length : Int) 2 = ((k.length / 2 : Nat) : Int) := by rw [show (2 : Int) = ((2 : Nat) : Int) from rfl, ← Int.ofNat_tdiv]
  have hlo := G.lo
  have hhi := G.hi
  have hodd := G.odd
  refine Evt.next (Evt.chk rfl ?_) (fun n => r81 n c k s)
  rw [hd, wrap_id (x := ((k.length / 2 : Nat) : Int)) (by omega) (by omega), wrap_id (x := 0 - ((k.length / 2 : Nat) : Int)) (by omega) (by omega)]
  refine for_evt' 0 (k.length : Int) (fun i (_ : Unit) => (c, k, s, ((k.length / 2 : Nat) : Int), tipTo c k s i.toNat, i - ((k.length / 2 : Nat) : Int), ())) (fun _ _ => True) (b0 := ()) rfl (by omega) trivial ?_ ?_
  · intro i _ h2 h3 _
    obtain ⟨a, rfl⟩ : ∃ a : Nat, i = a := ⟨i.toNat, by omega⟩
    have hai := g_idx (l := k) (i := (a : Int)) (by omega) (by omega)
    rw [Int.toNat_natCast] at hai
    have hbd := tipTo_bd hl0 hC G.el s a (by omega)
    have hck := hC _ (cAt_mem hl0 (s + ((a : Int) - ((k.length / 2 : Nat) : Int))))
    have hka := G.el a (by omega)
    simp only [wrap_id (x := s + ((a : Int) - ((k.length / 2 : Nat) : Int))) (by omega) (by omega), show ((k.length / 2 : Nat) : Int) + ((a : Int) - ((k.length / 2 : Nat) : Int)) = a by omega, wrap_id (x := (a : Int)) (by omega) (by omega), wrap_id (x := (a : Int) - ((k.length / 2 : Nat) : Int) + 1) (by omega) (by omega)]
    refine Round.yes (decide_eq_true (by omega)) (Round.bind (e86' hc (by omega) (by omega) (by omega) (by omega)) (Round.at hai.idx (Round.bind (e80 _ _) (Round.again _ ⟨(), ?_, trivial⟩))))
    rw [hk.id (g_mem (by omega)), wrap_id (x := cAt c (s + ((a : Int) - ((k.length / 2 : Nat) : Int))) - g k a) (by omega) (by omega)]
    rw [show ((a : Int) + 1).toNat = a + 1 by omega, Int.toNat_natCast]
    rw [tipTo_succ]
    unfold half
    rw [show s + ((a : Int) - ((k.length / 2 : Nat) : Int)) = s + (a : Int) - ((k.length / 2 : Nat) : Int) by omega, show (a : Int) - ((k.length / 2 : Nat) : Int) + 1 = (a : Int) + 1 - ((k.length / 2 : Nat) : Int) by omega]
  · intro _ _
    simp only [Int.toNat_natCast]
    exact Round.no (by simp; omega) (Round.done (Evt.some _))
/- spec.l06Tips -/
theorem e71 {c k : List Int} (hc : Rng c) (hk : Rng k) (hl0 : 0 < c.length) (hl1 : c.length ≤ 1000) (hC : ∀ v ∈ c, 0 ≤ v ∧ v ≤ 10000) (G : GoodK k) : Evt (fun n => call T C n 71 (c, k, ())) ((tipsL c k c.length, ()), ()) := by
  refine Evt.next ?_ (fun n => r71 n c k)
  refine for_evt' 0 (c.length : Int) (fun i (_ : Unit) => (c, k, tipsL c k i.toNat, i, ())) (fun _ _ => True) (b0 := ()) rfl (by omega) trivial ?_ ?_
  · intro i _ h2 h3 _
    refine Round.yes (decide_eq_true h3) (Round.bind (e81 hc hk hl0 hl1 hC G h2 (show i ≤ 1000000 by omega)) (Round.chk (by simp [tipsL_len]; omega) (Round.again _ ⟨(), ?_, trivial⟩)))
    rw [tipsL_succ c k h2, wr_succ h2 h3 (by omega)]
  · intro _ _
    simp only [Int.toNat_natCast]
    exact Round.no (by simp) (Round.done (Evt.some _))
/- spec.l06Cut -/
theorem e72 {o k : List Int} (hk : Rng k) (hl0 : 0 < o.length) (hl1 : o.length ≤ 1000) (ho : ∀ v ∈ o, 0 ≤ v ∧ v ≤ 10000) (G : GoodK k) {s t : Int} (h0 : 0 ≤ s) (h1 : s ≤ 1000000) (t0 : 0 ≤ t) (t1 : t ≤ 1000000) : Evt (fun n => call T C n 72 (o, k, s, t, ())) (((cutTo k s t o k.length).1, (cutTo k s t o k.length).2, ()), ()) := by
  have hd : Int.tdiv (k.length : Int) 2 = ((k.length / 2 : Nat) : Int) := by rw [show (2 : Int) = ((2 : Nat) : Int) from rfl, ← Int.ofNat_tdiv]
  have hlo := G.lo
  have hhi := G.hi
  have hodd := G.odd
  refine Evt.next (Evt.chk (by simp; omega) (Evt.chk rfl ?_)) (fun n => r72 n o k s t)
  rw [hd, wrap_id (x := ((k.length / 2 : Nat) : Int)) (by omega) (by omega), wrap_id (x := 0 - ((k.length / 2 : Nat) : Int)) (by omega) (by omega)]
  refine for_evt' 0 (k.length : Int) (fun i (_ : Unit) => (k, s, t, (cutTo k s t o i.toNat).1, (o.length : Int), ((k.length / 2 : Nat) : Int), (cutTo k s t o i.toNat).2, i - ((k.length / 2 : Nat) : Int), ())) (fun _ _ => True) (b0 := ()) (by simp [cutTo]) (by omega) trivial ?_ ?_
  · intro i _ h2 h3 _
    obtain ⟨a, rfl⟩ : ∃ a : Nat, i = a := ⟨i.toNat, by omega⟩
    have hai := g_idx (l := k) (i := (a : Int)) (by omega) (by omega)
    rw [Int.toNat_natCast] at hai
    have hka := G.el a (by omega)
    obtain ⟨b1, b2, b3⟩ := cutTo_bd k s hl0 t0 (fun i hi => (G.el i hi).1) ho a (by omega)
    have hlen := cutTo_len k s t o a
    have hpl := place_lt k s hl0 a
    have hplace : ((place k s o.length a : Nat) : Int) = (s + (a : Int) - ((k.length / 2 : Nat) : Int)) % (o.length : Int) := by
      have := Int.emod_nonneg (s + (a : Int) - ((k.length / 2 : Nat) : Int)) (show (o.length : Int) ≠ 0 by omega)
      unfold place half
      omega
    have hat := g_idx (l := (cutTo k s t o a).1) (i := ((place k s o.length a : Nat) : Int)) (by omega) (by omega)
    rw [Int.toNat_natCast] at hat
    have hv := b1 _ (g_mem (l := (cutTo k s t o a).1) (i := place k s o.length a) (by omega))
    have hget : (cutTo k s t o a).1[place k s o.length a]? = some (g (cutTo k s t o a).1 (place k s o.length a)) := by have := hat.get; rwa [Int.toNat_natCast] at this
    have hat2 : Int.tmod (wr .i64 (Int.tmod (s + (a : Int) - ((k.length / 2 : Nat) : Int)) (o.length : Int) + (o.length : Int))) (o.length : Int) = ((place k s o.length a : Nat) : Int) := by
      rw [hplace]; exact turn_at (by omega) (by omega) (by omega) (by omega)
    simp only [Int.toNat_natCast, wrap_id (x := s + (a : Int) - ((k.length / 2 : Nat) : Int)) (by omega) (by omega), wrap_id (x := s + ((a : Int) - ((k.length / 2 : Nat) : Int))) (by omega) (by omega), show s + ((a : Int) - ((k.length / 2 : Nat) : Int)) = s + (a : Int) - ((k.length / 2 : Nat) : Int) by omega, hat2, show ((k.length / 2 : Nat) : Int) + ((a : Int) - ((k.length / 2 : Nat) : Int)) = a by omega, wrap_id (x := (a : Int)) (by omega) (by omega), wrap_id (x := (a : Int) - ((k.length / 2 : Nat) : Int) + 1) (by omega) (by omega)]
    refine Round.yes (decide_eq_true (by omega)) (Round.chk (bne_pos (by omega)) (Round.chk (bne_pos (by omega)) (Round.at hai.idx ?_)))
    simp only [hk.id (g_mem (l := k) (i := a) (by omega)), wrap_id (x := t + g k a) (by omega) (by omega)]
    refine Round.chk (decide_eq_true ⟨by omega, by omega⟩) (Round.at hget ?_)
    simp only [wrap_id (x := g (cutTo k s t o a).1 (place k s o.length a)) (by omega) (by omega)]
    refine Round.ite (fun hc => ?_) (fun hc => ?_)
    · have hc : g (cutTo k s t o a).1 (place k s o.length a) > t + g k a := of_decide_eq_true hc
      refine Round.chk (decide_eq_true ⟨by omega, by omega⟩) (Round.at hget (Round.chk (decide_eq_true ⟨by omega, by omega⟩) (Round.at hget (Round.again _ ⟨(), ?_, trivial⟩))))
      rw [show ((a : Int) + 1).toNat = a + 1 by omega, cutTo_succ, if_pos hc, wrap16 (x := t + g k a) (by omega) (by omega), wrap_id (x := g (cutTo k s t o a).1 (place k s o.length a)) (by omega) (by omega), wrap_id (x := g (cutTo k s t o a).1 (place k s o.length a) - (t + g k a)) (by omega) (by omega), wrap_id (x := (cutTo k s t o a).2 + (g (cutTo k s t o a).1 (place k s o.length a) - (t + g k a))) (by omega) (by omega)]
      rw [show (a : Int) - ((k.length / 2 : Nat) : Int) + 1 = (a : Int) + 1 - ((k.length / 2 : Nat) : Int) by omega]
    · have hc : ¬ g (cutTo k s t o a).1 (place k s o.length a) > t + g k a := by simpa using hc
      refine Round.again _ ⟨(), ?_, trivial⟩
      rw [show ((a : Int) + 1).toNat = a + 1 by omega, cutTo_succ, if_neg hc]
      rw [show (a : Int) - ((k.length / 2 : Nat) : Int) + 1 = (a : Int) + 1 - ((k.length / 2 : Nat) : Int) by omega]
  · intro _ _
    simp only [Int.toNat_natCast]
    exact Round.no (by simp; omega) (Round.done (Evt.some _))
/- spec.l06Left -/
theorem e65 {c k : List Int} (hc : Rng c) (hk : Rng k) (hl0 : 0 < c.length) (hl1 : c.length ≤ 1000) (hC : ∀ v ∈ c, 0 ≤ v ∧ v ≤ 10000) (G : GoodK k) : Evt (fun n => call T C n 65 (c, k, ())) ((leftL c k, ()), ()) := by
  refine Evt.next ?_ (fun n => r65 n c k)
  refine for_evt' 0 (c.length : Int) (fun i (_ : Unit) => (c, k, List.replicate i.toNat (10000 : Int), (c.length : Int), i, ())) (fun _ _ => True) (b0 := ()) rfl (by omega) trivial ?_ ?_
  · intro i _ h2 h3 _
    refine Round.yes (decide_eq_true h3) (Round.chk (by simp; omega) (Round.again _ ⟨(), ?_, trivial⟩))
    rw [wr_succ h2 h3 (by omega), show (i + 1).toNat = i.toNat + 1 by omega, List.replicate_succ']
  · intro _ _
    simp only [Int.toNat_natCast]
    refine Round.no (by simp) (Round.bind (e71 hc hk hl0 hl1 hC G) (Round.done ?_))
    refine for_evt' 0 (c.length : Int) (fun i (_ : Unit) => (k, leftTo c k i.toNat, tipsL c k c.length, i, ())) (fun _ _ => True) (b0 := ()) rfl (by omega) trivial ?_ ?_
    · intro i _ h2 h3 _
      obtain ⟨a, rfl⟩ : ∃ a : Nat, i = a := ⟨i.toNat, by omega⟩
      have hta := g_idx (l := tipsL c k c.length) (i := (a : Int)) (by omega) (by rw [tipsL_len]; omega)
      rw [Int.toNat_natCast, g_tips c k (show a < c.length by omega)] at hta
      have hlen := leftTo_len c k a
      have ht := tipTo_bd hl0 hC G.el (a : Nat) k.length (Nat.le_refl _)
      simp only [Int.toNat_natCast]
      refine Round.yes (decide_eq_true (by rw [tipsL_len]; omega)) (Round.at hta.idx (Round.bind (e72 hk (by omega) (by omega) (leftTo_bd hl0 hC G a) G (s := (a : Int)) (t := tip c k (a : Nat)) (by omega) (by omega) ht.1 (show tip c k (a : Nat) ≤ 1000000 by have : tip c k (a : Nat) ≤ 10000 := ht.2; omega)) (Round.again _ ⟨(), ?_, trivial⟩)))
      rw [wr_succ h2 h3 (by omega), show ((a : Int) + 1).toNat = a + 1 by omega, leftTo_succ]
    · intro _ _
      simp only [Int.toNat_natCast]
      exact Round.no (by simp [tipsL_len]) (Round.done (Evt.some _))
/- spec.l06Waste -/
theorem e49 {c k : List Int} (hc : Rng c) (hk : Rng k) (hl0 : 0 < c.length) (hl1 : c.length ≤ 1000) (hC : ∀ v ∈ c, 0 ≤ v ∧ v ≤ 10000) (G : GoodK k) : Evt (fun n => call T C n 49 (c, k, ())) ((waste c k, ()), ()) := by
  have hll := leftL_len c k
  refine Evt.next (Evt.bind (e65 hc hk hl0 hl1 hC G) ?_) (fun n => r49 n c k)
  refine for_evt' 0 (c.length : Int) (fun i (_ : Unit) => (c, leftL c k, wsTo c (leftL c k) i.toNat, i, ())) (fun _ _ => True) (b0 := ()) rfl (by omega) trivial ?_ ?_
  · intro i _ h2 h3 _
    obtain ⟨a, rfl⟩ : ∃ a : Nat, i = a := ⟨i.toNat, by omega⟩
    have ha := g_idx (l := leftL c k) (i := (a : Int)) (by omega) (by omega)
    have hb := g_idx (l := c) (i := (a : Int)) (by omega) (by omega)
    rw [Int.toNat_natCast] at ha hb
    have h4 := wsTo_bd hl0 hC G a (by omega)
    have h5 := leftTo_bd hl0 hC G c.length _ (g_mem (l := leftL c k) (i := a) (by omega))
    have h6 := hC _ (g_mem (l := c) (i := a) (by omega))
    simp only [Int.toNat_natCast, wr_succ h2 h3 (by omega)]
    refine Round.yes (decide_eq_true h3) (Round.at ha.idx (Round.at hb.idx (Round.again _ ⟨(), ?_, trivial⟩)))
    rw [show ((a : Int) + 1).toNat = a + 1 by omega, wsTo_succ, wrap_id (x := g (leftL c k) a) (by omega) (by omega), wrap_id (x := g c a) (by omega) (by omega), wrap_id (x := g (leftL c k) a - g c a) (by omega) (by omega), wrap_id (x := wsTo c (leftL c k) a + (g (leftL c k) a - g c a)) (by omega) (by omega)]
  · intro _ _
    simp only [Int.toNat_natCast]
    exact Round.no (by simp) (Round.done (Evt.some _))
/- spec.l06Best -/
theorem e25 {c : List Int} {K : List (List Int)} (hc : Rng c) (hr : RngS K) (hl0 : 0 < c.length) (hl1 : c.length ≤ 1000) (hC : ∀ v ∈ c, 0 ≤ v ∧ v ≤ 10000) (G : GoodKs K) (hk0 : 0 < K.length) (hk1 : K.length ≤ 1000) : Evt (fun n => call T C n 25 (c, K, ())) (((bkTo c K K.length).1, (bkTo c K K.length).2, ()), ()) := by
  obtain ⟨v0, hv0⟩ := at_of (l := K) (Int.le_refl 0) (by omega)
  have e0 : K.getD 0 [] = v0 := getD_at hv0
  have hw0 := (wsTo_bd hl0 hC (G.el _ hv0.mem) c.length (Nat.le_refl _)).1
  refine Evt.next (Evt.at hv0.idx (Evt.bind (e49 hc (hr.el _ hv0.mem) hl0 hl1 hC (G.el _ hv0.mem)) ?_)) (fun n => r25 n c K)
  refine for_evt' 1 (K.length : Int) (fun i (_ : Unit) => (c, K, (bkTo c K i.toNat).1, (bkTo c K i.toNat).2, i, ())) (fun _ _ => True) (b0 := ()) (by
    show _ = (c, K, (bkTo c K (0 + 1)).1, (bkTo c K (0 + 1)).2, (1 : Int), ())
    rw [bkTo_succ, if_pos (.inl (show (-1 : Int) < 0 by decide)), e0]; rfl) (by omega) trivial ?_ ?_
  · intro i _ h2 h3 _
    obtain ⟨a, rfl⟩ : ∃ a : Nat, i = a := ⟨i.toNat, by omega⟩
    obtain ⟨v, hv⟩ := at_of (l := K) (i := (a : Int)) (by omega) h3
    have e : K.getD a [] = v := by have := getD_at (d := []) hv; rwa [Int.toNat_natCast] at this
    have hpos := bkTo_pos hl0 hC G a (by omega) (by omega)
    simp only [Int.toNat_natCast, wrap_id (x := (a : Int) + 1) (by omega) (by omega)]
    refine Round.yes (decide_eq_true h3) (Round.at hv.idx (Round.bind (e49 hc (hr.el _ hv.mem) hl0 hl1 hC (G.el _ hv.mem)) (Round.ite (fun hb => ?_) (fun hb => ?_))))
    · have hb : waste c v < (bkTo c K a).2 := of_decide_eq_true hb
      refine Round.again _ ⟨(), ?_, trivial⟩
      rw [show ((a : Int) + 1).toNat = a + 1 by omega, bkTo_succ, e, if_pos (.inr hb)]
    · have hb : ¬ waste c v < (bkTo c K a).2 := by simpa using hb
      refine Round.again _ ⟨(), ?_, trivial⟩
      rw [show ((a : Int) + 1).toNat = a + 1 by omega, bkTo_succ, e, if_neg (by omega)]
  · intro _ _
    simp only [Int.toNat_natCast]
    exact Round.no (by simp) (Round.done (Evt.some _))
/- spec.BestCutter -/
theorem e6 (c : List Int) (K : List (List Int)) (hc : Rng c) (hr : RngS K) : Evt (fun n => call T C n 6 (c, K, ())) (bcR c K, ()) := by
  have hcl := hc.len'
  refine Evt.next (Evt.bind (e22 c (by omega)) ?_) (fun n => r6 n c K)
  unfold bcR
  cases h1 : okC c with
  | false => exact Evt.yes rfl (Evt.some _)
  | true =>
    refine Evt.no (by simp) (Evt.bind (e23 K hr) ?_)
    cases h2 : okKs K with
    | false => exact Evt.yes rfl (Evt.some _)
    | true =>
      refine Evt.no (by simp) (Evt.bind (e24 K) ?_)
      cases h3 : inR (K.length : Int) 1 8 with
      | false => exact Evt.yes rfl (Evt.some _)
      | true =>
        have hl := okC_len h1
        have hb := inR_iff.1 h3
        exact Evt.no (by simp) (Evt.bind (e25 hc hr (by omega) (by omega) (okC_el h1 hc) (goodKs hr h2) (by omega) (by omega)) (Evt.some _))
/- (impl.Cam).steps -/
theorem e51 (a : List Int) : Evt (fun n => call T C n 51 (a, ())) (((a.length : Int), ()), ()) := Evt.next (Evt.some _) (fun n => r51 n a)
/- impl.inRange -/
theorem e58 (a b c : Int) : Evt (fun n => call T C n 58 (a, b, c, ())) ((inR a b c, ()), ()) := by
  refine Evt.next ?_ (fun n => r58 n a b c)
  refine Evt.ite (fun h => ?_) (fun h => ?_)
  · refine (Evt.some _).of_eq fun n => ?_
    have h : b ≤ a := of_decide_eq_true h
    simp [inR, h]
    rfl
  · refine (Evt.some _).of_eq fun n => ?_
    have h : ¬ b ≤ a := by simpa using h
    simp [inR, h]
    rfl
/- impl.isSteps -/
theorem e50 (a : Int) : Evt (fun n => call T C n 50 (a, ())) ((inR a 8 360, ()), ()) := Evt.next (Evt.bind (e58 a 8 360) (Evt.some _)) (fun n => r50 n a)
/- impl.isLift -/
theorem e54 (a : Int) : Evt (fun n => call T C n 54 (a, ())) ((inR a 0 10000, ()), ()) := Evt.next (Evt.bind (e58 a 0 10000) (Evt.some _)) (fun n => r54 n a)
/- impl.ValidCam$1 -/
theorem e53 (v : Int) : Evt (fun n => call T C n 53 (v, ())) ((!okV v, ()), ()) := Evt.next (Evt.bind (e54 _) (Evt.some _)) (fun n => r53 n v)
/- slices.IndexFunc[impl.Cam,int16]{impl.ValidCam$1} -/
theorem e66 (l : List Int) (hl : (l.length : Int) ≤ 140737488351232) : Evt (fun n => call T C n 66 (l, ((), ()), ())) ((fi (fun v => !okV v) l 0, ()), ()) := by
  refine Evt.next ?_ (fun n => r66 n l ((), ()))
  refine loop_evt (fun (x : List Int × (Unit × Unit) × Int × Int × Unit) => x.1 = l ∧ x.2.2.1 = (l.length : Int) ∧ 0 ≤ x.2.2.2.1 ∧ x.2.2.2.1 ≤ (l.length : Int) ∧ fi (fun v => !okV v) l 0 = fi (fun v => !okV v) (l.drop x.2.2.2.1.toNat) x.2.2.2.1) (fun (x : List Int × (Unit × Unit) × Int × Int × Unit) => ((l.length : Int) - x.2.2.2.1).toNat) (x := (l, ((), ()), (l.length : Int), 0, ())) ⟨rfl, rfl, Int.le_refl _, by simp, by simp⟩ ?_
  rintro ⟨x1, u, m, i, _⟩ ⟨h', hm, h0, h1, h2⟩
  simp only at h' hm h0 h1 h2
  subst h'; subst hm
  refine Round.ite (fun hlt => ?_) (fun hge => ?_)
  · have hlt : i < (x1.length : Int) := of_decide_eq_true hlt
    obtain ⟨v, hv, hv'⟩ := idx_at h0 hlt
    have hd := drop_cons hv'
    refine Round.at hv (Round.bind (e53 _) (Round.ite (fun hb => ?_) (fun hb => ?_)))
    · have hb : okV v = false := by simpa using hb
      have h3 : fi (fun v => !okV v) x1 0 = i := by rw [h2, hd]; simp [fi, hb]
      rw [h3]
      exact Round.done (Evt.some _)
    · have hb : okV v = true := by simpa using hb
      have hw : wr .i64 (i + 1) = i + 1 := wrap_id (by omega) (by omega)
      refine Round.again _ ⟨⟨rfl, rfl, ?_, ?_, ?_⟩, ?_⟩ <;> simp only [hw]
      · omega
      · omega
      · rw [h2, hd, show (i + 1).toNat = i.toNat + 1 by omega]
        simp [fi, hb]
      · omega
  · have hge : ¬ i < (x1.length : Int) := by simpa using hge
    have : x1.drop i.toNat = [] := List.drop_of_length_le (by omega)
    rw [h2, this]
    exact Round.done (Evt.some _)
/- slices.ContainsFunc[impl.Cam,int16]{impl.ValidCam$1} -/
theorem e52 (l : List Int) (hl : (l.length : Int) ≤ 140737488351232) : Evt (fun n => call T C n 52 (l, ((), ()), ())) ((l.any (fun v => !okV v), ()), ()) := by
  refine Evt.next (Evt.bind (e66 l hl) ((Evt.some _).of_eq fun n => ?_)) (fun n => r52 n l ((), ()))
  simp only [fi_any _ l 0 (Int.le_refl _)]
  rfl
/- impl.ValidCam -/
theorem e29 (l : List Int) (hl : (l.length : Int) ≤ 140737488351232) : Evt (fun n => call T C n 29 (l, ())) ((okC l, ()), ()) := by
  refine Evt.next (Evt.bind (e51 l) (Evt.bind (e50 _) ?_)) (fun n => r29 n l)
  refine Evt.ite (fun h => ?_) (fun h => ?_)
  · refine Evt.bind (e52 l hl) ((Evt.some _).of_eq fun n => ?_)
    have h : inR (l.length : Int) 8 360 = true := h
    have : okC l = !l.any (fun v => !okV v) := by simp [okC, h, List.any_eq_not_all_not]
    rw [this]
    rfl
  · refine (Evt.some _).of_eq fun n => ?_
    have h : inR (l.length : Int) 8 360 = false := by simpa using h
    simp [okC, h]
    rfl
/- impl.ValidCutter -/
theorem e57 (k : List Int) (hr : Rng k) : Evt (fun n => call T C n 57 (k, ())) ((okK k, ()), ()) := by
  have hl := hr.len'
  have hm : Int.tmod (k.length : Int) 2 = ((k.length % 2 : Nat) : Int) := by rw [show (2 : Int) = ((2 : Nat) : Int) from rfl, ← Int.ofNat_tmod]
  have hd : Int.tdiv (k.length : Int) 2 = ((k.length / 2 : Nat) : Int) := by rw [show (2 : Int) = ((2 : Nat) : Int) from rfl, ← Int.ofNat_tdiv]
  refine Evt.next (Evt.chk rfl ?_) (fun n => r57 n k)
  rw [hm, hd, wrap_id (x := ((k.length / 2 : Nat) : Int)) (by omega) (by omega)]
  refine Evt.ite (fun h => ?_) (fun h => ?_)
  · have h : k.length % 2 = 0 := by
      have h' : (k.length : Int) % 2 = 0 := by simpa using h
      omega
    have e : okK k = false := by unfold okK; rw [show decide (k.length % 2 = 1) = false from decide_eq_false (by omega)]; simp
    rw [e]; exact Evt.some _
  have h : k.length % 2 = 1 := by
    have h' : ¬ (k.length : Int) % 2 = 0 := by simpa using h
    omega
  refine Evt.ite (fun h1 => ?_) (fun h1 => ?_)
  · have h1 : (k.length : Int) > 31 := by simpa using h1
    have e : okK k = false := by
      unfold okK
      have : inR (k.length : Int) 1 31 = false := by rw [Bool.eq_false_iff]; intro hh; have := inR_iff.1 hh; omega
      rw [this]; simp
    rw [e]; exact Evt.some _
  have h1 : ¬ (k.length : Int) > 31 := by simpa using h1
  have hin : inR (k.length : Int) 1 31 = true := inR_iff.2 ⟨by omega, by omega⟩
  have e : okK k = ((g k (k.length / 2) == 0) && allTo (kOne k) (k.length / 2 + 1)) := by unfold okK; rw [hin, show decide (k.length % 2 = 1) = true from decide_eq_true h]; simp
  rw [e]
  have hmid := g_idx (l := k) (i := ((k.length / 2 : Nat) : Int)) (by omega) (by omega)
  rw [Int.toNat_natCast] at hmid
  refine Evt.chk rfl (Evt.at hmid.idx (Evt.ite (fun h0 => ?_) (fun h0 => ?_)))
  · have h0 : (g k (k.length / 2) == 0) = false := by simpa using h0
    rw [h0]; exact Evt.some _
  have h0 : (g k (k.length / 2) == 0) = true := by simpa using h0
  rw [h0]
  simp only [Bool.true_and]
  have e2 : allTo (kOne k) (k.length / 2 + 1) = allTo (kTwo k) k.length := by
    rw [Bool.eq_iff_iff]
    exact ⟨kTwo_of h, kOne_of h⟩
  rw [e2]
  refine for_evt' 0 (k.length : Int) (fun i (_ : Unit) => (k, (k.length : Int), k, (k.length : Int), i, ())) (fun i _ => allTo (kTwo k) i.toNat = true) (b0 := ()) rfl (by omega) (by rfl) ?_ ?_
  · intro i _ h2 h3 hp
    obtain ⟨a, rfl⟩ : ∃ a : Nat, i = a := ⟨i.toNat, by omega⟩
    rw [Int.toNat_natCast] at hp
    have hai := g_idx (l := k) (i := (a : Int)) (by omega) (by omega)
    have haj := g_idx (l := k) (i := (k.length : Int) - 1 - a) (by omega) (by omega)
    rw [Int.toNat_natCast] at hai
    rw [show ((k.length : Int) - 1 - a).toNat = k.length - 1 - a by omega] at haj
    have bad : kTwo k a = false → allTo (kTwo k) k.length = false := allTo_false (by omega)
    simp only [hd, wrap_id (x := ((k.length / 2 : Nat) : Int)) (by omega) (by omega), wrap_id (x := (a : Int) + 1) (by omega) (by omega), wrap_id (x := (a : Int) - 1) (by omega) (by omega), wrap_id (x := (k.length : Int) - 1) (by omega) (by omega), wrap_id (x := (k.length : Int) - 1 - (a : Int)) (by omega) (by omega)]
    refine Round.yes (decide_eq_true h3) (Round.at hai.idx (Round.bind (e54 _) (Round.ite (fun c1 => ?_) (fun c1 => ?_))))
    · have c1 : inR (wr .i64 (g k a)) 0 10000 = false := by simpa using c1
      rw [bad (by simp [kTwo, c1])]
      exact Round.done (Evt.some _)
    have c1 : inR (wr .i64 (g k a)) 0 10000 = true := by simpa using c1
    refine Round.at haj.idx (Round.ite (fun c2 => ?_) (fun c2 => ?_))
    · have c2 : (g k a == g k (k.length - 1 - a)) = false := by simpa using c2
      rw [bad (by simp [kTwo, c2])]
      exact Round.done (Evt.some _)
    have c2 : (g k a == g k (k.length - 1 - a)) = true := by simpa using c2
    have again : kTwo k a = true → ∃ b' : Unit, ((k, (k.length : Int), k, (k.length : Int), (a : Int) + 1, ()) : List Int × Int × List Int × Int × Int × Unit) = (k, (k.length : Int), k, (k.length : Int), (a : Int) + 1, ()) ∧ allTo (kTwo k) ((a : Int) + 1).toNat = true := fun h => ⟨(), rfl, by rw [show ((a : Int) + 1).toNat = a + 1 by omega, allTo_succ, hp, h]; rfl⟩
    refine Round.chk rfl (Round.ite (fun c3 => ?_) (fun c3 => ?_))
    · have c3 : (a : Int) > ((k.length / 2 : Nat) : Int) := of_decide_eq_true c3
      have hab := g_idx (l := k) (i := (a : Int) - 1) (by omega) (by omega)
      rw [show ((a : Int) - 1).toNat = a - 1 by omega] at hab
      refine Round.at hab.idx (Round.ite (fun c4 => ?_) (fun c4 => ?_))
      · have c4 : g k a < g k (a - 1) := by simpa using c4
        rw [bad (by
          have c5 : a > k.length / 2 := by omega
          simp [kTwo, c4, c5])]
        exact Round.done (Evt.some _)
      · have c4 : ¬ g k a < g k (a - 1) := by simpa using c4
        exact Round.again _ (again (by simp only [kTwo, c1, c2, decide_eq_false c4]; simp))
    · have c3 : ¬ (a : Int) > ((k.length / 2 : Nat) : Int) := by simpa using c3
      exact Round.no (by simp) (Round.again _ (again (by simp only [kTwo, c1, c2, decide_eq_false (show ¬ a > k.length / 2 by omega)]; simp)))
  · intro _ hp
    have hp : allTo (kTwo k) k.length = true := by simpa using hp
    rw [hp]
    exact Round.no (by simp) (Round.done (Evt.some _))
/- impl.areCutters$1 -/
theorem e56 (k : List Int) (hr : Rng k) : Evt (fun n => call T C n 56 (k, ())) ((!okK k, ()), ()) := Evt.next (Evt.bind (e57 k hr) (Evt.some _)) (fun n => r56 n k)
/- slices.IndexFunc[[]impl.Cutter,impl.Cutter]{impl.areCutters$1} -/
theorem e67 (K : List (List Int)) (hr : RngS K) : Evt (fun n => call T C n 67 (K, ((), ()), ())) ((fi (fun v => !okK v) K 0, ()), ()) := by
  have hl := hr.len'
  refine Evt.next ?_ (fun n => r67 n K ((), ()))
  refine for_evt' 0 (K.length : Int) (fun i (_ : Unit) => (K, ((), ()), (K.length : Int), i, ())) (fun i _ => fi (fun v => !okK v) K 0 = fi (fun v => !okK v) (K.drop i.toNat) i) (b0 := ()) rfl (by omega) (by simp) ?_ ?_
  · intro i _ h2 h3 hp
    obtain ⟨v, hv⟩ := at_of h2 h3
    rw [hv.drop] at hp
    simp only [fi] at hp
    refine Round.yes (decide_eq_true h3) (Round.at hv.idx (Round.bind (e56 v (hr.el v hv.mem)) ?_))
    cases hb : okK v with
    | false =>
      simp only [hb, Bool.not_false, if_true] at hp
      rw [hp]
      exact Round.yes rfl (Round.done (Evt.some _))
    | true =>
      simp only [hb, Bool.not_true, Bool.false_eq_true, if_false] at hp
      exact Round.no (by simp) (Round.again _ ⟨(), by rw [wr_succ h2 h3 (by omega)], hp⟩)
  · intro _ hp
    rw [drop_all] at hp
    rw [hp]
    exact Round.no (by simp) (Round.done (Evt.some _))
/- slices.ContainsFunc[[]impl.Cutter,impl.Cutter]{impl.areCutters$1} -/
theorem e55 (K : List (List Int)) (hr : RngS K) : Evt (fun n => call T C n 55 (K, ((), ()), ())) ((K.any (fun v => !okK v), ()), ()) := by
  refine Evt.next (Evt.bind (e67 K hr) ((Evt.some _).of_eq fun n => ?_)) (fun n => r55 n K ((), ()))
  simp only [fi_any _ K 0 (Int.le_refl _)]
  rfl
/- impl.areCutters -/
theorem e30 (K : List (List Int)) (hr : RngS K) : Evt (fun n => call T C n 30 (K, ())) ((okKs K, ()), ()) := by
  refine Evt.next (Evt.bind (e55 K hr) ((Evt.some _).of_eq fun n => ?_)) (fun n => r30 n K)
  have : okKs K = !K.any (fun v => !okK v) := by simp [okKs, List.any_eq_not_all_not]
  rw [this]
  rfl
/- impl.codeIf -/
theorem e28 (c : Bool) (v : Int) : Evt (fun n => call T C n 28 (c, v, ())) (((if c = true then v else 0), ()), ()) := by
  refine Evt.next ?_ (fun n => r28 n c v)
  cases c with
  | true => exact Evt.yes rfl (Evt.some _)
  | false => exact Evt.no (by simp) (Evt.some _)
/- impl.isCount -/
theorem e31 (K : List (List Int)) : Evt (fun n => call T C n 31 (K, ())) ((inR (K.length : Int) 1 8, ()), ()) := Evt.next (Evt.bind (e58 _ _ _) (Evt.some _)) (fun n => r31 n K)
/- impl.firstCode -/
theorem e27 (l : List Int) (hl : (l.length : Int) ≤ 140737488351232) : Evt (fun n => call T C n 27 (l, ())) ((fst0 l, ()), ()) := by
  refine Evt.next ?_ (fun n => r27 n l)
  refine loop_evt (fun (x : List Int × Int × Int × Unit) => x.1 = l ∧ x.2.1 = (l.length : Int) ∧ 0 ≤ x.2.2.1 ∧ x.2.2.1 ≤ (l.length : Int) ∧ fst0 l = fst0 (l.drop x.2.2.1.toNat)) (fun (x : List Int × Int × Int × Unit) => ((l.length : Int) - x.2.2.1).toNat) (x := (l, (l.length : Int), 0, ())) ⟨rfl, rfl, Int.le_refl _, by simp, by simp⟩ ?_
  rintro ⟨x1, m, i, _⟩ ⟨h', hm, h0, h1, h2⟩
  simp only at h' hm h0 h1 h2
  subst h'; subst hm
  refine Round.ite (fun hlt => ?_) (fun hge => ?_)
  · have hlt : i < (x1.length : Int) := of_decide_eq_true hlt
    obtain ⟨v, hv, hv'⟩ := idx_at h0 hlt
    have hd := drop_cons hv'
    refine Round.at hv (Round.ite (fun hb => ?_) (fun hb => ?_))
    · have hb : v ≠ 0 := by simpa using hb
      have h3 : fst0 x1 = v := by rw [h2, hd]; simp [fst0, hb]
      rw [h3]
      exact Round.done (Evt.some _)
    · have hb : v = 0 := by simpa using hb
      have hw : wr .i64 (i + 1) = i + 1 := wrap_id (by omega) (by omega)
      refine Round.again _ ⟨⟨rfl, rfl, ?_, ?_, ?_⟩, ?_⟩ <;> simp only [hw]
      · omega
      · omega
      · rw [h2, hd, show (i + 1).toNat = i.toNat + 1 by omega]
        simp [fst0, hb]
      · omega
  · have hge : ¬ i < (x1.length : Int) := by simpa using hge
    have : x1.drop i.toNat = [] := List.drop_of_length_le (by omega)
    rw [h2, this]
    exact Round.done (Evt.some _)
/- impl.floorDiv -/
theorem e85 {a b : Int} (hb : 0 < b) (h1 : -1000000000000 ≤ a) (h2 : a ≤ 1000000000000) : Evt (fun n => call T C n 85 (a, b, ())) ((a / b, ()), ()) := by
  have hbd := ediv_bd hb h1 h2 (by omega)
  have he := floorDiv_eq (a := a) hb
  refine Evt.next (Evt.chk (bne_pos hb) (Evt.chk (bne_pos hb) (Evt.ite (fun h => ?_) (fun h => ?_)))) (fun n => r85 n a b)
  · have h : Int.tmod a b < 0 := of_decide_eq_true h
    rw [if_pos h] at he
    refine (Evt.some _).of_eq fun n => ?_
    rw [wrap_id (x := Int.tdiv a b) (by omega) (by omega), wrap_id (by omega) (by omega), he]
    rfl
  · have h : ¬ Int.tmod a b < 0 := by simpa using h
    rw [if_neg h] at he
    refine (Evt.some _).of_eq fun n => ?_
    rw [wrap_id (x := Int.tdiv a b) (by omega) (by omega), he]
    rfl
/- impl.mod -/
theorem e78 {a b : Int} (hb : 0 < b) (hb' : b ≤ 1000000000000) (h1 : -1000000000000 ≤ a) (h2 : a ≤ 1000000000000) : Evt (fun n => call T C n 78 (a, b, ())) ((a % b, ()), ()) := by
  have hd := Int.emod_def a b
  have h3 := Int.emod_nonneg a (show b ≠ 0 by omega)
  have h4 := Int.emod_lt_of_pos a hb
  refine Evt.next (Evt.bind (e85 hb h1 h2) ((Evt.some _).of_eq fun n => ?_)) (fun n => r78 n a b)
  simp only
  rw [wrap_id (x := b * (a / b)) (by omega) (by omega), ← hd, wrap_id (by omega) (by omega)]
  rfl
/- (impl.Cam).at -/
theorem e70 {l : List Int} (hr : Rng l) (h0 : 0 < (l.length : Int)) (h1 : (l.length : Int) ≤ 1000000) {x : Int} (hx : -4000000 ≤ x) (hx' : x ≤ 4000000) : Evt (fun n => call T C n 70 (l, x, ())) ((cAt l x, ()), ()) := by
  have hp := Int.emod_nonneg x (show (l.length : Int) ≠ 0 by omega)
  have hq := Int.emod_lt_of_pos x h0
  have hv := g_idx (l := l) hp hq
  refine Evt.next (Evt.bind (e51 l) (Evt.bind (e78 (a := x) h0 (by omega) (by omega) (by omega)) (Evt.at hv.idx ((Evt.some _).of_eq fun n => ?_)))) (fun n => r70 n l x)
  rw [hr.id hv.mem]
  rfl
/- (impl.Cam).tips$1$1 -/
theorem e84 {c : List Int} (hr : Rng c) (h0 : 0 < (c.length : Int)) (h1 : (c.length : Int) ≤ 1000000) (hC : ∀ v ∈ c, 0 ≤ v ∧ v ≤ 10000) {x y z : Int} (hx : -4000000 ≤ x) (hx' : x ≤ 4000000) (hy : 0 ≤ y) (hy' : y ≤ 10000) : Evt (fun n => call T C n 84 (x, y, z, c, ())) ((), (max z (cAt c x - y), c, ())) := by
  have hv := hC _ (cAt_mem (by omega) x)
  refine Evt.next (Evt.bind (e70 hr h0 h1 hx hx') ((Evt.some _).of_eq fun n => ?_)) (fun n => r84 n x y z c)
  simp only [wrap_id (x := cAt c x - y) (by omega) (by omega)]
  have : (if cAt c x - y > z then cAt c x - y else z) = max z (cAt c x - y) := by split <;> omega
  rw [this]
  rfl
/- (impl.Cutter).each{(impl.Cam).tips$1$1} -/
theorem e76 {c k : List Int} (hc : Rng c) (hk : Rng k) (hl0 : 0 < c.length) (hl1 : c.length ≤ 1000) (hC : ∀ v ∈ c, 0 ≤ v ∧ v ≤ 10000) (G : GoodK k) {s : Int} (h0 : 0 ≤ s) (h1 : s ≤ 1000000) : Evt (fun n => call T C n 76 (k, s, ((), 0, c, ()), ())) ((), (((), tip c k s, c, ()), ())) := by
  have hd : Int.tdiv (k.length : Int) 2 = ((k.length / 2 : Nat) : Int) := by rw [show (2 : Int) = ((2 : Nat) : Int) from rfl, ← Int.ofNat_tdiv]
  have hhi := G.hi
  refine Evt.next (Evt.chk rfl ?_) (fun n => r76 n k s ((), 0, c, ()))
  rw [hd, wrap_id (x := ((k.length / 2 : Nat) : Int)) (by omega) (by omega)]
  refine for_evt' 0 (k.length : Int) (fun i (_ : Unit) => (s, ((), (tipTo c k s i.toNat, (c, ()))), ((k.length / 2 : Nat) : Int), k, (k.length : Int), i, ())) (fun _ _ => True) (b0 := ()) rfl (by omega) trivial ?_ ?_
  · intro i _ h2 h3 _
    obtain ⟨a, rfl⟩ : ∃ a : Nat, i = a := ⟨i.toNat, by omega⟩
    have hai := g_idx (l := k) (i := (a : Int)) (by omega) (by omega)
    rw [Int.toNat_natCast] at hai
    have hka := G.el a (by omega)
    simp only [Int.toNat_natCast, wr_succ h2 h3 (by omega), wrap_id (x := s + (a : Int)) (by omega) (by omega), wrap_id (x := s + (a : Int) - ((k.length / 2 : Nat) : Int)) (by omega) (by omega)]
    refine Round.yes (decide_eq_true h3) (Round.at hai.idx ?_)
    simp only [hk.id hai.mem]
    refine Round.bind (e84 hc (by omega) (by omega) hC (by omega) (by omega) hka.1 hka.2) (Round.again _ ⟨(), ?_, trivial⟩)
    rw [show ((a : Int) + 1).toNat = a + 1 by omega, tipTo_succ]
    rfl
  · intro _ _
    simp only [Int.toNat_natCast]
    exact Round.no (by simp) (Round.done (Evt.some _))
/- (impl.Cam).tips$1 -/
theorem e83 {c k : List Int} (hc : Rng c) (hk : Rng k) (hl0 : 0 < c.length) (hl1 : c.length ≤ 1000) (hC : ∀ v ∈ c, 0 ≤ v ∧ v ≤ 10000) (G : GoodK k) {s : Int} (h0 : 0 ≤ s) (h1 : s ≤ 1000000) : Evt (fun n => call T C n 83 (s, k, c, ())) ((tip c k s, ()), (k, c, ())) := Evt.next (Evt.bind (e76 hc hk hl0 hl1 hC G h0 h1) (Evt.some _)) (fun n => r83 n s k c)
/- (impl.Cam).numbers{(impl.Cam).tips$1} -/
theorem e82 {c k : List Int} (hc : Rng c) (hk : Rng k) (hl0 : 0 < c.length) (hl1 : c.length ≤ 1000) (hC : ∀ v ∈ c, 0 ≤ v ∧ v ≤ 10000) (G : GoodK k) : Evt (fun n => call T C n 82 (c, ((), k, c, ()), ())) ((tipsL c k c.length, ()), (((), k, c, ()), ())) := by
  refine Evt.next (Evt.bind (e51 c) ?_) (fun n => r82 n c ((), k, c, ()))
  refine for_evt' 0 (c.length : Int) (fun i (_ : Unit) => (((), (k, (c, ()))), tipsL c k i.toNat, (c.length : Int), i, ())) (fun _ _ => True) (b0 := ()) rfl (by omega) trivial ?_ ?_
  · intro i _ h2 h3 _
    refine Round.yes (decide_eq_true h3) (Round.bind (e83 hc hk hl0 hl1 hC G h2 (show i ≤ 1000000 by omega)) (Round.chk (by simp [tipsL_len]; omega) (Round.again _ ⟨(), ?_, trivial⟩)))
    rw [tipsL_succ c k h2, wr_succ h2 h3 (by omega)]
  · intro _ _
    simp only [Int.toNat_natCast]
    exact Round.no (by simp) (Round.done (Evt.some _))
/- (impl.Cam).tips -/
theorem e73 {c k : List Int} (hc : Rng c) (hk : Rng k) (hl0 : 0 < c.length) (hl1 : c.length ≤ 1000) (hC : ∀ v ∈ c, 0 ≤ v ∧ v ≤ 10000) (G : GoodK k) : Evt (fun n => call T C n 73 (c, k, ())) ((tipsL c k c.length, ()), ()) := Evt.next (Evt.bind (e82 hc hk hl0 hl1 hC G) (Evt.some _)) (fun n => r73 n c k)
/- (impl.Cam).left$1$1 -/
theorem e77 {c k : List Int} (h0 : 0 < c.length) (h1 : c.length ≤ 1000) (hC : ∀ v ∈ c, 0 ≤ v ∧ v ≤ 10000) (G : GoodK k) {x y z : Int} (hx : -4000000 ≤ x) (hx' : x ≤ 4000000) (hy : 0 ≤ y) (hy' : y ≤ 10000) : Evt (fun n => call T C n 77 (x, y, z, tipsL c k c.length, c, ())) ((), (min z (tip c k (x % c.length) + y), tipsL c k c.length, c, ())) := by
  have hp := Int.emod_nonneg x (show (c.length : Int) ≠ 0 by omega)
  have hq := Int.emod_lt_of_pos x (show 0 < (c.length : Int) by omega)
  have hv := g_idx (l := tipsL c k c.length) (i := x % c.length) hp (by rw [tipsL_len]; exact hq)
  rw [g_tips c k (by omega), show (((x % (c.length : Int)).toNat : Nat) : Int) = x % (c.length : Int) by omega] at hv
  have hb := tipTo_bd h0 hC G.el (x % c.length) k.length (Nat.le_refl _)
  have hb1 : 0 ≤ tip c k (x % c.length) := hb.1
  have hb2 : tip c k (x % c.length) ≤ 10000 := hb.2
  refine Evt.next (Evt.bind (e51 c) (Evt.bind (e78 (a := x) (show 0 < (c.length : Int) by omega) (by omega) (by omega) (by omega)) (Evt.at hv.idx ((Evt.some _).of_eq fun n => ?_)))) (fun n => r77 n x y z (tipsL c k c.length) c)
  simp only [wrap_id (x := tip c k (x % c.length) + y) (by omega) (by omega)]
  have : (if tip c k (x % c.length) + y < z then tip c k (x % c.length) + y else z) = min z (tip c k (x % c.length) + y) := by split <;> omega
  rw [this]
  rfl
/- (impl.Cutter).each{(impl.Cam).left$1$1} -/
theorem e1076 {c k : List Int} (hk : Rng k) (hl0 : 0 < c.length) (hl1 : c.length ≤ 1000) (hC : ∀ v ∈ c, 0 ≤ v ∧ v ≤ 10000) (G : GoodK k) {s : Int} (h0 : 0 ≤ s) (h1 : s ≤ 1000000) : Evt (fun n => call T C n 1076 (k, s, ((), tip c k s, tipsL c k c.length, c, ()), ())) ((), (((), lf c k s, tipsL c k c.length, c, ()), ())) := by
  have hd : Int.tdiv (k.length : Int) 2 = ((k.length / 2 : Nat) : Int) := by rw [show (2 : Int) = ((2 : Nat) : Int) from rfl, ← Int.ofNat_tdiv]
  have hhi := G.hi
  refine Evt.next (Evt.chk rfl ?_) (fun n => r1076 n k s ((), tip c k s, tipsL c k c.length, c, ()))
  rw [hd, wrap_id (x := ((k.length / 2 : Nat) : Int)) (by omega) (by omega)]
  refine for_evt' 0 (k.length : Int) (fun i (_ : Unit) => (s, ((), (lfTo c k s i.toNat, (tipsL c k c.length, (c, ())))), ((k.length / 2 : Nat) : Int), k, (k.length : Int), i, ())) (fun _ _ => True) (b0 := ()) rfl (by omega) trivial ?_ ?_
  · intro i _ h2 h3 _
    obtain ⟨a, rfl⟩ : ∃ a : Nat, i = a := ⟨i.toNat, by omega⟩
    have hai := g_idx (l := k) (i := (a : Int)) (by omega) (by omega)
    rw [Int.toNat_natCast] at hai
    have hka := G.el a (by omega)
    simp only [Int.toNat_natCast, wr_succ h2 h3 (by omega), wrap_id (x := s + (a : Int)) (by omega) (by omega), wrap_id (x := s + (a : Int) - ((k.length / 2 : Nat) : Int)) (by omega) (by omega)]
    refine Round.yes (decide_eq_true h3) (Round.at hai.idx ?_)
    simp only [hk.id hai.mem]
    refine Round.bind (e77 hl0 hl1 hC G (by omega) (by omega) hka.1 hka.2) (Round.again _ ⟨(), ?_, trivial⟩)
    rw [show ((a : Int) + 1).toNat = a + 1 by omega, lfTo_succ]
    rfl
  · intro _ _
    simp only [Int.toNat_natCast]
    exact Round.no (by simp) (Round.done (Evt.some _))
/- (impl.Cam).left$1 -/
theorem e75 {c k : List Int} (hk : Rng k) (hl0 : 0 < c.length) (hl1 : c.length ≤ 1000) (hC : ∀ v ∈ c, 0 ≤ v ∧ v ≤ 10000) (G : GoodK k) {s : Nat} (h : s < c.length) : Evt (fun n => call T C n 75 ((s : Int), tipsL c k c.length, k, c, ())) ((lf c k s, ()), (tipsL c k c.length, k, c, ())) := by
  have hv := g_idx (l := tipsL c k c.length) (i := (s : Int)) (by omega) (by rw [tipsL_len]; omega)
  rw [Int.toNat_natCast, g_tips c k h] at hv
  exact Evt.next (Evt.at hv.idx (Evt.bind (e1076 hk hl0 hl1 hC G (s := (s : Int)) (by omega) (by omega)) (Evt.some ((lf c k s, ()), (tipsL c k c.length, k, c, ()))))) (fun n => r75 n s (tipsL c k c.length) k c)
/- impl.camOf{(impl.Cam).left$1} -/
theorem e74 {c k : List Int} (hk : Rng k) (hl0 : 0 < c.length) (hl1 : c.length ≤ 1000) (hC : ∀ v ∈ c, 0 ≤ v ∧ v ≤ 10000) (G : GoodK k) : Evt (fun n => call T C n 74 ((c.length : Int), ((), tipsL c k c.length, k, c, ()), ())) ((leftL c k, 0, ()), (((), tipsL c k c.length, k, c, ()), ())) := by
  have hll := leftL_len c k
  refine Evt.next ?_ (fun n => r74 n (c.length : Int) ((), tipsL c k c.length, k, c, ()))
  refine for_evt' 0 (c.length : Int) (fun i (_ : Unit) => (((), (tipsL c k c.length, (k, (c, ())))), (leftL c k).take i.toNat, (c.length : Int), i, ())) (fun _ _ => True) (b0 := ()) rfl (by omega) trivial ?_ ?_
  · intro i _ h2 h3 _
    obtain ⟨a, rfl⟩ : ∃ a : Nat, i = a := ⟨i.toNat, by omega⟩
    have hb := lf_bd hl0 hC G (show a < c.length by omega)
    have hin : inR (lf c k a) 0 10000 = true := inR_iff.2 hb
    have hlen : ((leftL c k).take a).length = a := by rw [List.length_take]; omega
    simp only [Int.toNat_natCast, wr_succ h2 h3 (by omega)]
    refine Round.yes (decide_eq_true h3) (Round.bind (e75 hk hl0 hl1 hC G (show a < c.length by omega)) (Round.bind (e54 _) (Round.no (by simp [hin]) (Round.chk (by simp [hlen]; omega) (Round.again _ ⟨(), ?_, trivial⟩)))))
    rw [show ((a : Int) + 1).toNat = a + 1 by omega, leftL_take hl0 hC G (by omega), wrap16 (x := lf c k a) (by omega) (by omega)]
  · intro _ _
    have e : (leftL c k).take (c.length : Int).toNat = leftL c k := List.take_of_length_le (by omega)
    simp only [e]
    exact Round.no (by simp) (Round.done (Evt.some _))
/- (impl.Cam).left -/
theorem e68 {c k : List Int} (hc : Rng c) (hk : Rng k) (hl0 : 0 < c.length) (hl1 : c.length ≤ 1000) (hC : ∀ v ∈ c, 0 ≤ v ∧ v ≤ 10000) (G : GoodK k) : Evt (fun n => call T C n 68 (c, k, ())) ((leftL c k, ()), ()) := Evt.next (Evt.bind (e73 hc hk hl0 hl1 hC G) (Evt.bind (e51 c) (Evt.bind (e74 hk hl0 hl1 hC G) (Evt.some ((leftL c k, ()), ()))))) (fun n => r68 n c k)
/- (impl.Cam).waste -/
theorem e59 {c k : List Int} (hc : Rng c) (hk : Rng k) (hl0 : 0 < c.length) (hl1 : c.length ≤ 1000) (hC : ∀ v ∈ c, 0 ≤ v ∧ v ≤ 10000) (G : GoodK k) : Evt (fun n => call T C n 59 (c, k, ())) ((waste c k, ()), ()) := by
  have hll := leftL_len c k
  refine Evt.next (Evt.bind (e68 hc hk hl0 hl1 hC G) ?_) (fun n => r59 n c k)
  refine for_evt' 0 (c.length : Int) (fun i (_ : Unit) => (c, wsTo c (leftL c k) i.toNat, leftL c k, ((leftL c k).length : Int), i, ())) (fun _ _ => True) (b0 := ()) rfl (by omega) trivial ?_ ?_
  · intro i _ h2 h3 _
    obtain ⟨a, rfl⟩ : ∃ a : Nat, i = a := ⟨i.toNat, by omega⟩
    have ha := g_idx (l := leftL c k) (i := (a : Int)) (by omega) (by omega)
    have hb := g_idx (l := c) (i := (a : Int)) (by omega) (by omega)
    rw [Int.toNat_natCast] at ha hb
    have h4 := wsTo_bd hl0 hC G a (by omega)
    have h5 := leftTo_bd hl0 hC G c.length _ (g_mem (l := leftL c k) (i := a) (by omega))
    have h6 := hC _ (g_mem (l := c) (i := a) (by omega))
    have e16 : wr .i16 (g (leftL c k) a - g c a) = g (leftL c k) a - g c a := wrap16 (by omega) (by omega)
    simp only [Int.toNat_natCast, wr_succ h2 h3 (by omega)]
    refine Round.yes (decide_eq_true (by omega)) (Round.at ha.idx (Round.at hb.idx (Round.again _ ⟨(), ?_, trivial⟩)))
    rw [show ((a : Int) + 1).toNat = a + 1 by omega, wsTo_succ, e16, wrap_id (x := g (leftL c k) a - g c a) (by omega) (by omega), wrap_id (x := wsTo c (leftL c k) a + (g (leftL c k) a - g c a)) (by omega) (by omega)]
  · intro _ _
    simp only [Int.toNat_natCast]
    exact Round.no (by simp [hll]) (Round.done (Evt.some _))
/- (impl.Cam).best -/
theorem e32 {c : List Int} {K : List (List Int)} (hc : Rng c) (hr : RngS K) (hl0 : 0 < c.length) (hl1 : c.length ≤ 1000) (hC : ∀ v ∈ c, 0 ≤ v ∧ v ≤ 10000) (G : GoodKs K) (hk1 : K.length ≤ 1000) : Evt (fun n => call T C n 32 (c, K, ())) (((bkTo c K K.length).1, (bkTo c K K.length).2, ()), ()) := by
  refine Evt.next ?_ (fun n => r32 n c K)
  refine for_evt' 0 (K.length : Int) (fun i (_ : Unit) => (c, (bkTo c K i.toNat).1, (bkTo c K i.toNat).2, K, (K.length : Int), i, ())) (fun _ _ => True) (b0 := ()) rfl (by omega) trivial ?_ ?_
  · intro i _ h2 h3 _
    obtain ⟨a, rfl⟩ : ∃ a : Nat, i = a := ⟨i.toNat, by omega⟩
    obtain ⟨v, hv⟩ := at_of (l := K) (i := (a : Int)) (by omega) h3
    have e : K.getD a [] = v := by have := getD_at (d := []) hv; rwa [Int.toNat_natCast] at this
    simp only [Int.toNat_natCast, wrap_id (x := (a : Int) + 1) (by omega) (by omega)]
    refine Round.yes (decide_eq_true h3) (Round.at hv.idx (Round.bind (e59 hc (hr.el _ hv.mem) hl0 hl1 hC (G.el _ hv.mem)) (Round.ite (fun hb => ?_) (fun hb => ?_))))
    · have hb : (bkTo c K a).2 < 0 := of_decide_eq_true hb
      refine Round.again _ ⟨(), ?_, trivial⟩
      rw [show ((a : Int) + 1).toNat = a + 1 by omega, bkTo_succ, e, if_pos (.inl hb)]
    · have hb : ¬ (bkTo c K a).2 < 0 := by simpa using hb
      refine Round.ite (fun hx => ?_) (fun hx => ?_)
      · have hx : waste c v < (bkTo c K a).2 := by simpa using hx
        refine Round.again _ ⟨(), ?_, trivial⟩
        rw [show ((a : Int) + 1).toNat = a + 1 by omega, bkTo_succ, e, if_pos (.inr hx)]
      · have hx : ¬ waste c v < (bkTo c K a).2 := by simpa using hx
        refine Round.again _ ⟨(), ?_, trivial⟩
        rw [show ((a : Int) + 1).toNat = a + 1 by omega, bkTo_succ, e, if_neg (by omega)]
  · intro _ _
    simp only [Int.toNat_natCast]
    exact Round.no (by simp) (Round.done (Evt.some _))
/- impl.BestCutter -/
theorem e9 (c : List Int) (K : List (List Int)) (hc : Rng c) (hr : RngS K) : Evt (fun n => call T C n 9 (c, K, ())) (bcR c K, ()) := by
  have hcl := hc.len'
  refine Evt.next (Evt.bind (e29 c (by omega)) ?_) (fun n => r9 n c K)
  unfold bcR
  cases h1 : okC c with
  | false =>
    refine Evt.yes rfl (Evt.bind (e28 _ _) (Evt.bind (e31 K) (Evt.bind (e28 _ _) (Evt.bind (e27 _ (by simp)) (Evt.yes (by simp [fst0]) ((Evt.some _).of_eq fun n => ?_))))))
    simp [fst0]
    rfl
  | true =>
    refine Evt.no (by simp) (Evt.bind (e30 K hr) (Evt.bind (e28 _ _) (Evt.bind (e31 K) (Evt.bind (e28 _ _) (Evt.bind (e27 _ (by simp)) ?_)))))
    cases h2 : okKs K with
    | false =>
      refine Evt.yes (by simp [fst0]) ((Evt.some _).of_eq fun n => ?_)
      simp [fst0]
      rfl
    | true =>
      cases h3 : inR (K.length : Int) 1 8 with
      | false =>
        refine Evt.yes (by simp [fst0]) ((Evt.some _).of_eq fun n => ?_)
        simp [fst0]
        rfl
      | true =>
        have hl := okC_len h1
        have hb := inR_iff.1 h3
        exact Evt.no (by simp [fst0]) (Evt.bind (e32 hc hr (by omega) (by omega) (okC_el h1 hc) (goodKs hr h2) (by omega)) (Evt.some _))
/- laws.eqCam -/
theorem e10 (l : List Int) (hl : (l.length : Int) ≤ 140737488351232) : Evt (fun n => call T C n 10 (l, l, ())) ((true, ()), ()) := by
  refine Evt.next (Evt.no (by simp) ?_) (fun n => r10 n l l)
  refine for_evt 0 (l.length : Int) (fun i (_ : Unit) => (l, l, i, ())) (fun _ _ => True) (b0 := ()) (by omega) trivial ?_ ?_
  · intro i _ h2 h3 _
    obtain ⟨v, hv⟩ := at_of h2 h3
    refine Round.yes (decide_eq_true h3) (Round.at hv.idx (Round.at hv.idx (Round.no (by simp) (Round.again _ ⟨(), ?_, trivial⟩))))
    rw [wr_succ h2 h3 (by omega)]
  · intro _ _
    exact Round.no (by simp) (Round.done (Evt.some _))
/- laws.eqCutter -/
theorem e33 (l : List Int) (hl : (l.length : Int) ≤ 140737488351232) : Evt (fun n => call T C n 33 (l, l, ())) ((true, ()), ()) := by
  refine Evt.next (Evt.no (by simp) ?_) (fun n => r33 n l l)
  refine for_evt 0 (l.length : Int) (fun i (_ : Unit) => (l, l, i, ())) (fun _ _ => True) (b0 := ()) (by omega) trivial ?_ ?_
  · intro i _ h2 h3 _
    obtain ⟨v, hv⟩ := at_of h2 h3
    refine Round.yes (decide_eq_true h3) (Round.at hv.idx (Round.at hv.idx (Round.no (by simp) (Round.again _ ⟨(), ?_, trivial⟩))))
    rw [wr_succ h2 h3 (by omega)]
  · intro _ _
    exact Round.no (by simp) (Round.done (Evt.some _))
/- laws.eqCutterS -/
theorem e11 (K : List (List Int)) (hr : RngS K) : Evt (fun n => call T C n 11 (K, K, ())) ((true, ()), ()) := by
  have hl := hr.len'
  refine Evt.next (Evt.no (by simp) ?_) (fun n => r11 n K K)
  refine for_evt' 0 (K.length : Int) (fun i (_ : Unit) => (K, K, i, ())) (fun _ _ => True) (b0 := ()) rfl (by omega) trivial ?_ ?_
  · intro i _ h2 h3 _
    obtain ⟨v, hv⟩ := at_of h2 h3
    have hvl := (hr.el v hv.mem).len'
    refine Round.yes (decide_eq_true h3) (Round.at hv.idx (Round.at hv.idx (Round.bind (e33 v (by omega)) (Round.no (by simp) (Round.again _ ⟨(), ?_, trivial⟩)))))
    rw [wr_succ h2 h3 (by omega)]
  · intro _ _
    exact Round.no (by simp) (Round.done (Evt.some _))
/- laws.FnExactBestCutter -/
theorem e3 (c : List Int) (K : List (List Int)) (hd : DomA (C 3).params (c, K, ())) : Evt (fun n => call T C n 3 (c, K, ())) ((true, ()), ()) := by
  have hc : Rng c := rng_of hd.1
  have hr : RngS K := rngS_of hd.2.1
  have hcl := hc.len'
  have hkl := hr.len'
  refine Evt.next (Evt.ite (fun _ => Evt.some _) (fun _ => ?_)) (fun n => r3 n c K)
  refine Evt.bind (e5 K (by omega) 1048576) (Evt.ite (fun _ => Evt.some _) (fun _ => ?_))
  have to1 := e7 c hc.len
  have to2 := e8 K hr
  refine Evt.bind to1 (Evt.bind to2 (Evt.bind (e6 c K hc hr) (Evt.bind to1 (Evt.bind to2 (Evt.bind (e9 c K hc hr) ?_)))))
  refine Evt.no (by simp) (Evt.no (by simp) (Evt.no (by simp) ?_))
  exact Evt.bind to1 (Evt.bind (e10 c (by omega)) (Evt.no (by simp) (Evt.bind to2 (Evt.bind (e11 K hr) (Evt.no (by simp) (Evt.some _))))))

end Go.Cams.YtkcapecjamijaabLBestCutter
