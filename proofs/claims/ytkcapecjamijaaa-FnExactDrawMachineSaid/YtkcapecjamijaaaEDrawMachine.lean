/- What the functions that the law reaches come to. -/
import Derived.Test.YtkcapecjamijaaaRDrawMachine
import Derived.Test.YtkcapecjamijaaaPu11
namespace Go.Cams.YtkcapecjamijaaaLDrawMachine
open Go Go.Fw Go.Proofs Go.Proofs.Ytkcapecjamijaaa.LDrawMachine
/- laws.szCam -/
theorem e36 (l : List Int) (a : Int) : Evt (fun n => call T C n 36 (l, a, ())) ((sz1 l a, ()), ()) := by
  refine Evt.next ?_ (fun n => r36 n l a)
  unfold sz1
  refine Evt.ite (fun h => ?_) (fun h => ?_)
  · rw [if_pos (of_decide_eq_true h)]; exact Evt.some _
  · rw [if_neg (by simpa using h)]; exact Evt.some _
/- laws.szMachine -/
theorem e7 (m : Mch) (a : Int) : Evt (fun n => call T C n 7 (m, a, ())) ((szM m a, ()), ()) := by
  refine Evt.next (Evt.bind (e36 m.1 a) ?_) (fun n => r7 n m a)
  unfold szM
  refine Evt.ite (fun h => ?_) (fun h => ?_)
  · rw [if_pos (of_decide_eq_true h)]; exact Evt.some _
  rw [if_neg (by simpa using h)]
  refine Evt.bind (e36 m.2.1 _) (Evt.ite (fun h => ?_) (fun h => ?_))
  · rw [if_pos (of_decide_eq_true h)]; exact Evt.some _
  rw [if_neg (by simpa using h)]
  refine Evt.bind (e36 m.2.2.1 _) (Evt.ite (fun h => ?_) (fun h => ?_))
  · rw [if_pos (of_decide_eq_true h)]; exact Evt.some _
  rw [if_neg (by simpa using h)]
  exact Evt.some _
/- laws.toCam -/
theorem e39 (l : List Int) (hl : (l.length : Int) * 2 ≤ 140737488351232) : Evt (fun n => call T C n 39 (l, ())) ((l, ()), ()) := by
  refine Evt.next (Evt.chk (by simp; omega) ?_) (fun n => r39 n l)
  refine for_evt 0 (l.length : Int) (fun i (b : List Int) => (l, b, i, ())) (fun i b => b.length = l.length ∧ b.take i.toNat = l.take i.toNat) (b0 := List.replicate (Int.toNat (l.length : Int)) 0) (by omega) ⟨by simp, by simp⟩ ?_ ?_
  · intro i b h2 h3 ⟨hb, ht⟩
    have hi : i < (b.length : Int) := by omega
    obtain ⟨v, hv⟩ := at_of h2 h3
    obtain ⟨u, hu⟩ := get_of_lt h2 hi
    refine Round.yes (decide_eq_true h3) (Round.at hv.idx (Round.chk (chk_at h2 hi) (Round.at hu (Round.again _ ⟨b.set i.toNat v, ?_, by simpa using hb, ?_⟩))))
    · rw [wr_succ h2 h3 (by omega)]
    · rw [take_set_succ h2 hi, ht, hv.take]
  · intro b ⟨hb, ht⟩
    have e : b = l := by rw [← take_all b, hb, ht]; simp
    rw [e]
    exact Round.no (by simp) (Round.done (Evt.some _))
/- laws.toMachine -/
theorem e9 (m : Mch) (h : RngM m) : Evt (fun n => call T C n 9 (m, ())) ((m, ()), ()) := by
  obtain ⟨a, b, c, u⟩ := m
  exact Evt.next (Evt.bind (e39 a h.x.len) (Evt.bind (e39 b h.y.len) (Evt.bind (e39 c h.p.len) (Evt.some (((a, b, c, ()), ()), ()))))) (fun n => r9 n _)
/- spec.l00In -/
theorem e61 (a b c : Int) : Evt (fun n => call T C n 61 (a, b, c, ())) ((inR a b c, ()), ()) := by
  refine Evt.next ?_ (fun n => r61 n a b c)
  refine Evt.ite (fun h => ?_) (fun h => ?_)
  · refine (Evt.some _).of_eq fun n => ?_
    have h : b ≤ a := of_decide_eq_true h
    simp [inR, h]
    rfl
  · refine (Evt.some _).of_eq fun n => ?_
    have h : ¬ b ≤ a := by simpa using h
    simp [inR, h]
    rfl
/- spec.l01Steps -/
theorem e74 (a : Int) : Evt (fun n => call T C n 74 (a, ())) ((inR a 8 360, ()), ()) := Evt.next (Evt.bind (e61 a 8 360) (Evt.some _)) (fun n => r74 n a)
/- spec.l01Lift -/
theorem e65 (a : Int) : Evt (fun n => call T C n 65 (a, ())) ((inR a 0 10000, ()), ()) := Evt.next (Evt.bind (e61 a 0 10000) (Evt.some _)) (fun n => r65 n a)
/- spec.l01Ok -/
theorem e82 (l : List Int) (hl : (l.length : Int) ≤ 140737488351232) : Evt (fun n => call T C n 82 (l, ())) ((okC l, ()), ()) := by
  refine Evt.next ?_ (fun n => r82 n l)
  refine Evt.bind (e74 _) ?_
  refine Evt.ite (fun h => ?_) (fun h => ?_)
  · refine (Evt.some _).of_eq fun n => ?_
    have h : inR (l.length : Int) 8 360 = false := by simpa using h
    simp [okC, h]
    rfl
  · have h : inR (l.length : Int) 8 360 = true := by simpa using h
    have he : okC l = l.all okV := by simp [okC, h]
    rw [he]
    refine loop_evt (fun (x : List Int × Int × Unit) => x.1 = l ∧ 0 ≤ x.2.1 ∧ x.2.1 ≤ (l.length : Int) ∧ l.all okV = (l.drop x.2.1.toNat).all okV) (fun (x : List Int × Int × Unit) => ((l.length : Int) - x.2.1).toNat) (x := (l, 0, ())) ⟨rfl, Int.le_refl _, by simp, by simp⟩ ?_
    rintro ⟨x1, i, _⟩ ⟨h', h0, h1, h2⟩
    simp only at h' h0 h1 h2
    subst h'
    refine Round.ite (fun hlt => ?_) (fun hge => ?_)
    · have hlt : i < (x1.length : Int) := of_decide_eq_true hlt
      obtain ⟨v, hv, hv'⟩ := idx_at h0 hlt
      have hd := drop_cons hv'
      refine Round.at hv (Round.bind (e65 _) (Round.ite (fun hb => ?_) (fun hb => ?_)))
      · have hb : okV v = false := by simpa [okV] using hb
        have h3 : x1.all okV = false := by rw [h2, hd]; simp [hb]
        rw [h3]
        exact Round.done (Evt.some _)
      · have hb : okV v = true := by simpa [okV] using hb
        have hw : wr .i64 (i + 1) = i + 1 := wrap_id (by omega) (by omega)
        refine Round.again _ ⟨⟨rfl, ?_, ?_, ?_⟩, ?_⟩ <;> simp only [hw]
        · omega
        · omega
        · rw [h2, hd, show (i + 1).toNat = i.toNat + 1 by omega]
          simp [hb]
        · omega
    · have hge : ¬ i < (x1.length : Int) := by simpa using hge
      have : x1.drop i.toNat = [] := List.drop_of_length_le (by omega)
      rw [h2, this]
      exact Round.done (Evt.some _)
/- spec.l00Min -/
theorem e125 (a b : Int) : Evt (fun n => call T C n 125 (a, b, ())) ((min a b, ()), ()) := by
  refine Evt.next (Evt.ite (fun h => ?_) (fun h => ?_)) (fun n => r125 n a b)
  · have h : a < b := of_decide_eq_true h
    rw [show min a b = a by omega]; exact Evt.some _
  · have h : ¬ a < b := by simpa using h
    rw [show min a b = b by omega]; exact Evt.some _
/- spec.l00Max -/
theorem e110 (a b : Int) : Evt (fun n => call T C n 110 (a, b, ())) ((max a b, ()), ()) := by
  refine Evt.next (Evt.ite (fun h => ?_) (fun h => ?_)) (fun n => r110 n a b)
  · have h : a > b := of_decide_eq_true h
    rw [show max a b = a by omega]; exact Evt.some _
  · have h : ¬ a > b := by simpa using h
    rw [show max a b = b by omega]; exact Evt.some _
/- spec.l01Range -/
theorem e111 (l : List Int) (hr : Rng l) (h0 : 0 < (l.length : Int)) : Evt (fun n => call T C n 111 (l, ())) ((mnL l, mxL l, ()), ()) := by
  have hlen := hr.len'
  obtain ⟨v0, hv0⟩ := at_of (l := l) (Int.le_refl 0) h0
  refine Evt.next (Evt.at hv0.idx ?_) (fun n => r111 n l)
  rw [hr.id hv0.mem]
  have hh := (head_at hv0).1
  refine for_evt' 1 (l.length : Int) (fun i (_ : Unit) => (l, mnF (l.take i.toNat) v0, mxF (l.take i.toNat) v0, i, ())) (fun _ _ => True) (b0 := ()) (by
    have := (head_at hv0).2
    show _ = (l, mnF (l.take 1) v0, mxF (l.take 1) v0, 1, ())
    rw [this]; simp [mnF, mxF]) (by omega) trivial ?_ ?_
  · intro i _ h2 h3 _
    obtain ⟨v, hv⟩ := at_of (l := l) (show 0 ≤ i by omega) h3
    simp only [wrap_id (x := i + 1) (by omega) (by omega)]
    refine Round.yes (decide_eq_true h3) (Round.at hv.idx (Round.bind (e125 _ _) (Round.at hv.idx (Round.bind (e110 _ _) (Round.again _ ⟨(), ?_, trivial⟩)))))
    rw [hv.take, mnF_snoc, mxF_snoc, hr.id hv.mem]
  · intro _ _
    have e1 : mnF (l.take (l.length : Int).toNat) v0 = mnL l := by rw [take_all, mnL, hh]
    have e2 : mxF (l.take (l.length : Int).toNat) v0 = mxL l := by rw [take_all, mxL, hh]
    simp only [e1, e2]
    exact Round.no (by simp) (Round.done (Evt.some _))
/- spec.l07Moves -/
theorem e81 (l : List Int) (hr : Rng l) : Evt (fun n => call T C n 81 (l, ())) ((mv l, ()), ()) := by
  have hlen := hr.len'
  refine Evt.next (Evt.bind (e82 l (by omega)) ?_) (fun n => r81 n l)
  unfold mv
  cases hok : okC l with
  | false => exact Evt.yes rfl (Evt.some _)
  | true =>
    have := okC_len hok
    exact Evt.no (by simp) (Evt.bind (e111 l hr (by omega)) (Evt.some _))
/- spec.l07Ok -/
theorem e37 (m : Mch) (h : RngM m) : Evt (fun n => call T C n 37 (m, ())) ((okM m, ()), ()) := by
  have hp := h.p.len'
  refine Evt.next (Evt.bind (e81 m.1 h.x) ?_) (fun n => r37 n m)
  unfold okM
  cases mv m.1 with
  | false => exact Evt.no (by simp) (Evt.some _)
  | true =>
    refine Evt.yes rfl (Evt.bind (e81 m.2.1 h.y) ?_)
    cases mv m.2.1 with
    | false => exact Evt.no (by simp) (Evt.some _)
    | true =>
      refine Evt.yes rfl (Evt.bind (e82 m.2.2.1 (by omega)) ?_)
      cases okC m.2.2.1 with
      | false => exact Evt.no (by simp) (Evt.some _)
      | true =>
        refine Evt.yes rfl ?_
        cases ((m.1.length : Int) == (m.2.1.length : Int)) with
        | false => exact Evt.no (by simp) (Evt.some _)
        | true => exact Evt.yes rfl (Evt.some _)
/- spec.l07Stops -/
theorem e83 (m : Mch) (G : GoodM m) : Evt (fun n => call T C n 83 (m, ())) ((stopsM m, ()), ()) := by
  have lx := okC_len G.x
  have e1 := G.xy
  have e2 := G.xp
  refine Evt.next ?_ (fun n => r83 n m)
  refine for_evt' 0 (m.1.length : Int) (fun i (_ : Unit) => (m, (List.range i.toNat).map (stopM m), i, ())) (fun _ _ => True) (b0 := ()) rfl (by omega) trivial ?_ ?_
  · intro i _ h2 h3 _
    have hx := g_idx (l := m.1) h2 h3
    have hy := g_idx (l := m.2.1) h2 (by omega)
    have hp := g_idx (l := m.2.2.1) h2 (by omega)
    refine Round.yes (decide_eq_true h3) (Round.at hx.idx (Round.at hy.idx (Round.at (v := (0 : Int)) rfl (Round.at (v := (0 : Int)) rfl (Round.at hp.idx (Round.chk (decide_eq_true (by simp; omega)) (Round.again _ ⟨(), ?_, trivial⟩)))))))
    rw [wr_succ h2 h3 (by omega), show (i + 1).toNat = i.toNat + 1 by omega, List.range_succ, List.map_append]
    rfl
  · intro _ _
    exact Round.no (by simp) (Round.done (Evt.some _))
/- spec.l01Size -/
theorem e63 {a : Int} (h1 : -1000000000000 ≤ a) (h2 : a ≤ 1000000000000) : Evt (fun n => call T C n 63 (a, ())) ((siz a, ()), ()) := by
  refine Evt.next ?_ (fun n => r63 n a)
  unfold siz
  rw [wrap_id (x := 0 - a) (by omega) (by omega)]
  refine Evt.ite (fun h => ?_) (fun h => ?_)
  · rw [if_pos (of_decide_eq_true h), Int.zero_sub]; exact Evt.some _
  · rw [if_neg (by simpa using h)]; exact Evt.some _
/- spec.l07Far -/
theorem e126 {a b : Mk} (ha : OnP a) (hb : OnP b) : Evt (fun n => call T C n 126 (a, b, ())) ((far a b, ()), ()) := by
  have hx := ha.x; have hy := ha.y; have kx := hb.x; have ky := hb.y
  refine Evt.next ?_ (fun n => r126 n a b)
  refine Evt.chk rfl (Evt.at ha.get0 (Evt.chk rfl (Evt.at hb.get0 ?_)))
  rw [wrap_id (x := g a 0) (by omega) (by omega), wrap_id (x := g b 0) (by omega) (by omega), wrap_id (by omega) (by omega)]
  refine Evt.bind (e63 (by omega) (by omega)) (Evt.chk rfl (Evt.at ha.get1 (Evt.chk rfl (Evt.at hb.get1 ?_))))
  rw [wrap_id (x := g a 1) (by omega) (by omega), wrap_id (x := g b 1) (by omega) (by omega), wrap_id (by omega) (by omega)]
  exact Evt.bind (e63 (by omega) (by omega)) (Evt.bind (e110 _ _) (Evt.some _))
/- spec.l01Near -/
theorem e106 {x n : Int} (hn : 0 < n) (hn' : n ≤ 100000000000) (h1 : -100000000000 ≤ x) (h2 : x ≤ 100000000000) : Evt (fun m => call T C m 106 (x, n, ())) ((nr x n, ()), ()) := by
  have hbd := ediv_bd (a := 2 * x + n) (b := 2 * n) (M := 1000000000000) (by omega) (by omega) (by omega) (by omega)
  have he := floorDiv_eq (a := 2 * x + n) (b := 2 * n) (by omega)
  refine Evt.next ?_ (fun m => r106 m x n)
  rw [wrap_id (x := 2 * n) (by omega) (by omega), wrap_id (x := 2 * x) (by omega) (by omega), wrap_id (x := 2 * x + n) (by omega) (by omega)]
  refine Evt.chk (bne_pos (by omega)) (Evt.chk (bne_pos (by omega)) (Evt.ite (fun h => ?_) (fun h => ?_)))
  · have h : Int.tmod (2 * x + n) (2 * n) < 0 := of_decide_eq_true h
    rw [if_pos h] at he
    refine (Evt.some _).of_eq fun m => ?_
    rw [wrap_id (x := Int.tdiv (2 * x + n) (2 * n)) (by omega) (by omega), wrap_id (by omega) (by omega), he]
    rfl
  · have h : ¬ Int.tmod (2 * x + n) (2 * n) < 0 := by simpa using h
    rw [if_neg h] at he
    refine (Evt.some _).of_eq fun m => ?_
    rw [wrap_id (x := Int.tdiv (2 * x + n) (2 * n)) (by omega) (by omega), he]
    rfl
/- spec.l07Line -/
theorem e112 {a b : Mk} (ha : OnP a) (hb : OnP b) : Evt (fun n => call T C n 112 (a, b, ())) ((lineM a b, ()), ()) := by
  obtain ⟨f0, f1, f2⟩ := far_bd ha hb
  refine Evt.next (Evt.bind (e126 ha hb) (Evt.ite (fun h => ?_) (fun h => ?_))) (fun n => r112 n a b)
  · have h : far a b = 0 := by simpa using h
    unfold lineM; rw [if_pos h]; exact Evt.some _
  have h : far a b ≠ 0 := by simpa using h
  have e : lineM a b = (List.range (far a b + 1).toNat).map fun k => ptM a b (k : Nat) := by unfold lineM; rw [if_neg h]
  rw [e]
  refine for_evt' 0 (far a b + 1) (fun i (_ : Unit) => (a, b, far a b, (List.range i.toNat).map (fun k => ptM a b (k : Nat)), i, ())) (fun _ _ => True) (b0 := ()) rfl (by omega) trivial ?_ ?_
  · intro i _ h2 h3 _
    refine Round.yes (decide_eq_true (show i ≤ far a b by omega)) ?_
    refine for_round' 0 2 (fun j (m : List Int) => (a, b, far a b, (List.range i.toNat).map (fun k => ptM a b (k : Nat)), i, m, j, ())) (fun j m => m = ((List.range j.toNat).map (fun u => pt a b i u)) ++ List.replicate (2 - j.toNat) 0) (b0 := List.replicate 2 0) rfl (by omega) (by simp) ?_ ?_
    · intro j m j0 j1 hm
      have hj : j = 0 ∨ j = 1 := by omega
      have hga := g_idx (l := a) j0 (by have := ha.len; omega)
      have hgb := g_idx (l := b) j0 (by have := hb.len; omega)
      have hu : j.toNat = 0 ∨ j.toNat = 1 := by omega
      have ba : 0 ≤ g a j.toNat ∧ g a j.toNat ≤ 63 := by rcases hu with e | e <;> rw [e]; exact ha.x; exact ha.y
      have bb : 0 ≤ g b j.toNat ∧ g b j.toNat ≤ 63 := by rcases hu with e | e <;> rw [e]; exact hb.x; exact hb.y
      have hk := kd_bd ha hb h2 (by omega) hu
      have hp := pt_bd ha hb h h2 (by omega) hu
      have hm2 : m.length = 2 := by rw [hm]; simp; omega
      have hgm := g_idx (l := m) j0 (by omega)
      show Round (fun n ag => if decide (j < 2) = true then _ else _) _ _
      simp only [wrap_id (x := g a j.toNat) (by omega) (by omega), wrap_id (x := g b j.toNat) (by omega) (by omega), wrap_id (x := j + 1) (by omega) (by omega)]
      refine Round.yes (decide_eq_true j1) (Round.chk (decide_eq_true (by omega)) (Round.at hga.get (Round.chk (decide_eq_true (by omega)) (Round.at hgb.get (Round.chk (decide_eq_true (by omega)) (Round.at hga.get ?_))))))
      simp only [wrap_id (x := g a j.toNat) (by omega) (by omega), wrap_id (x := g b j.toNat) (by omega) (by omega), wrap_id (x := g b j.toNat - g a j.toNat) (by omega) (by omega), wrap_id (x := i * (g b j.toNat - g a j.toNat)) (by omega) (by omega)]
      refine Round.bind (e106 (by omega) (by omega) (by omega) (by omega)) (Round.chk (decide_eq_true (by omega)) (Round.at hgm.get (Round.inr _ ⟨_, rfl, ?_⟩)))
      have hpt : g a j.toNat + nr (i * (g b j.toNat - g a j.toNat)) (far a b) = pt a b i j.toNat := rfl
      show m.set j.toNat (wr .i16 (wr .i64 (g a j.toNat + nr (i * (g b j.toNat - g a j.toNat)) (far a b)))) = _
      rw [hpt, wrap_id (by omega) (by omega), wrap16 (by omega) (by omega), hm]
      rcases hj with rfl | rfl
      · rfl
      · rfl
    · intro m hm
      have hm : m = ptM a b i := hm
      refine Round.no (by simp) (Round.chk (decide_eq_true (by simp; omega)) (Round.inl _ ⟨(), ?_, trivial⟩))
      rw [hm, wrap_id (x := i + 1) (by omega) (by omega), show (i + 1).toNat = i.toNat + 1 by omega, List.range_succ, List.map_append]
      simp [show ((i.toNat : Nat) : Int) = i by omega]
  · intro _ _
    exact Round.no (by simp; omega) (Round.done (Evt.some _))
/- spec.l07Ink -/
theorem e84 {p : List Int} {a b : Mk} (hp : p.length = 64) (ha : OnP a) (hb : OnP b) : Evt (fun n => call T C n 84 (p, a, b, ())) ((), (inkL p (lineM a b), ())) := by
  have hl := lineM_len ha hb
  refine Evt.next (Evt.bind (e112 ha hb) ?_) (fun n => r84 n p a b)
  refine for_evt' 0 ((lineM a b).length : Int) (fun i (_ : Unit) => (inkL p ((lineM a b).take i.toNat), lineM a b, i, ())) (fun _ _ => True) (b0 := ()) rfl (by omega) trivial ?_ ?_
  · intro i _ h2 h3 _
    obtain ⟨m, hm⟩ := at_of h2 h3
    have ho := lineM_on ha hb m hm.mem
    have hx := ho.x; have hy := ho.y
    have hq : (inkL p ((lineM a b).take i.toNat)).length = 64 := by rw [inkL_len, hp]
    have hgp := g_idx (l := inkL p ((lineM a b).take i.toNat)) hy.1 (by omega)
    refine Round.yes (decide_eq_true h3) (Round.at hm.idx (Round.at ho.idx1 (Round.chk (decide_eq_true (by omega)) (Round.at hgp.get (Round.at hm.idx (Round.at ho.idx0 ?_))))))
    rw [wrapU64 (x := g m 0) (by omega) (by omega)]
    refine Round.chk (decide_eq_true hx.1) (Round.chk (decide_eq_true (by omega)) (Round.at hgp.get (Round.again _ ⟨(), ?_, trivial⟩)))
    rw [wr_succ h2 h3 (by omega), hm.take, inkL_snoc]
    rfl
  · intro _ _
    simp only [take_all]
    exact Round.no (by simp) (Round.done (Evt.some _))
/- spec.l07Draw -/
theorem e38 (m : Mch) (hr : RngM m) (G : GoodM m) : Evt (fun n => call T C n 38 (m, ())) ((drawTo m m.1.length, ()), ()) := by
  have lx := okC_len G.x
  have hl : (stopsM m).length = m.1.length := by simp [stopsM]
  refine Evt.next (Evt.bind (e83 m G) ?_) (fun n => r38 n m)
  refine for_evt' 0 (m.1.length : Int) (fun i (_ : Unit) => (List.replicate 64 0, stopsM m, drawTo m i.toNat, i, ())) (fun _ _ => True) (b0 := ()) rfl (by omega) trivial ?_ ?_
  · intro i _ h2 h3 _
    obtain ⟨k, rfl⟩ : ∃ k : Nat, i = k := ⟨i.toNat, by omega⟩
    have hk : k < m.1.length := by omega
    have hs := stopsM_at m hk
    have hm1 := Nat.mod_lt (k + 1) (show m.1.length > 0 by omega)
    have ht := stopsM_at m hm1
    have hmod : Int.tmod (wr .i64 ((k : Int) + 1)) ((stopsM m).length : Int) = (((k + 1) % m.1.length : Nat) : Int) := by rw [wr_succ h2 h3 (by omega), hl, show (k : Int) + 1 = ((k + 1 : Nat) : Int) by omega, ← Int.ofNat_tmod]
    have o1 := stop_on hr G hk
    have o2 := stop_on hr G hm1
    show Round (fun n ag => if decide ((k : Int) < ((stopsM m).length : Int)) = true then _ else _) _ _
    refine Round.yes (decide_eq_true (by omega)) (Round.chk (bne_pos (show 0 < ((stopsM m).length : Int) by omega)) ?_)
    simp only [hmod]
    refine Round.at ht.idx (Round.at hs.idx ?_)
    have e : drawTo m ((k : Int) + 1).toNat = drawTo m (k + 1) := by rw [show ((k : Int) + 1).toNat = k + 1 by omega]
    have again : ∀ d, d = drawTo m (k + 1) → ∃ b' : Unit, ((List.replicate 64 (0 : Int), stopsM m, d, wr .i64 ((k : Int) + 1), ()) : List Int × List Stp × List Int × Int × Unit) = (List.replicate 64 0, stopsM m, drawTo m ((k : Int) + 1).toNat, (k : Int) + 1, ()) ∧ True := fun d hd => ⟨(), by rw [hd, e, wr_succ h2 h3 (by omega)], trivial⟩
    refine Round.ite (fun c => ?_) (fun c => ?_)
    · have c : (stopM m k).2.1 = false := by simpa using c
      refine Round.again _ (again _ ?_)
      show drawTo m k = drawTo m (k + 1)
      rw [drawTo, c]; rfl
    have c : (stopM m k).2.1 = true := by simpa using c
    have hlen : (drawTo m k).length = 64 := drawTo_len m k
    refine Round.at hs.idx (Round.at hs.idx (Round.bind (e84 (p := drawTo m k) hlen o1 o1) ?_))
    rw [lineM_same]
    refine Round.ite (fun c2 => ?_) (fun c2 => ?_)
    · refine Round.at hs.idx (Round.bind (e84 (p := inkP (drawTo m k) (stopM m k).1) (by rw [inkP_len, hlen]) o1 o2) (Round.again _ (again _ ?_)))
      rw [drawTo, if_pos c, if_pos c2]
    · refine Round.again _ (again _ ?_)
      rw [drawTo, if_pos c, if_neg c2]
      rfl
  · intro _ _
    exact Round.no (by simp [hl]) (Round.done (Evt.some _))
/- spec.DrawMachine -/
theorem e8 (m : Mch) (hr : RngM m) : Evt (fun n => call T C n 8 (m, ())) (dmR m, ()) := by
  refine Evt.next (Evt.bind (e37 m hr) ?_) (fun n => r8 n m)
  unfold dmR
  refine Evt.ite (fun h => ?_) (fun h => ?_)
  · have h : okM m = false := by simpa using h
    rw [h]; exact Evt.some _
  · have h : okM m = true := by simpa using h
    rw [if_pos h]
    exact Evt.bind (e38 m hr (goodM h)) (Evt.some _)
/- (impl.Cam).steps -/
theorem e48 (a : List Int) : Evt (fun n => call T C n 48 (a, ())) (((a.length : Int), ()), ()) := Evt.next (Evt.some _) (fun n => r48 n a)
/- impl.inRange -/
theorem e57 (a b c : Int) : Evt (fun n => call T C n 57 (a, b, c, ())) ((inR a b c, ()), ()) := by
  refine Evt.next ?_ (fun n => r57 n a b c)
  refine Evt.ite (fun h => ?_) (fun h => ?_)
  · refine (Evt.some _).of_eq fun n => ?_
    have h : b ≤ a := of_decide_eq_true h
    simp [inR, h]
    rfl
  · refine (Evt.some _).of_eq fun n => ?_
    have h : ¬ b ≤ a := by simpa using h
    simp [inR, h]
    rfl
/- impl.isSteps -/
theorem e72 (a : Int) : Evt (fun n => call T C n 72 (a, ())) ((inR a 8 360, ()), ()) := Evt.next (Evt.bind (e57 a 8 360) (Evt.some _)) (fun n => r72 n a)
/- impl.isLift -/
theorem e71 (a : Int) : Evt (fun n => call T C n 71 (a, ())) ((inR a 0 10000, ()), ()) := Evt.next (Evt.bind (e57 a 0 10000) (Evt.some _)) (fun n => r71 n a)
/- impl.ValidCam$1 -/
theorem e114 (v : Int) : Evt (fun n => call T C n 114 (v, ())) ((!okV v, ()), ()) := Evt.next (Evt.bind (e71 _) (Evt.some _)) (fun n => r114 n v)
/- slices.IndexFunc[impl.Cam,int16]{impl.ValidCam$1} -/
theorem e127 (l : List Int) (hl : (l.length : Int) ≤ 140737488351232) : Evt (fun n => call T C n 127 (l, ((), ()), ())) ((fi (fun v => !okV v) l 0, ()), ()) := by
  refine Evt.next ?_ (fun n => r127 n l ((), ()))
  refine loop_evt (fun (x : List Int × (Unit × Unit) × Int × Int × Unit) => x.1 = l ∧ x.2.2.1 = (l.length : Int) ∧ 0 ≤ x.2.2.2.1 ∧ x.2.2.2.1 ≤ (l.length : Int) ∧ fi (fun v => !okV v) l 0 = fi (fun v => !okV v) (l.drop x.2.2.2.1.toNat) x.2.2.2.1) (fun (x : List Int × (Unit × Unit) × Int × Int × Unit) => ((l.length : Int) - x.2.2.2.1).toNat) (x := (l, ((), ()), (l.length : Int), 0, ())) ⟨rfl, rfl, Int.le_refl _, by simp, by simp⟩ ?_
  rintro ⟨x1, u, m, i, _⟩ ⟨h', hm, h0, h1, h2⟩
  simp only at h' hm h0 h1 h2
  subst h'; subst hm
  refine Round.ite (fun hlt => ?_) (fun hge => ?_)
  · have hlt : i < (x1.length : Int) := of_decide_eq_true hlt
    obtain ⟨v, hv, hv'⟩ := idx_at h0 hlt
    have hd := drop_cons hv'
    refine Round.at hv (Round.bind (e114 _) (Round.ite (fun hb => ?_) (fun hb => ?_)))
    · have hb : okV v = false := by simpa using hb
      have h3 : fi (fun v => !okV v) x1 0 = i := by rw [h2, hd]; simp [fi, hb]
      rw [h3]
      exact Round.done (Evt.some _)
    · have hb : okV v = true := by simpa using hb
      have hw : wr .i64 (i + 1) = i + 1 := wrap_id (by omega) (by omega)
      refine Round.again _ ⟨⟨rfl, rfl, ?_, ?_, ?_⟩, ?_⟩ <;> simp only [hw]
      · omega
      · omega
      · rw [h2, hd, show (i + 1).toNat = i.toNat + 1 by omega]
        simp [fi, hb]
      · omega
  · have hge : ¬ i < (x1.length : Int) := by simpa using hge
    have : x1.drop i.toNat = [] := List.drop_of_length_le (by omega)
    rw [h2, this]
    exact Round.done (Evt.some _)
/- slices.ContainsFunc[impl.Cam,int16]{impl.ValidCam$1} -/
theorem e113 (l : List Int) (hl : (l.length : Int) ≤ 140737488351232) : Evt (fun n => call T C n 113 (l, ((), ()), ())) ((l.any (fun v => !okV v), ()), ()) := by
  refine Evt.next (Evt.bind (e127 l hl) ((Evt.some _).of_eq fun n => ?_)) (fun n => r113 n l ((), ()))
  simp only [fi_any _ l 0 (Int.le_refl _)]
  rfl
/- impl.ValidCam -/
theorem e85 (l : List Int) (hl : (l.length : Int) ≤ 140737488351232) : Evt (fun n => call T C n 85 (l, ())) ((okC l, ()), ()) := by
  refine Evt.next (Evt.bind (e48 l) (Evt.bind (e72 _) ?_)) (fun n => r85 n l)
  refine Evt.ite (fun h => ?_) (fun h => ?_)
  · refine Evt.bind (e113 l hl) ((Evt.some _).of_eq fun n => ?_)
    have h : inR (l.length : Int) 8 360 = true := h
    have : okC l = !l.any (fun v => !okV v) := by simp [okC, h, List.any_eq_not_all_not]
    rw [this]
    rfl
  · refine (Evt.some _).of_eq fun n => ?_
    have h : inR (l.length : Int) 8 360 = false := by simpa using h
    simp [okC, h]
    rfl
/- slices.Max[impl.Cam,int16] -/
theorem e86 (l : List Int) (hr : Rng l) (h0 : 0 < (l.length : Int)) : Evt (fun n => call T C n 86 (l, ())) ((mxL l, ()), ()) := by
  have hlen := hr.len'
  obtain ⟨v0, hv0⟩ := at_of (l := l) (Int.le_refl 0) h0
  refine Evt.next (Evt.no (by simp; omega) (Evt.at hv0.idx ?_)) (fun n => r86 n l)
  have hh := (head_at hv0).1
  refine for_evt' 1 (l.length : Int) (fun i (_ : Unit) => (l, mxF (l.take i.toNat) v0, i, ())) (fun _ _ => True) (b0 := ()) (by
    have := (head_at hv0).2
    show _ = (l, mxF (l.take 1) v0, 1, ())
    rw [this]; simp [mxF]) (by omega) trivial ?_ ?_
  · intro i _ h2 h3 _
    obtain ⟨v, hv⟩ := at_of (l := l) (show 0 ≤ i by omega) h3
    simp only [wrap_id (x := i + 1) (by omega) (by omega)]
    refine Round.yes (decide_eq_true h3) (Round.at hv.idx (Round.again _ ⟨(), ?_, trivial⟩))
    rw [hv.take, mxF_snoc]
    congr 2
    split <;> omega
  · intro _ _
    have e2 : mxF (l.take (l.length : Int).toNat) v0 = mxL l := by rw [take_all, mxL, hh]
    simp only [e2]
    exact Round.no (by simp) (Round.done (Evt.some _))
/- impl.ValidMachine -/
theorem e40 (m : Mch) (h : RngM m) : Evt (fun n => call T C n 40 (m, ())) ((okM m, ()), ()) := by
  have hx := h.x.len'
  have hy := h.y.len'
  have hp := h.p.len'
  refine Evt.next (Evt.at (x := ([] : List Int)) rfl (Evt.at (x := ([] : List Int)) rfl ?_)) (fun n => r40 n m)
  show Evt (fun n => loopK _ n (m, [m.1, m.2.1], 0, ())) _
  have one : ∀ (c : List Int) (hr : Rng c) (i : Int) (rest : Bool), i = 0 ∨ i = 1 → idx [m.1, m.2.1] i = some c → okM m = (mv c && ((c.length : Int) == (m.2.2.1.length : Int)) && rest) → ∀ {P : (Mch × List (List Int) × Int × Unit) → Prop}, (mv c = true → c.length = m.2.2.1.length → P (m, [m.1, m.2.1], wr .i64 (i + 1), ())) →
      Round (σ := Mch × List (List Int) × Int × Unit) (fun n ag => (idx [m.1, m.2.1] i).bind fun v6 => (call T C n 85 (v6, ())).bind fun r7 => if (!r7.1.1) = true then some ((false, ()), ()) else if (bif false then true else ((v6.length : Int) != (m.2.2.1.length : Int))) = true then some ((false, ()), ()) else (call T C n 86 (v6, ())).bind fun r8 => if (bif false then true else decide (r8.1.1 ≥ 64)) = true then some ((false, ()), ()) else ag (m, [m.1, m.2.1], wr .i64 (i + 1), ())) ((okM m, ()), ()) P := by
    intro c hr i rest _ hi he P hP
    have hc := hr.len'
    refine Round.at hi (Round.bind (e85 c (by omega)) ?_)
    cases hok : okC c with
    | false =>
      have : okM m = false := by rw [he]; simp [mv, hok]
      rw [this]
      exact Round.yes rfl (Round.done (Evt.some _))
    | true =>
      have hl := okC_len hok
      refine Round.no (by simp) (Round.ite (fun hb => ?_) (fun hb => ?_))
      · have hb : ¬ (c.length : Int) = m.2.2.1.length := by simpa using hb
        have : okM m = false := by
          rw [he]
          have : ((c.length : Int) == (m.2.2.1.length : Int)) = false := by simpa using hb
          simp [this]
        rw [this]
        exact Round.done (Evt.some _)
      · have hb : c.length = m.2.2.1.length := by
          have : (c.length : Int) = m.2.2.1.length := by simpa using hb
          omega
        refine Round.bind (e86 c hr (by omega)) (Round.ite (fun hg => ?_) (fun hg => ?_))
        · have hg : mxL c ≥ 64 := of_decide_eq_true hg
          have : okM m = false := by
            rw [he]
            have : mv c = false := by simp [mv]; intro; omega
            simp [this]
          rw [this]
          exact Round.done (Evt.some _)
        · have hg : ¬ mxL c ≥ 64 := by simpa using hg
          exact Round.again _ (hP (by simp [mv, hok]; omega) hb)
  refine for_evt' 0 2 (fun i (_ : Unit) => (m, [m.1, m.2.1], i, ())) (fun i _ => (0 < i → mv m.1 = true ∧ m.1.length = m.2.2.1.length) ∧ (1 < i → mv m.2.1 = true ∧ m.2.1.length = m.2.2.1.length)) (b0 := ()) rfl (by omega) ⟨by omega, by omega⟩ ?_ ?_
  · intro i _ h2 h3 ⟨p1, p2⟩
    refine Round.yes (decide_eq_true h3) ?_
    have hi : i = 0 ∨ i = 1 := by omega
    rcases hi with rfl | rfl
    · refine one m.1 h.x 0 (mv m.2.1 && okC m.2.2.1 && ((m.1.length : Int) == (m.2.1.length : Int))) (.inl rfl) rfl ?_ (fun q1 q2 => ⟨(), rfl, fun _ => ⟨q1, q2⟩, by omega⟩)
      unfold okM
      cases mv m.1 <;> cases mv m.2.1 <;> cases okC m.2.2.1 <;> cases ((m.1.length : Int) == (m.2.1.length : Int)) <;> cases ((m.1.length : Int) == (m.2.2.1.length : Int)) <;> rfl
    · obtain ⟨p3, p4⟩ := p1 (by omega)
      refine one m.2.1 h.y 1 (okC m.2.2.1) (.inr rfl) rfl ?_ (fun q1 q2 => ⟨(), rfl, fun _ => ⟨p3, p4⟩, fun _ => ⟨q1, q2⟩⟩)
      unfold okM
      rw [p3, p4]
      have : ((m.2.2.1.length : Int) == (m.2.1.length : Int)) = ((m.2.1.length : Int) == (m.2.2.1.length : Int)) := BEq.comm
      rw [this]
      cases mv m.2.1 <;> cases okC m.2.2.1 <;> cases ((m.2.1.length : Int) == (m.2.2.1.length : Int)) <;> simp
  · intro _ ⟨p1, p2⟩
    obtain ⟨q1, q2⟩ := p1 (by omega)
    obtain ⟨q3, q4⟩ := p2 (by omega)
    have : okM m = okC m.2.2.1 := by
      unfold okM
      rw [q1, q3, q2, q4]
      simp
    rw [this]
    exact Round.no (by simp) (Round.done (Evt.bind (e85 m.2.2.1 (by omega)) (Evt.some _)))
/- (impl.Machine).steps -/
theorem e115 (m : Mch) : Evt (fun n => call T C n 115 (m, ())) (((m.1.length : Int), ()), ()) := Evt.next (Evt.bind (e48 m.1) (Evt.some _)) (fun n => r115 n m)
/- impl.floorDiv -/
theorem e131 {a b : Int} (hb : 0 < b) (h1 : -1000000000000 ≤ a) (h2 : a ≤ 1000000000000) : Evt (fun n => call T C n 131 (a, b, ())) ((a / b, ()), ()) := by
  have hbd := ediv_bd hb h1 h2 (by omega)
  have he := floorDiv_eq (a := a) hb
  refine Evt.next (Evt.chk (bne_pos hb) (Evt.chk (bne_pos hb) (Evt.ite (fun h => ?_) (fun h => ?_)))) (fun n => r131 n a b)
  · have h : Int.tmod a b < 0 := of_decide_eq_true h
    rw [if_pos h] at he
    refine (Evt.some _).of_eq fun n => ?_
    rw [wrap_id (x := Int.tdiv a b) (by omega) (by omega), wrap_id (by omega) (by omega), he]
    rfl
  · have h : ¬ Int.tmod a b < 0 := by simpa using h
    rw [if_neg h] at he
    refine (Evt.some _).of_eq fun n => ?_
    rw [wrap_id (x := Int.tdiv a b) (by omega) (by omega), he]
    rfl
/- impl.mod -/
theorem e132 {a b : Int} (hb : 0 < b) (hb' : b ≤ 1000000000000) (h1 : -1000000000000 ≤ a) (h2 : a ≤ 1000000000000) : Evt (fun n => call T C n 132 (a, b, ())) ((a % b, ()), ()) := by
  have hd := Int.emod_def a b
  have h3 := Int.emod_nonneg a (show b ≠ 0 by omega)
  have h4 := Int.emod_lt_of_pos a hb
  refine Evt.next (Evt.bind (e131 hb h1 h2) ((Evt.some _).of_eq fun n => ?_)) (fun n => r132 n a b)
  simp only
  rw [wrap_id (x := b * (a / b)) (by omega) (by omega), ← hd, wrap_id (by omega) (by omega)]
  rfl
/- (impl.Cam).at -/
theorem e128 {l : List Int} (hr : Rng l) (h0 : 0 < (l.length : Int)) (h1 : (l.length : Int) ≤ 1000000) {x : Int} (hx : -4000000 ≤ x) (hx' : x ≤ 4000000) : Evt (fun n => call T C n 128 (l, x, ())) ((cAt l x, ()), ()) := by
  have hp := Int.emod_nonneg x (show (l.length : Int) ≠ 0 by omega)
  have hq := Int.emod_lt_of_pos x h0
  have hv := g_idx (l := l) hp hq
  refine Evt.next (Evt.bind (e48 l) (Evt.bind (e132 (a := x) h0 (by omega) (by omega) (by omega)) (Evt.at hv.idx ((Evt.some _).of_eq fun n => ?_)))) (fun n => r128 n l x)
  rw [hr.id hv.mem]
  rfl
/- (impl.Machine).stop -/
theorem e116 (m : Mch) (hr : RngM m) (G : GoodM m) {i : Nat} (h : i < m.1.length) : Evt (fun n => call T C n 116 (m, (i : Int), ())) ((stopM m i, ()), ()) := by
  have lx := okC_len G.x
  have e1 := G.xy
  have e2 := G.xp
  have at_ : ∀ l : List Int, l.length = m.1.length → cAt l (i : Int) = g l i := fun l hl => by
    unfold cAt
    rw [Int.emod_eq_of_lt (by omega) (by omega), Int.toNat_natCast]
  have x1 := hr.x.el _ (g_mem h)
  have y1 := hr.y.el _ (g_mem (i := i) (by omega))
  have p1 := okC_el G.p hr.p _ (g_mem (i := i) (by omega))
  refine Evt.next ?_ (fun n => r116 n m (i : Int))
  refine Evt.bind (e128 hr.x (by omega) (by omega) (by omega) (by omega)) (Evt.bind (e128 hr.y (by omega) (by omega) (by omega) (by omega)) (Evt.at (x := (0 : Int)) rfl (Evt.at (x := (0 : Int)) rfl (Evt.bind (e128 hr.p (by omega) (by omega) (by omega) (by omega)) ((Evt.some _).of_eq fun n => ?_)))))
  rw [at_ _ rfl, at_ _ (by omega), at_ _ (by omega), wrap16 x1.1 x1.2, wrap16 y1.1 y1.2]
  rfl
/- (impl.Machine).stops -/
theorem e87 (m : Mch) (hr : RngM m) (G : GoodM m) : Evt (fun n => call T C n 87 (m, ())) ((stopsM m, ()), ()) := by
  have lx := okC_len G.x
  refine Evt.next (Evt.bind (e115 m) ?_) (fun n => r87 n m)
  refine for_evt' 0 (m.1.length : Int) (fun i (_ : Unit) => (m, (List.range i.toNat).map (stopM m), (m.1.length : Int), i, ())) (fun _ _ => True) (b0 := ()) rfl (by omega) trivial ?_ ?_
  · intro i _ h2 h3 _
    obtain ⟨k, rfl⟩ : ∃ k : Nat, i = k := ⟨i.toNat, by omega⟩
    refine Round.yes (decide_eq_true h3) (Round.bind (e116 m hr G (i := k) (by omega)) (Round.chk (decide_eq_true (by simp; omega)) (Round.again _ ⟨(), ?_, trivial⟩)))
    rw [wr_succ h2 h3 (by omega), show ((k : Int) + 1).toNat = k + 1 by omega, List.range_succ, List.map_append]
    rfl
  · intro _ _
    exact Round.no (by simp) (Round.done (Evt.some _))
/- (*impl.Plate).ink -/
theorem e88 {p : List Int} {m : Mk} (hp : p.length = 64) (ho : OnP m) : Evt (fun n => call T C n 88 (p, m, ())) ((), (inkP p m, ())) := by
  have hx := ho.x; have hy := ho.y
  have hgp := g_idx (l := p) hy.1 (by omega)
  have hb1 : 0 ≤ g m 1 ∧ g m 1 < ((64 : Nat) : Int) := by omega
  exact Evt.next (Evt.chk rfl (Evt.at ho.get1 (Evt.chk (decide_eq_true hb1) (Evt.at hgp.get (Evt.chk rfl (Evt.at ho.get0 (Evt.chk (decide_eq_true hx.1) (Evt.chk (decide_eq_true hb1) (Evt.at hgp.get (Evt.some ((), (inkP p m, ())))))))))))) (fun n => r88 n p m)
/- impl.abs -/
theorem e73 {a : Int} (h1 : -1000000000000 ≤ a) (h2 : a ≤ 1000000000000) : Evt (fun n => call T C n 73 (a, ())) ((siz a, ()), ()) := by
  refine Evt.next ((Evt.some _).of_eq fun n => ?_) (fun n => r73 n a)
  rw [wrap_id (x := 0 - a) (by omega) (by omega)]
  unfold siz
  have : (if 0 - a > a then 0 - a else a) = if a < 0 then -a else a := by split <;> split <;> omega
  rw [this]
  rfl
/- impl.between -/
theorem e129 {a b : Mk} (ha : OnP a) (hb : OnP b) : Evt (fun n => call T C n 129 (a, b, ())) ((far a b, ()), ()) := by
  have hx := ha.x; have hy := ha.y; have kx := hb.x; have ky := hb.y
  refine Evt.next ?_ (fun n => r129 n a b)
  refine Evt.chk rfl (Evt.at hb.get0 (Evt.chk rfl (Evt.at ha.get0 ?_)))
  rw [wrap_id (x := g a 0) (by omega) (by omega), wrap_id (x := g b 0) (by omega) (by omega), wrap_id (by omega) (by omega)]
  refine Evt.bind (e73 (by omega) (by omega)) (Evt.chk rfl (Evt.at hb.get1 (Evt.chk rfl (Evt.at ha.get1 ?_))))
  rw [wrap_id (x := g a 1) (by omega) (by omega), wrap_id (x := g b 1) (by omega) (by omega), wrap_id (by omega) (by omega)]
  refine Evt.bind (e73 (by omega) (by omega)) ((Evt.some _).of_eq fun n => ?_)
  have e : ∀ x : Int, siz (-x) = siz x := fun x => by unfold siz; split <;> split <;> omega
  have e0 : siz (g b 0 - g a 0) = siz (g a 0 - g b 0) := by rw [← e, Int.neg_sub]
  have e1 : siz (g b 1 - g a 1) = siz (g a 1 - g b 1) := by rw [← e, Int.neg_sub]
  have : (if siz (g a 1 - g b 1) > siz (g a 0 - g b 0) then siz (g a 1 - g b 1) else siz (g a 0 - g b 0)) = far a b := by unfold far; split <;> omega
  simp only [e0, e1, this]
  rfl
/- impl.nearest -/
theorem e124 {x n : Int} (hn : 0 < n) (hn' : n ≤ 100000000000) (h1 : -100000000000 ≤ x) (h2 : x ≤ 100000000000) : Evt (fun m => call T C m 124 (x, n, ())) ((nr x n, ()), ()) := by
  refine Evt.next ?_ (fun m => r124 m x n)
  rw [wrap_id (x := 2 * n) (by omega) (by omega), wrap_id (x := 2 * x) (by omega) (by omega), wrap_id (x := 2 * x + n) (by omega) (by omega)]
  exact Evt.bind (e131 (by omega) (by omega) (by omega)) (Evt.some _)
/- impl.lineOf -/
theorem e117 {a b : Mk} (ha : OnP a) (hb : OnP b) : Evt (fun n => call T C n 117 (a, b, ())) ((lineM a b, ()), ()) := by
  obtain ⟨f0, f1, f2⟩ := far_bd ha hb
  refine Evt.next (Evt.bind (e129 ha hb) ?_) (fun n => r117 n a b)
  by_cases h : far a b = 0
  · have e : lineM a b = [a] := by unfold lineM; rw [if_pos h]
    rw [e]
    simp only [h]
    refine for_evt' 1 1 (fun i (_ : Unit) => (a, b, [a], 0, i, ())) (fun _ _ => True) (b0 := ()) rfl (by omega) trivial (fun i _ h2 h3 _ => by omega) (fun _ _ => ?_)
    exact Round.no (by simp) (Round.done (Evt.some _))
  have e : lineM a b = (List.range (far a b + 1).toNat).map fun k => ptM a b (k : Nat) := by unfold lineM; rw [if_neg h]
  rw [e]
  refine for_evt' 1 (far a b + 1) (fun i (_ : Unit) => (a, b, (List.range i.toNat).map (fun k => ptM a b (k : Nat)), far a b, i, ())) (fun _ _ => True) (b0 := ()) (by
    show (a, b, [a], far a b, 1, ()) = (a, b, [ptM a b 0], far a b, 1, ())
    rw [ptM_zero ha hb h]) (by omega) trivial ?_ ?_
  · intro i _ h2 h3 _
    refine Round.yes (decide_eq_true (show i ≤ far a b by omega)) ?_
    refine for_round' 0 2 (fun j (m : List Int) => (a, b, (List.range i.toNat).map (fun k => ptM a b (k : Nat)), far a b, i, m, j, ())) (fun j m => m = ((List.range j.toNat).map (fun u => pt a b i u)) ++ List.replicate (2 - j.toNat) 0) (b0 := List.replicate 2 0) rfl (by omega) (by simp) ?_ ?_
    · intro j m j0 j1 hm
      have hj : j = 0 ∨ j = 1 := by omega
      have hga := g_idx (l := a) j0 (by have := ha.len; omega)
      have hgb := g_idx (l := b) j0 (by have := hb.len; omega)
      have hu : j.toNat = 0 ∨ j.toNat = 1 := by omega
      have ba : 0 ≤ g a j.toNat ∧ g a j.toNat ≤ 63 := by rcases hu with e | e <;> rw [e]; exact ha.x; exact ha.y
      have bb : 0 ≤ g b j.toNat ∧ g b j.toNat ≤ 63 := by rcases hu with e | e <;> rw [e]; exact hb.x; exact hb.y
      have hk := kd_bd ha hb (show 0 ≤ i by omega) (by omega) hu
      have hp := pt_bd ha hb h (show 0 ≤ i by omega) (by omega) hu
      have hm2 : m.length = 2 := by rw [hm]; simp; omega
      have hgm := g_idx (l := m) j0 (by omega)
      have hn1 : 0 ≤ g a j.toNat * far a b ∧ g a j.toNat * far a b ≤ 63 * 63 := ⟨Int.mul_nonneg ba.1 f0, Int.mul_le_mul ba.2 f1 f0 (by omega)⟩
      show Round (fun n ag => if decide (j < 2) = true then _ else _) _ _
      simp only [wrap_id (x := j + 1) (by omega) (by omega)]
      refine Round.yes (decide_eq_true j1) (Round.chk (decide_eq_true (by omega)) (Round.at hga.get (Round.chk (decide_eq_true (by omega)) (Round.at hgb.get (Round.chk (decide_eq_true (by omega)) (Round.at hga.get ?_))))))
      simp only [wrap_id (x := g a j.toNat) (by omega) (by omega), wrap_id (x := g b j.toNat) (by omega) (by omega), wrap_id (x := g b j.toNat - g a j.toNat) (by omega) (by omega), wrap_id (x := i * (g b j.toNat - g a j.toNat)) (by omega) (by omega), wrap_id (x := g a j.toNat * far a b) (by omega) (by omega), wrap_id (x := g a j.toNat * far a b + i * (g b j.toNat - g a j.toNat)) (by omega) (by omega)]
      refine Round.bind (e124 (by omega) (by omega) (by omega) (by omega)) (Round.chk (decide_eq_true (by omega)) (Round.at hgm.get (Round.inr _ ⟨_, rfl, ?_⟩)))
      have hpt : nr (g a j.toNat * far a b + i * (g b j.toNat - g a j.toNat)) (far a b) = pt a b i j.toNat := nr_from (by omega)
      show m.set j.toNat (wr .i16 (nr (g a j.toNat * far a b + i * (g b j.toNat - g a j.toNat)) (far a b))) = _
      rw [hpt, wrap16 (by omega) (by omega), hm]
      rcases hj with rfl | rfl
      · rfl
      · rfl
    · intro m hm
      have hm : m = ptM a b i := hm
      refine Round.no (by simp) (Round.chk (decide_eq_true (by simp; omega)) (Round.inl _ ⟨(), ?_, trivial⟩))
      rw [hm, wrap_id (x := i + 1) (by omega) (by omega), show (i + 1).toNat = i.toNat + 1 by omega, List.range_succ, List.map_append]
      simp [show ((i.toNat : Nat) : Int) = i by omega]
  · intro _ _
    exact Round.no (by simp; omega) (Round.done (Evt.some _))
/- (*impl.Plate).line -/
theorem e89 {p : List Int} {a b : Mk} (hp : p.length = 64) (ha : OnP a) (hb : OnP b) : Evt (fun n => call T C n 89 (p, a, b, ())) ((), (inkL p (lineM a b), ())) := by
  have hl := lineM_len ha hb
  refine Evt.next (Evt.bind (e117 ha hb) ?_) (fun n => r89 n p a b)
  refine for_evt' 0 ((lineM a b).length : Int) (fun i (_ : Unit) => (inkL p ((lineM a b).take i.toNat), lineM a b, ((lineM a b).length : Int), i, ())) (fun _ _ => True) (b0 := ()) rfl (by omega) trivial ?_ ?_
  · intro i _ h2 h3 _
    obtain ⟨m, hm⟩ := at_of h2 h3
    refine Round.yes (decide_eq_true h3) (Round.at hm.idx (Round.bind (e88 (p := inkL p ((lineM a b).take i.toNat)) (by rw [inkL_len, hp]) (lineM_on ha hb m hm.mem)) (Round.again _ ⟨(), ?_, trivial⟩)))
    rw [wr_succ h2 h3 (by omega), hm.take, inkL_snoc]
  · intro _ _
    simp only [take_all]
    exact Round.no (by simp) (Round.done (Evt.some _))
/- (impl.Machine).draw -/
theorem e41 (m : Mch) (hr : RngM m) (G : GoodM m) : Evt (fun n => call T C n 41 (m, ())) ((drawTo m m.1.length, ()), ()) := by
  have lx := okC_len G.x
  have hl : (stopsM m).length = m.1.length := by simp [stopsM]
  refine Evt.next (Evt.bind (e87 m hr G) ?_) (fun n => r41 n m)
  refine for_evt' 0 (m.1.length : Int) (fun i (_ : Unit) => (List.replicate 64 0, drawTo m i.toNat, stopsM m, stopsM m, ((stopsM m).length : Int), i, ())) (fun _ _ => True) (b0 := ()) rfl (by omega) trivial ?_ ?_
  · intro i _ h2 h3 _
    obtain ⟨k, rfl⟩ : ∃ k : Nat, i = k := ⟨i.toNat, by omega⟩
    have hk : k < m.1.length := by omega
    have hs := stopsM_at m hk
    have hm1 := Nat.mod_lt (k + 1) (show m.1.length > 0 by omega)
    have ht := stopsM_at m hm1
    have hmod : Int.tmod (wr .i64 ((k : Int) + 1)) ((stopsM m).length : Int) = (((k + 1) % m.1.length : Nat) : Int) := by rw [wr_succ h2 h3 (by omega), hl, show (k : Int) + 1 = ((k + 1 : Nat) : Int) by omega, ← Int.ofNat_tmod]
    have o1 := stop_on hr G hk
    have o2 := stop_on hr G hm1
    show Round (fun n ag => if decide ((k : Int) < ((stopsM m).length : Int)) = true then _ else _) _ _
    refine Round.yes (decide_eq_true (by omega)) (Round.at hs.idx ?_)
    have e : drawTo m ((k : Int) + 1).toNat = drawTo m (k + 1) := by rw [show ((k : Int) + 1).toNat = k + 1 by omega]
    have again : ∀ d, d = drawTo m (k + 1) → ∃ b' : Unit, ((List.replicate 64 (0 : Int), d, stopsM m, stopsM m, ((stopsM m).length : Int), wr .i64 ((k : Int) + 1), ()) : List Int × List Int × List Stp × List Stp × Int × Int × Unit) = (List.replicate 64 0, drawTo m ((k : Int) + 1).toNat, stopsM m, stopsM m, ((stopsM m).length : Int), (k : Int) + 1, ()) ∧ True := fun d hd => ⟨(), by rw [hd, e, wr_succ h2 h3 (by omega)], trivial⟩
    refine Round.ite (fun c => ?_) (fun c => ?_)
    · have c : (stopM m k).2.1 = false := by simpa using c
      refine Round.again _ (again _ ?_)
      show drawTo m k = drawTo m (k + 1)
      rw [drawTo, c]; rfl
    have c : (stopM m k).2.1 = true := by simpa using c
    have hlen : (drawTo m k).length = 64 := drawTo_len m k
    refine Round.bind (e88 (p := drawTo m k) hlen o1) (Round.chk (bne_pos (show 0 < ((stopsM m).length : Int) by omega)) ?_)
    simp only [hmod]
    refine Round.at ht.idx (Round.ite (fun c2 => ?_) (fun c2 => ?_))
    · refine Round.bind (e89 (p := inkP (drawTo m k) (stopM m k).1) (by rw [inkP_len, hlen]) o1 o2) (Round.again _ (again _ ?_))
      rw [drawTo, if_pos c, if_pos c2]
    · refine Round.again _ (again _ ?_)
      rw [drawTo, if_pos c, if_neg c2]
  · intro _ _
    exact Round.no (by simp [hl]) (Round.done (Evt.some _))
/- impl.DrawMachine -/
theorem e10 (m : Mch) (hr : RngM m) : Evt (fun n => call T C n 10 (m, ())) (dmR m, ()) := by
  refine Evt.next (Evt.bind (e40 m hr) ?_) (fun n => r10 n m)
  unfold dmR
  refine Evt.ite (fun h => ?_) (fun h => ?_)
  · have h : okM m = false := by simpa using h
    rw [h]; exact Evt.some _
  · have h : okM m = true := by simpa using h
    rw [if_pos h]
    exact Evt.bind (e41 m hr (goodM h)) (Evt.some _)
/- laws.eqPlate -/
theorem e11 {p : List Int} (hp : p.length = 64) : Evt (fun n => call T C n 11 (p, p, ())) ((true, ()), ()) := by
  refine Evt.next ?_ (fun n => r11 n p p)
  refine for_evt' 0 64 (fun i (_ : Unit) => (p, p, i, ())) (fun _ _ => True) (b0 := ()) rfl (by omega) trivial ?_ ?_
  · intro i _ h2 h3 _
    have hg := g_idx (l := p) h2 (by omega)
    refine Round.yes (decide_eq_true h3) (Round.chk (decide_eq_true (show 0 ≤ i ∧ i < ((64 : Nat) : Int) by omega)) (Round.at hg.get (Round.chk (decide_eq_true (show 0 ≤ i ∧ i < ((64 : Nat) : Int) by omega)) (Round.at hg.get (Round.no (by simp) (Round.again _ ⟨(), ?_, trivial⟩))))))
    rw [wr_succ h2 h3 (by omega)]
  · intro _ _
    exact Round.no (by simp) (Round.done (Evt.some _))
/- laws.eqCam -/
theorem e42 (l : List Int) (hl : (l.length : Int) ≤ 140737488351232) : Evt (fun n => call T C n 42 (l, l, ())) ((true, ()), ()) := by
  refine Evt.next (Evt.no (by simp) ?_) (fun n => r42 n l l)
  refine for_evt 0 (l.length : Int) (fun i (_ : Unit) => (l, l, i, ())) (fun _ _ => True) (b0 := ()) (by omega) trivial ?_ ?_
  · intro i _ h2 h3 _
    obtain ⟨v, hv⟩ := at_of h2 h3
    refine Round.yes (decide_eq_true h3) (Round.at hv.idx (Round.at hv.idx (Round.no (by simp) (Round.again _ ⟨(), ?_, trivial⟩))))
    rw [wr_succ h2 h3 (by omega)]
  · intro _ _
    exact Round.no (by simp) (Round.done (Evt.some _))
/- laws.eqMachine -/
theorem e12 (m : Mch) (hx : (m.1.length : Int) ≤ 140737488351232) (hy : (m.2.1.length : Int) ≤ 140737488351232) (hp : (m.2.2.1.length : Int) ≤ 140737488351232) : Evt (fun n => call T C n 12 (m, m, ())) ((true, ()), ()) :=
  Evt.next (Evt.bind (e42 _ hx) (Evt.no (by simp) (Evt.bind (e42 _ hy) (Evt.no (by simp) (Evt.bind (e42 _ hp) (Evt.no (by simp) (Evt.some _))))))) (fun n => r12 n m m)
/- laws.FnExactDrawMachine -/
theorem e3 (m : Mch) (hd : DomA (C 3).params (m, ())) : Evt (fun n => call T C n 3 (m, ())) ((true, ()), ()) := by
  have hR : RngM m := rngM_of hd.1
  have hx := hR.x.len'
  have hy := hR.y.len'
  have hp := hR.p.len'
  refine Evt.next (Evt.bind (e7 m 1048576) (Evt.ite (fun _ => Evt.some _) (fun hsz => ?_))) (fun n => r3 n m)
  have hsz := szM_ok hR (by omega) (Int.le_refl _) (by simpa using hsz)
  have to1 := e9 m hR
  refine Evt.bind to1 (Evt.bind (e8 m hR) (Evt.bind to1 (Evt.bind (e10 m hR) (Evt.bind (e11 (dmR_len m)) (Evt.no (by simp) (Evt.no (by simp) ?_))))))
  exact Evt.bind to1 (Evt.bind (e12 m (by omega) (by omega) (by omega)) (Evt.no (by simp) (Evt.some _)))

end Go.Cams.YtkcapecjamijaaaLDrawMachine
