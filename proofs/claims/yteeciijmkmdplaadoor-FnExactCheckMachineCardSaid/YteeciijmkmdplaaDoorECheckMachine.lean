/- What the functions that the law reaches come to. -/
import Derived.Test.YteeciijmkmdplaaDoorRCheckMachine
import Derived.Test.YteeciijmkmdplaaDoorPuAll
namespace Go.Cams.YteeciijmkmdplaaDoorLCheckMachine
open Go Go.Fw Go.Proofs Go.Proofs.YteeciijmkmdplaaDoor.LCheckMachine
/- laws.szCam -/
theorem e79 (l : List Int) (a : Int) : Evt (fun n => call T C n 79 (l, a, ())) ((sz1 l a, ()), ()) := by
  refine Evt.next ?_ (fun n => r79 n l a)
  unfold sz1
  refine Evt.ite (fun h => ?_) (fun h => ?_)
  · rw [if_pos (of_decide_eq_true h)]; exact Evt.some _
  · rw [if_neg (by simpa using h)]; exact Evt.some _
/- laws.szMachine -/
theorem e37 (m : Mch) (a : Int) : Evt (fun n => call T C n 37 (m, a, ())) ((szM m a, ()), ()) := by
  refine Evt.next (Evt.bind (e79 m.1 a) ?_) (fun n => r37 n m a)
  unfold szM
  refine Evt.ite (fun h => ?_) (fun h => ?_)
  · rw [if_pos (of_decide_eq_true h)]; exact Evt.some _
  rw [if_neg (by simpa using h)]
  refine Evt.bind (e79 m.2.1 _) (Evt.ite (fun h => ?_) (fun h => ?_))
  · rw [if_pos (of_decide_eq_true h)]; exact Evt.some _
  rw [if_neg (by simpa using h)]
  refine Evt.bind (e79 m.2.2.1 _) (Evt.ite (fun h => ?_) (fun h => ?_))
  · rw [if_pos (of_decide_eq_true h)]; exact Evt.some _
  rw [if_neg (by simpa using h)]
  exact Evt.some _
/- laws.toCam -/
theorem e10 (l : List Int) (hl : (l.length : Int) * 2 ≤ 140737488351232) : Evt (fun n => call T C n 10 (l, ())) ((l, ()), ()) := by
  refine Evt.next (Evt.chk (by simp; omega) ?_) (fun n => r10 n l)
  refine for_evt 0 (l.length : Int) (fun i (b : List Int) => (l, b, i, ())) (fun i b => b.length = l.length ∧ b.take i.toNat = l.take i.toNat) (b0 := List.replicate (Int.toNat (l.length : Int)) 0) (by omega) ⟨by simp, by simp⟩ ?_ ?_
  · intro i b h2 h3 ⟨hb, ht⟩
    have hi : i < (b.length : Int) := by omega
    obtain ⟨v, hv⟩ := at_of h2 h3
    obtain ⟨u, hu⟩ := get_of_lt h2 hi
    refine Round.yes (decide_eq_true h3) (Round.at hv.idx (Round.chk (chk_at h2 hi) (Round.at hu (Round.again _ ⟨b.set i.toNat v, ?_, by simpa using hb, ?_⟩))))
    · rw [wr_succ h2 h3 (by omega)]
    · rw [take_set_succ h2 hi, ht, hv.take]
  · intro b ⟨hb, ht⟩
    have e : b = l := by rw [← take_all b, hb, ht]; simp
    rw [e]
    exact Round.no (by simp) (Round.done (Evt.some _))
/- laws.toMachine -/
theorem e39 (m : Mch) (h : RngM m) : Evt (fun n => call T C n 39 (m, ())) ((m, ()), ()) := by
  obtain ⟨a, b, c, u⟩ := m
  exact Evt.next (Evt.bind (e10 a h.x.len) (Evt.bind (e10 b h.y.len) (Evt.bind (e10 c h.p.len) (Evt.some (((a, b, c, ()), ()), ()))))) (fun n => r39 n _)
/- laws.toPlate -/
theorem e40 {p : List Int} (hp : p.length = 64) : Evt (fun n => call T C n 40 (p, ())) ((p, ()), ()) := by
  refine Evt.next ?_ (fun n => r40 n p)
  refine for_evt' 0 64 (fun i (_ : Unit) => (p, List.replicate 64 (0 : Int), tb 64 (fun j => if j < i.toNat then g p j else 0), i, ())) (fun _ _ => True) (b0 := ()) (by simp [tb_rep]) (by omega) trivial ?_ ?_
  · intro i _ h2 h3 _
    have hg := g_idx (l := p) h2 (by omega)
    refine Round.yes (decide_eq_true h3) (Round.chk (decide_eq_true (show 0 ≤ i ∧ i < ((64 : Nat) : Int) by omega)) (Round.at hg.get (Round.chk (decide_eq_true (show 0 ≤ i ∧ i < ((64 : Nat) : Int) by omega)) (Round.at (tb_get (show i.toNat < 64 by omega)) (Round.again _ ⟨(), ?_, trivial⟩)))))
    rw [wr_succ h2 h3 (by omega), tb_set]
    have : tb 64 (fun j => if j = i.toNat then g p i.toNat else if j < i.toNat then g p j else 0) = tb 64 (fun j => if j < (i + 1).toNat then g p j else 0) := tb_ext fun j hj => by
      by_cases e : j = i.toNat
      · rw [if_pos e, if_pos (by omega), e]
      · rw [if_neg e]
        by_cases e2 : j < i.toNat
        · rw [if_pos e2, if_pos (by omega)]
        · rw [if_neg e2, if_neg (by omega)]
    rw [this]
  · intro _ _
    have : tb 64 (fun j => if j < (64 : Int).toNat then g p j else 0) = p := by
      conv => rhs; rw [tb_self hp]
      exact tb_ext fun j hj => if_pos (by omega)
    rw [this]
    exact Round.no (by simp) (Round.done (Evt.some _))
/- spec.l00In -/
theorem e86 (a b c : Int) : Evt (fun n => call T C n 86 (a, b, c, ())) ((inR a b c, ()), ()) := by
  refine Evt.next ?_ (fun n => r86 n a b c)
  refine Evt.ite (fun h => ?_) (fun h => ?_)
  · refine (Evt.some _).of_eq fun n => ?_
    have h : b ≤ a := of_decide_eq_true h
    simp [inR, h]
    rfl
  · refine (Evt.some _).of_eq fun n => ?_
    have h : ¬ b ≤ a := by simpa using h
    simp [inR, h]
    rfl
/- spec.l01Steps -/
theorem e95 (a : Int) : Evt (fun n => call T C n 95 (a, ())) ((inR a 8 360, ()), ()) := Evt.next (Evt.bind (e86 a 8 360) (Evt.some _)) (fun n => r95 n a)
/- spec.l01Lift -/
theorem e96 (a : Int) : Evt (fun n => call T C n 96 (a, ())) ((inR a 0 10000, ()), ()) := Evt.next (Evt.bind (e86 a 0 10000) (Evt.some _)) (fun n => r96 n a)
/- spec.l01Ok -/
theorem e52 (l : List Int) (hl : (l.length : Int) ≤ 140737488351232) : Evt (fun n => call T C n 52 (l, ())) ((okC l, ()), ()) := by
  refine Evt.next ?_ (fun n => r52 n l)
  refine Evt.bind (e95 _) ?_
  refine Evt.ite (fun h => ?_) (fun h => ?_)
  · refine (Evt.some _).of_eq fun n => ?_
    have h : inR (l.length : Int) 8 360 = false := by simpa using h
    simp [okC, h]
    rfl
  · have h : inR (l.length : Int) 8 360 = true := by simpa using h
    have he : okC l = l.all okV := by simp [okC, h]
    rw [he]
    refine loop_evt (fun (x : List Int × Int × Unit) => x.1 = l ∧ 0 ≤ x.2.1 ∧ x.2.1 ≤ (l.length : Int) ∧ l.all okV = (l.drop x.2.1.toNat).all okV) (fun (x : List Int × Int × Unit) => ((l.length : Int) - x.2.1).toNat) (x := (l, 0, ())) ⟨rfl, Int.le_refl _, by simp, by simp⟩ ?_
    rintro ⟨x1, i, _⟩ ⟨h', h0, h1, h2⟩
    simp only at h' h0 h1 h2
    subst h'
    refine Round.ite (fun hlt => ?_) (fun hge => ?_)
    · have hlt : i < (x1.length : Int) := of_decide_eq_true hlt
      obtain ⟨v, hv, hv'⟩ := idx_at h0 hlt
      have hd := drop_cons hv'
      refine Round.at hv (Round.bind (e96 _) (Round.ite (fun hb => ?_) (fun hb => ?_)))
      · have hb : okV v = false := by simpa [okV] using hb
        have h3 : x1.all okV = false := by rw [h2, hd]; simp [hb]
        rw [h3]
        exact Round.done (Evt.some _)
      · have hb : okV v = true := by simpa [okV] using hb
        have hw : wr .i64 (i + 1) = i + 1 := wrap_id (by omega) (by omega)
        refine Round.again _ ⟨⟨rfl, ?_, ?_, ?_⟩, ?_⟩ <;> simp only [hw]
        · omega
        · omega
        · rw [h2, hd, show (i + 1).toNat = i.toNat + 1 by omega]
          simp [hb]
        · omega
    · have hge : ¬ i < (x1.length : Int) := by simpa using hge
      have : x1.drop i.toNat = [] := List.drop_of_length_le (by omega)
      rw [h2, this]
      exact Round.done (Evt.some _)
/- spec.l00Min -/
theorem e87 (a b : Int) : Evt (fun n => call T C n 87 (a, b, ())) ((min a b, ()), ()) := by
  refine Evt.next (Evt.ite (fun h => ?_) (fun h => ?_)) (fun n => r87 n a b)
  · have h : a < b := of_decide_eq_true h
    rw [show min a b = a by omega]; exact Evt.some _
  · have h : ¬ a < b := by simpa using h
    rw [show min a b = b by omega]; exact Evt.some _
/- spec.l00Max -/
theorem e104 (a b : Int) : Evt (fun n => call T C n 104 (a, b, ())) ((max a b, ()), ()) := by
  refine Evt.next (Evt.ite (fun h => ?_) (fun h => ?_)) (fun n => r104 n a b)
  · have h : a > b := of_decide_eq_true h
    rw [show max a b = a by omega]; exact Evt.some _
  · have h : ¬ a > b := by simpa using h
    rw [show max a b = b by omega]; exact Evt.some _
/- spec.l01Range -/
theorem e122 (l : List Int) (hr : Rng l) (h0 : 0 < (l.length : Int)) : Evt (fun n => call T C n 122 (l, ())) ((mnL l, mxL l, ()), ()) := by
  have hlen := hr.len'
  obtain ⟨v0, hv0⟩ := at_of (l := l) (Int.le_refl 0) h0
  refine Evt.next (Evt.at hv0.idx ?_) (fun n => r122 n l)
  rw [hr.id hv0.mem]
  have hh := (head_at hv0).1
  refine for_evt' 1 (l.length : Int) (fun i (_ : Unit) => (l, mnF (l.take i.toNat) v0, mxF (l.take i.toNat) v0, i, ())) (fun _ _ => True) (b0 := ()) (by
    have := (head_at hv0).2
    show _ = (l, mnF (l.take 1) v0, mxF (l.take 1) v0, 1, ())
    rw [this]; simp [mnF, mxF]) (by omega) trivial ?_ ?_
  · intro i _ h2 h3 _
    obtain ⟨v, hv⟩ := at_of (l := l) (show 0 ≤ i by omega) h3
    simp only [wrap_id (x := i + 1) (by omega) (by omega)]
    refine Round.yes (decide_eq_true h3) (Round.at hv.idx (Round.bind (e87 _ _) (Round.at hv.idx (Round.bind (e104 _ _) (Round.again _ ⟨(), ?_, trivial⟩)))))
    rw [hv.take, mnF_snoc, mxF_snoc, hr.id hv.mem]
  · intro _ _
    have e1 : mnF (l.take (l.length : Int).toNat) v0 = mnL l := by rw [take_all, mnL, hh]
    have e2 : mxF (l.take (l.length : Int).toNat) v0 = mxL l := by rw [take_all, mxL, hh]
    simp only [e1, e2]
    exact Round.no (by simp) (Round.done (Evt.some _))
/- spec.l07Moves -/
theorem e110 (l : List Int) (hr : Rng l) : Evt (fun n => call T C n 110 (l, ())) ((mv l, ()), ()) := by
  have hlen := hr.len'
  refine Evt.next (Evt.bind (e52 l (by omega)) ?_) (fun n => r110 n l)
  unfold mv
  cases hok : okC l with
  | false => exact Evt.yes rfl (Evt.some _)
  | true =>
    have := okC_len hok
    exact Evt.no (by simp) (Evt.bind (e122 l hr (by omega)) (Evt.some _))
/- spec.l07Ok -/
theorem e80 (m : Mch) (h : RngM m) : Evt (fun n => call T C n 80 (m, ())) ((okM m, ()), ()) := by
  have hp := h.p.len'
  refine Evt.next (Evt.bind (e110 m.1 h.x) ?_) (fun n => r80 n m)
  unfold okM
  cases mv m.1 with
  | false => exact Evt.no (by simp) (Evt.some _)
  | true =>
    refine Evt.yes rfl (Evt.bind (e110 m.2.1 h.y) ?_)
    cases mv m.2.1 with
    | false => exact Evt.no (by simp) (Evt.some _)
    | true =>
      refine Evt.yes rfl (Evt.bind (e52 m.2.2.1 (by omega)) ?_)
      cases okC m.2.2.1 with
      | false => exact Evt.no (by simp) (Evt.some _)
      | true =>
        refine Evt.yes rfl ?_
        cases ((m.1.length : Int) == (m.2.1.length : Int)) with
        | false => exact Evt.no (by simp) (Evt.some _)
        | true => exact Evt.yes rfl (Evt.some _)
/- spec.l07Stops -/
theorem e111 (m : Mch) (G : GoodM m) : Evt (fun n => call T C n 111 (m, ())) ((stopsM m, ()), ()) := by
  have lx := okC_len G.x
  have e1 := G.xy
  have e2 := G.xp
  refine Evt.next ?_ (fun n => r111 n m)
  refine for_evt' 0 (m.1.length : Int) (fun i (_ : Unit) => (m, (List.range i.toNat).map (stopM m), i, ())) (fun _ _ => True) (b0 := ()) rfl (by omega) trivial ?_ ?_
  · intro i _ h2 h3 _
    have hx := g_idx (l := m.1) h2 h3
    have hy := g_idx (l := m.2.1) h2 (by omega)
    have hp := g_idx (l := m.2.2.1) h2 (by omega)
    refine Round.yes (decide_eq_true h3) (Round.at hx.idx (Round.at hy.idx (Round.at (v := (0 : Int)) rfl (Round.at (v := (0 : Int)) rfl (Round.at hp.idx (Round.chk (decide_eq_true (by simp; omega)) (Round.again _ ⟨(), ?_, trivial⟩)))))))
    rw [wr_succ h2 h3 (by omega), show (i + 1).toNat = i.toNat + 1 by omega, List.range_succ, List.map_append]
    rfl
  · intro _ _
    exact Round.no (by simp) (Round.done (Evt.some _))
/- spec.l01Size -/
theorem e55 {a : Int} (h1 : -1000000000000 ≤ a) (h2 : a ≤ 1000000000000) : Evt (fun n => call T C n 55 (a, ())) ((siz a, ()), ()) := by
  refine Evt.next ?_ (fun n => r55 n a)
  unfold siz
  rw [wrap_id (x := 0 - a) (by omega) (by omega)]
  refine Evt.ite (fun h => ?_) (fun h => ?_)
  · rw [if_pos (of_decide_eq_true h), Int.zero_sub]; exact Evt.some _
  · rw [if_neg (by simpa using h)]; exact Evt.some _
/- spec.l07Far -/
theorem e127 {a b : Mk} (ha : OnP a) (hb : OnP b) : Evt (fun n => call T C n 127 (a, b, ())) ((far a b, ()), ()) := by
  have hx := ha.x; have hy := ha.y; have kx := hb.x; have ky := hb.y
  refine Evt.next ?_ (fun n => r127 n a b)
  refine Evt.chk rfl (Evt.at ha.get0 (Evt.chk rfl (Evt.at hb.get0 ?_)))
  rw [wrap_id (x := g a 0) (by omega) (by omega), wrap_id (x := g b 0) (by omega) (by omega), wrap_id (by omega) (by omega)]
  refine Evt.bind (e55 (by omega) (by omega)) (Evt.chk rfl (Evt.at ha.get1 (Evt.chk rfl (Evt.at hb.get1 ?_))))
  rw [wrap_id (x := g a 1) (by omega) (by omega), wrap_id (x := g b 1) (by omega) (by omega), wrap_id (by omega) (by omega)]
  exact Evt.bind (e55 (by omega) (by omega)) (Evt.bind (e104 _ _) (Evt.some _))
/- spec.l01Near -/
theorem e128 {x n : Int} (hn : 0 < n) (hn' : n ≤ 10000000000000) (h1 : -2000000000000000000 ≤ x) (h2 : x ≤ 2000000000000000000) : Evt (fun m => call T C m 128 (x, n, ())) ((nr x n, ()), ()) := by
  have hbd := ediv_bd (a := 2 * x + n) (b := 2 * n) (M := 4500000000000000000) (by omega) (by omega) (by omega) (by omega)
  have he := floorDiv_eq (a := 2 * x + n) (b := 2 * n) (by omega)
  refine Evt.next ?_ (fun m => r128 m x n)
  rw [wrap_id (x := 2 * n) (by omega) (by omega), wrap_id (x := 2 * x) (by omega) (by omega), wrap_id (x := 2 * x + n) (by omega) (by omega)]
  refine Evt.chk (bne_pos (by omega)) (Evt.chk (bne_pos (by omega)) (Evt.ite (fun h => ?_) (fun h => ?_)))
  · have h : Int.tmod (2 * x + n) (2 * n) < 0 := of_decide_eq_true h
    rw [if_pos h] at he
    refine (Evt.some _).of_eq fun m => ?_
    rw [wrap_id (x := Int.tdiv (2 * x + n) (2 * n)) (by omega) (by omega), wrap_id (by omega) (by omega), he]
    rfl
  · have h : ¬ Int.tmod (2 * x + n) (2 * n) < 0 := by simpa using h
    rw [if_neg h] at he
    refine (Evt.some _).of_eq fun m => ?_
    rw [wrap_id (x := Int.tdiv (2 * x + n) (2 * n)) (by omega) (by omega), he]
    rfl
/- spec.l07Line -/
theorem e123 {a b : Mk} (ha : OnP a) (hb : OnP b) : Evt (fun n => call T C n 123 (a, b, ())) ((lineM a b, ()), ()) := by
  obtain ⟨f0, f1, f2⟩ := far_bd ha hb
  refine Evt.next (Evt.bind (e127 ha hb) (Evt.ite (fun h => ?_) (fun h => ?_))) (fun n => r123 n a b)
  · have h : far a b = 0 := by simpa using h
    unfold lineM; rw [if_pos h]; exact Evt.some _
  have h : far a b ≠ 0 := by simpa using h
  have e : lineM a b = (List.range (far a b + 1).toNat).map fun k => ptM a b (k : Nat) := by unfold lineM; rw [if_neg h]
  rw [e]
  refine for_evt' 0 (far a b + 1) (fun i (_ : Unit) => (a, b, far a b, (List.range i.toNat).map (fun k => ptM a b (k : Nat)), i, ())) (fun _ _ => True) (b0 := ()) rfl (by omega) trivial ?_ ?_
  · intro i _ h2 h3 _
    refine Round.yes (decide_eq_true (show i ≤ far a b by omega)) ?_
    refine for_round' 0 2 (fun j (m : List Int) => (a, b, far a b, (List.range i.toNat).map (fun k => ptM a b (k : Nat)), i, m, j, ())) (fun j m => m = ((List.range j.toNat).map (fun u => pt a b i u)) ++ List.replicate (2 - j.toNat) 0) (b0 := List.replicate 2 0) rfl (by omega) (by simp) ?_ ?_
    · intro j m j0 j1 hm
      have hj : j = 0 ∨ j = 1 := by omega
      have hga := g_idx (l := a) j0 (by have := ha.len; omega)
      have hgb := g_idx (l := b) j0 (by have := hb.len; omega)
      have hu : j.toNat = 0 ∨ j.toNat = 1 := by omega
      have ba : 0 ≤ g a j.toNat ∧ g a j.toNat ≤ 63 := by rcases hu with e | e <;> rw [e]; exact ha.x; exact ha.y
      have bb : 0 ≤ g b j.toNat ∧ g b j.toNat ≤ 63 := by rcases hu with e | e <;> rw [e]; exact hb.x; exact hb.y
      have hk := kd_bd ha hb h2 (by omega) hu
      have hp := pt_bd ha hb h h2 (by omega) hu
      have hm2 : m.length = 2 := by rw [hm]; simp; omega
      have hgm := g_idx (l := m) j0 (by omega)
      show Round (fun n ag => if decide (j < 2) = true then _ else _) _ _
      simp only [wrap_id (x := g a j.toNat) (by omega) (by omega), wrap_id (x := g b j.toNat) (by omega) (by omega), wrap_id (x := j + 1) (by omega) (by omega)]
      refine Round.yes (decide_eq_true j1) (Round.chk (decide_eq_true (by omega)) (Round.at hga.get (Round.chk (decide_eq_true (by omega)) (Round.at hgb.get (Round.chk (decide_eq_true (by omega)) (Round.at hga.get ?_))))))
      simp only [wrap_id (x := g a j.toNat) (by omega) (by omega), wrap_id (x := g b j.toNat) (by omega) (by omega), wrap_id (x := g b j.toNat - g a j.toNat) (by omega) (by omega), wrap_id (x := i * (g b j.toNat - g a j.toNat)) (by omega) (by omega)]
      refine Round.bind (e128 (by omega) (by omega) (by omega) (by omega)) (Round.chk (decide_eq_true (by omega)) (Round.at hgm.get (Round.inr _ ⟨_, rfl, ?_⟩)))
      have hpt : g a j.toNat + nr (i * (g b j.toNat - g a j.toNat)) (far a b) = pt a b i j.toNat := rfl
      show m.set j.toNat (wr .i16 (wr .i64 (g a j.toNat + nr (i * (g b j.toNat - g a j.toNat)) (far a b)))) = _
      rw [hpt, wrap_id (by omega) (by omega), wrap16 (by omega) (by omega), hm]
      rcases hj with rfl | rfl
      · rfl
      · rfl
    · intro m hm
      have hm : m = ptM a b i := hm
      refine Round.no (by simp) (Round.chk (decide_eq_true (by simp; omega)) (Round.inl _ ⟨(), ?_, trivial⟩))
      rw [hm, wrap_id (x := i + 1) (by omega) (by omega), show (i + 1).toNat = i.toNat + 1 by omega, List.range_succ, List.map_append]
      simp [show ((i.toNat : Nat) : Int) = i by omega]
  · intro _ _
    exact Round.no (by simp; omega) (Round.done (Evt.some _))
/- spec.l07Ink -/
theorem e112 {p : List Int} {a b : Mk} (hp : p.length = 64) (ha : OnP a) (hb : OnP b) : Evt (fun n => call T C n 112 (p, a, b, ())) ((), (inkL p (lineM a b), ())) := by
  have hl := lineM_len ha hb
  refine Evt.next (Evt.bind (e123 ha hb) ?_) (fun n => r112 n p a b)
  refine for_evt' 0 ((lineM a b).length : Int) (fun i (_ : Unit) => (inkL p ((lineM a b).take i.toNat), lineM a b, i, ())) (fun _ _ => True) (b0 := ()) rfl (by omega) trivial ?_ ?_
  · intro i _ h2 h3 _
    obtain ⟨m, hm⟩ := at_of h2 h3
    have ho := lineM_on ha hb m hm.mem
    have hx := ho.x; have hy := ho.y
    have hq : (inkL p ((lineM a b).take i.toNat)).length = 64 := by rw [inkL_len, hp]
    have hgp := g_idx (l := inkL p ((lineM a b).take i.toNat)) hy.1 (by omega)
    refine Round.yes (decide_eq_true h3) (Round.at hm.idx (Round.at ho.idx1 (Round.chk (decide_eq_true (by omega)) (Round.at hgp.get (Round.at hm.idx (Round.at ho.idx0 ?_))))))
    rw [wrapU64 (x := g m 0) (by omega) (by omega)]
    refine Round.chk (decide_eq_true hx.1) (Round.chk (decide_eq_true (by omega)) (Round.at hgp.get (Round.again _ ⟨(), ?_, trivial⟩)))
    rw [wr_succ h2 h3 (by omega), hm.take, inkL_snoc]
    rfl
  · intro _ _
    simp only [take_all]
    exact Round.no (by simp) (Round.done (Evt.some _))
/- spec.l07Draw -/
theorem e81 (m : Mch) (hr : RngM m) (G : GoodM m) : Evt (fun n => call T C n 81 (m, ())) ((drawTo m m.1.length, ()), ()) := by
  have lx := okC_len G.x
  have hl : (stopsM m).length = m.1.length := by simp [stopsM]
  refine Evt.next (Evt.bind (e111 m G) ?_) (fun n => r81 n m)
  refine for_evt' 0 (m.1.length : Int) (fun i (_ : Unit) => (List.replicate 64 0, stopsM m, drawTo m i.toNat, i, ())) (fun _ _ => True) (b0 := ()) rfl (by omega) trivial ?_ ?_
  · intro i _ h2 h3 _
    obtain ⟨k, rfl⟩ : ∃ k : Nat, i = k := ⟨i.toNat, by omega⟩
    have hk : k < m.1.length := by omega
    have hs := stopsM_at m hk
    have hm1 := Nat.mod_lt (k + 1) (show m.1.length > 0 by omega)
    have ht := stopsM_at m hm1
    have hmod : Int.tmod (wr .i64 ((k : Int) + 1)) ((stopsM m).length : Int) = (((k + 1) % m.1.length : Nat) : Int) := by rw [wr_succ h2 h3 (by omega), hl, show (k : Int) + 1 = ((k + 1 : Nat) : Int) by omega, ← Int.ofNat_tmod]
    have o1 := stop_on hr G hk
    have o2 := stop_on hr G hm1
    show Round (fun n ag => if decide ((k : Int) < ((stopsM m).length : Int)) = true then _ else _) _ _
    refine Round.yes (decide_eq_true (by omega)) (Round.chk (bne_pos (show 0 < ((stopsM m).length : Int) by omega)) ?_)
    simp only [hmod]
    refine Round.at ht.idx (Round.at hs.idx ?_)
    have e : drawTo m ((k : Int) + 1).toNat = drawTo m (k + 1) := by rw [show ((k : Int) + 1).toNat = k + 1 by omega]
    have again : ∀ d, d = drawTo m (k + 1) → ∃ b' : Unit, ((List.replicate 64 (0 : Int), stopsM m, d, wr .i64 ((k : Int) + 1), ()) : List Int × List Stp × List Int × Int × Unit) = (List.replicate 64 0, stopsM m, drawTo m ((k : Int) + 1).toNat, (k : Int) + 1, ()) ∧ True := fun d hd => ⟨(), by rw [hd, e, wr_succ h2 h3 (by omega)], trivial⟩
    refine Round.ite (fun c => ?_) (fun c => ?_)
    · have c : (stopM m k).2.1 = false := by simpa using c
      refine Round.again _ (again _ ?_)
      show drawTo m k = drawTo m (k + 1)
      rw [drawTo, c]; rfl
    have c : (stopM m k).2.1 = true := by simpa using c
    have hlen : (drawTo m k).length = 64 := drawTo_len m k
    refine Round.at hs.idx (Round.at hs.idx (Round.bind (e112 (p := drawTo m k) hlen o1 o1) ?_))
    rw [lineM_same]
    refine Round.ite (fun c2 => ?_) (fun c2 => ?_)
    · refine Round.at hs.idx (Round.bind (e112 (p := inkP (drawTo m k) (stopM m k).1) (by rw [inkP_len, hlen]) o1 o2) (Round.again _ (again _ ?_)))
      rw [drawTo, if_pos c, if_pos c2]
    · refine Round.again _ (again _ ?_)
      rw [drawTo, if_pos c, if_neg c2]
      rfl
  · intro _ _
    exact Round.no (by simp [hl]) (Round.done (Evt.some _))
/- spec.CheckMachine -/
theorem e38 (m : Mch) (hr : RngM m) {p : List Int} (hp : p.length = 64) (hv : W64 p) : Evt (fun n => call T C n 38 (m, p, ())) (cmR m p, ()) := by
  refine Evt.next (Evt.bind (e80 m hr) ?_) (fun n => r38 n m p)
  unfold cmR
  cases hM : okM m with
  | false => exact Evt.yes rfl (Evt.some _)
  | true =>
    refine Evt.no (by simp) (Evt.bind (e81 m hr (goodM hM)) ?_)
    obtain ⟨d, hd⟩ : ∃ d, d = drawTo m m.1.length := ⟨_, rfl⟩
    have ld : d.length = 64 := by rw [hd, drawTo_len]
    have hdv : W64 d := by rw [hd]; exact drawTo_el m _
    rw [← hd]
    obtain ⟨W, hWd⟩ : ∃ W, W = dif p d := ⟨_, rfl⟩
    have hW : ∀ j, j < 64 → W j < 18446744073709551616 := fun j hj => by rw [hWd]; exact dif_lt hv hdv hp ld hj
    rw [← hWd]
    refine for_evt' 0 64 (fun y (_ : Unit) => (p, List.replicate 2 (0 : Int), d, ((allS W y.toNat).1 : Int), (allS W y.toNat).2, y, ())) (fun _ _ => True) (b0 := ()) rfl (by omega) trivial ?_ ?_
    · intro y _ h2 h3 _
      obtain ⟨k, rfl⟩ : ∃ k : Nat, y = k := ⟨y.toNat, by omega⟩
      have hk : k < 64 := by omega
      have hxk := (dif_xor hv hdv hp ld hk).1
      rw [← hWd] at hxk
      have g1 := g_idx (l := p) (i := (k : Int)) (by omega) (by omega)
      have g2 := g_idx (l := d) (i := (k : Int)) (by omega) (by omega)
      have hWk := hW k hk
      rw [Int.toNat_natCast] at g1 g2
      refine Round.yes (decide_eq_true h3) ?_
      simp only [Int.toNat_natCast]
      refine for_round' 0 64 (fun x (_ : Unit) => (p, List.replicate 2 (0 : Int), d, ((rowS (W k) k (allS W k) x.toNat).1 : Int), (rowS (W k) k (allS W k) x.toNat).2, (k : Int), x, ())) (fun _ _ => True) (b0 := ()) rfl (by omega) trivial ?_ ?_
      · intro x _ h4 h5 _
        obtain ⟨i, rfl⟩ : ∃ i : Nat, x = i := ⟨x.toNat, by omega⟩
        have hc := rowS_cnt (W k) k (allS W k) i
        have hc2 := allS_cnt W k
        have hc3 := tot_le W k
        have hc4 := bct_le (W k) i
        have n1 := g1.get
        have n2 := g2.get
        have hbit : bitsI .and .u64 (shr_ .u64 (bitsI .xor .u64 (g p k) (g d k)) (wr .u64 (i : Int))) (1 : Int) = ((W k / 2 ^ i % 2 : Nat) : Int) := by
          rw [hxk, wrU (x := (i : Int)) (by omega) (by omega), shr_nat (by omega), show (1 : Int) = ((1 : Nat) : Int) from rfl, and_nat (Nat.lt_of_le_of_lt (Nat.div_le_self _ _) hWk) (by omega), Nat.and_one_is_mod]
        refine Round.yes (decide_eq_true h5) (Round.chk (decide_eq_true (show 0 ≤ (k : Int) ∧ (k : Int) < ((64 : Nat) : Int) by omega)) (Round.at n1 (Round.chk (decide_eq_true (show 0 ≤ (k : Int) ∧ (k : Int) < ((64 : Nat) : Int) by omega)) (Round.at n2 (Round.chk (decide_eq_true (wrap_u64 _).1) ?_)))))
        simp only [hbit, Int.toNat_natCast, wrap16 (x := (i : Int) + 1) (by omega) (by omega)]
        have eS : ((i : Int) + 1).toNat = i + 1 := by omega
        refine Round.ite (fun hb => ?_) (fun hb => ?_)
        · have hb : W k / 2 ^ i % 2 = 0 := by
            have := beq_iff_eq.1 hb
            omega
          refine Round.inr _ ⟨(), ?_, trivial⟩
          rw [eS, rowS, if_pos hb]
        · have hb : ¬ W k / 2 ^ i % 2 = 0 := fun h => by
            rw [h] at hb
            exact absurd hb (by decide)
          refine Round.ite (fun hz => ?_) (fun hz => ?_)
          · have hz : (rowS (W k) k (allS W k) i).1 = 0 := by
              have := beq_iff_eq.1 hz
              omega
            refine Round.at rfl (Round.at rfl (Round.inr _ ⟨(), ?_, trivial⟩))
            rw [eS, rowS, if_neg hb, hz]
            rfl
          · have hz : ¬ (rowS (W k) k (allS W k) i).1 = 0 := fun h => by
              rw [h] at hz
              exact absurd hz (by decide)
            refine Round.inr _ ⟨(), ?_, trivial⟩
            rw [eS, rowS, if_neg hb, if_neg hz, wrap_id (x := (((rowS (W k) k (allS W k) i).1 : Nat) : Int) + 1) (by omega) (by omega)]
            rfl
      · intro _ _
        refine Round.no (by simp) (Round.inl _ ⟨(), ?_, trivial⟩)
        rw [wrap16 (x := (k : Int) + 1) (by omega) (by omega), show ((k : Int) + 1).toNat = k + 1 by omega]
        rfl
    · intro _ _
      refine Round.no (by simp) (Round.done ?_)
      show Evt (fun n => if (((allS W 64).1 : Int) == 0) = true then _ else _) _
      refine Evt.ite (fun hz => ?_) (fun hz => ?_)
      · have hz : (allS W 64).1 = 0 := by
          have := beq_iff_eq.1 hz
          omega
        rw [if_pos rfl, if_pos hz]
        exact Evt.some _
      · have hz : ¬ (allS W 64).1 = 0 := fun h => by
          rw [h] at hz
          exact absurd hz (by decide)
        rw [if_pos rfl, if_neg hz]
        exact Evt.some _
/- (impl.Cam).steps -/
theorem e62 (a : List Int) : Evt (fun n => call T C n 62 (a, ())) (((a.length : Int), ()), ()) := Evt.next (Evt.some _) (fun n => r62 n a)
/- impl.inRange -/
theorem e60 (a b c : Int) : Evt (fun n => call T C n 60 (a, b, c, ())) ((inR a b c, ()), ()) := by
  refine Evt.next ?_ (fun n => r60 n a b c)
  refine Evt.ite (fun h => ?_) (fun h => ?_)
  · refine (Evt.some _).of_eq fun n => ?_
    have h : b ≤ a := of_decide_eq_true h
    simp [inR, h]
    rfl
  · refine (Evt.some _).of_eq fun n => ?_
    have h : ¬ b ≤ a := by simpa using h
    simp [inR, h]
    rfl
/- impl.isSteps -/
theorem e97 (a : Int) : Evt (fun n => call T C n 97 (a, ())) ((inR a 8 360, ()), ()) := Evt.next (Evt.bind (e60 a 8 360) (Evt.some _)) (fun n => r97 n a)
/- impl.isLift -/
theorem e100 (a : Int) : Evt (fun n => call T C n 100 (a, ())) ((inR a 0 10000, ()), ()) := Evt.next (Evt.bind (e60 a 0 10000) (Evt.some _)) (fun n => r100 n a)
/- impl.ValidCam$1 -/
theorem e99 (v : Int) : Evt (fun n => call T C n 99 (v, ())) ((!okV v, ()), ()) := Evt.next (Evt.bind (e100 _) (Evt.some _)) (fun n => r99 n v)
/- slices.IndexFunc[impl.Cam,int16]{impl.ValidCam$1} -/
theorem e120 (l : List Int) (hl : (l.length : Int) ≤ 140737488351232) : Evt (fun n => call T C n 120 (l, ((), ()), ())) ((fi (fun v => !okV v) l 0, ()), ()) := by
  refine Evt.next ?_ (fun n => r120 n l ((), ()))
  refine loop_evt (fun (x : List Int × (Unit × Unit) × Int × Int × Unit) => x.1 = l ∧ x.2.2.1 = (l.length : Int) ∧ 0 ≤ x.2.2.2.1 ∧ x.2.2.2.1 ≤ (l.length : Int) ∧ fi (fun v => !okV v) l 0 = fi (fun v => !okV v) (l.drop x.2.2.2.1.toNat) x.2.2.2.1) (fun (x : List Int × (Unit × Unit) × Int × Int × Unit) => ((l.length : Int) - x.2.2.2.1).toNat) (x := (l, ((), ()), (l.length : Int), 0, ())) ⟨rfl, rfl, Int.le_refl _, by simp, by simp⟩ ?_
  rintro ⟨x1, u, m, i, _⟩ ⟨h', hm, h0, h1, h2⟩
  simp only at h' hm h0 h1 h2
  subst h'; subst hm
  refine Round.ite (fun hlt => ?_) (fun hge => ?_)
  · have hlt : i < (x1.length : Int) := of_decide_eq_true hlt
    obtain ⟨v, hv, hv'⟩ := idx_at h0 hlt
    have hd := drop_cons hv'
    refine Round.at hv (Round.bind (e99 _) (Round.ite (fun hb => ?_) (fun hb => ?_)))
    · have hb : okV v = false := by simpa using hb
      have h3 : fi (fun v => !okV v) x1 0 = i := by rw [h2, hd]; simp [fi, hb]
      rw [h3]
      exact Round.done (Evt.some _)
    · have hb : okV v = true := by simpa using hb
      have hw : wr .i64 (i + 1) = i + 1 := wrap_id (by omega) (by omega)
      refine Round.again _ ⟨⟨rfl, rfl, ?_, ?_, ?_⟩, ?_⟩ <;> simp only [hw]
      · omega
      · omega
      · rw [h2, hd, show (i + 1).toNat = i.toNat + 1 by omega]
        simp [fi, hb]
      · omega
  · have hge : ¬ i < (x1.length : Int) := by simpa using hge
    have : x1.drop i.toNat = [] := List.drop_of_length_le (by omega)
    rw [h2, this]
    exact Round.done (Evt.some _)
/- slices.ContainsFunc[impl.Cam,int16]{impl.ValidCam$1} -/
theorem e98 (l : List Int) (hl : (l.length : Int) ≤ 140737488351232) : Evt (fun n => call T C n 98 (l, ((), ()), ())) ((l.any (fun v => !okV v), ()), ()) := by
  refine Evt.next (Evt.bind (e120 l hl) ((Evt.some _).of_eq fun n => ?_)) (fun n => r98 n l ((), ()))
  simp only [fi_any _ l 0 (Int.le_refl _)]
  rfl
/- impl.ValidCam -/
theorem e59 (l : List Int) (hl : (l.length : Int) ≤ 140737488351232) : Evt (fun n => call T C n 59 (l, ())) ((okC l, ()), ()) := by
  refine Evt.next (Evt.bind (e62 l) (Evt.bind (e97 _) ?_)) (fun n => r59 n l)
  refine Evt.ite (fun h => ?_) (fun h => ?_)
  · refine Evt.bind (e98 l hl) ((Evt.some _).of_eq fun n => ?_)
    have h : inR (l.length : Int) 8 360 = true := h
    have : okC l = !l.any (fun v => !okV v) := by simp [okC, h, List.any_eq_not_all_not]
    rw [this]
    rfl
  · refine (Evt.some _).of_eq fun n => ?_
    have h : inR (l.length : Int) 8 360 = false := by simpa using h
    simp [okC, h]
    rfl
/- slices.Max[impl.Cam,int16] -/
theorem e113 (l : List Int) (hr : Rng l) (h0 : 0 < (l.length : Int)) : Evt (fun n => call T C n 113 (l, ())) ((mxL l, ()), ()) := by
  have hlen := hr.len'
  obtain ⟨v0, hv0⟩ := at_of (l := l) (Int.le_refl 0) h0
  refine Evt.next (Evt.no (by simp; omega) (Evt.at hv0.idx ?_)) (fun n => r113 n l)
  have hh := (head_at hv0).1
  refine for_evt' 1 (l.length : Int) (fun i (_ : Unit) => (l, mxF (l.take i.toNat) v0, i, ())) (fun _ _ => True) (b0 := ()) (by
    have := (head_at hv0).2
    show _ = (l, mxF (l.take 1) v0, 1, ())
    rw [this]; simp [mxF]) (by omega) trivial ?_ ?_
  · intro i _ h2 h3 _
    obtain ⟨v, hv⟩ := at_of (l := l) (show 0 ≤ i by omega) h3
    simp only [wrap_id (x := i + 1) (by omega) (by omega)]
    refine Round.yes (decide_eq_true h3) (Round.at hv.idx (Round.again _ ⟨(), ?_, trivial⟩))
    rw [hv.take, mxF_snoc]
    congr 2
    split <;> omega
  · intro _ _
    have e2 : mxF (l.take (l.length : Int).toNat) v0 = mxL l := by rw [take_all, mxL, hh]
    simp only [e2]
    exact Round.no (by simp) (Round.done (Evt.some _))
/- impl.ValidMachine -/
theorem e82 (m : Mch) (h : RngM m) : Evt (fun n => call T C n 82 (m, ())) ((okM m, ()), ()) := by
  have hx := h.x.len'
  have hy := h.y.len'
  have hp := h.p.len'
  refine Evt.next (Evt.at (x := ([] : List Int)) rfl (Evt.at (x := ([] : List Int)) rfl ?_)) (fun n => r82 n m)
  show Evt (fun n => loopK _ n (m, [m.1, m.2.1], 0, ())) _
  have one : ∀ (c : List Int) (hr : Rng c) (i : Int) (rest : Bool), i = 0 ∨ i = 1 → idx [m.1, m.2.1] i = some c → okM m = (mv c && ((c.length : Int) == (m.2.2.1.length : Int)) && rest) → ∀ {P : (Mch × List (List Int) × Int × Unit) → Prop}, (mv c = true → c.length = m.2.2.1.length → P (m, [m.1, m.2.1], wr .i64 (i + 1), ())) →
      Round (σ := Mch × List (List Int) × Int × Unit) (fun n ag => (idx [m.1, m.2.1] i).bind fun v6 => (call T C n 59 (v6, ())).bind fun r7 => if (!r7.1.1) = true then some ((false, ()), ()) else if (bif false then true else ((v6.length : Int) != (m.2.2.1.length : Int))) = true then some ((false, ()), ()) else (call T C n 113 (v6, ())).bind fun r8 => if (bif false then true else decide (r8.1.1 ≥ 64)) = true then some ((false, ()), ()) else ag (m, [m.1, m.2.1], wr .i64 (i + 1), ())) ((okM m, ()), ()) P := by
    intro c hr i rest _ hi he P hP
    have hc := hr.len'
    refine Round.at hi (Round.bind (e59 c (by omega)) ?_)
    cases hok : okC c with
    | false =>
      have : okM m = false := by rw [he]; simp [mv, hok]
      rw [this]
      exact Round.yes rfl (Round.done (Evt.some _))
    | true =>
      have hl := okC_len hok
      refine Round.no (by simp) (Round.ite (fun hb => ?_) (fun hb => ?_))
      · have hb : ¬ (c.length : Int) = m.2.2.1.length := by simpa using hb
        have : okM m = false := by
          rw [he]
          have : ((c.length : Int) == (m.2.2.1.length : Int)) = false := by simpa using hb
          simp [this]
        rw [this]
        exact Round.done (Evt.some _)
      · have hb : c.length = m.2.2.1.length := by
          have : (c.length : Int) = m.2.2.1.length := by simpa using hb
          omega
        refine Round.bind (e113 c hr (by omega)) (Round.ite (fun hg => ?_) (fun hg => ?_))
        · have hg : mxL c ≥ 64 := of_decide_eq_true hg
          have : okM m = false := by
            rw [he]
            have : mv c = false := by simp [mv]; intro; omega
            simp [this]
          rw [this]
          exact Round.done (Evt.some _)
        · have hg : ¬ mxL c ≥ 64 := by simpa using hg
          exact Round.again _ (hP (by simp [mv, hok]; omega) hb)
  refine for_evt' 0 2 (fun i (_ : Unit) => (m, [m.1, m.2.1], i, ())) (fun i _ => (0 < i → mv m.1 = true ∧ m.1.length = m.2.2.1.length) ∧ (1 < i → mv m.2.1 = true ∧ m.2.1.length = m.2.2.1.length)) (b0 := ()) rfl (by omega) ⟨by omega, by omega⟩ ?_ ?_
  · intro i _ h2 h3 ⟨p1, p2⟩
    refine Round.yes (decide_eq_true h3) ?_
    have hi : i = 0 ∨ i = 1 := by omega
    rcases hi with rfl | rfl
    · refine one m.1 h.x 0 (mv m.2.1 && okC m.2.2.1 && ((m.1.length : Int) == (m.2.1.length : Int))) (.inl rfl) rfl ?_ (fun q1 q2 => ⟨(), rfl, fun _ => ⟨q1, q2⟩, by omega⟩)
      unfold okM
      cases mv m.1 <;> cases mv m.2.1 <;> cases okC m.2.2.1 <;> cases ((m.1.length : Int) == (m.2.1.length : Int)) <;> cases ((m.1.length : Int) == (m.2.2.1.length : Int)) <;> rfl
    · obtain ⟨p3, p4⟩ := p1 (by omega)
      refine one m.2.1 h.y 1 (okC m.2.2.1) (.inr rfl) rfl ?_ (fun q1 q2 => ⟨(), rfl, fun _ => ⟨p3, p4⟩, fun _ => ⟨q1, q2⟩⟩)
      unfold okM
      rw [p3, p4]
      have : ((m.2.2.1.length : Int) == (m.2.1.length : Int)) = ((m.2.1.length : Int) == (m.2.2.1.length : Int)) := BEq.comm
      rw [this]
      cases mv m.2.1 <;> cases okC m.2.2.1 <;> cases ((m.2.1.length : Int) == (m.2.2.1.length : Int)) <;> simp
  · intro _ ⟨p1, p2⟩
    obtain ⟨q1, q2⟩ := p1 (by omega)
    obtain ⟨q3, q4⟩ := p2 (by omega)
    have : okM m = okC m.2.2.1 := by
      unfold okM
      rw [q1, q3, q2, q4]
      simp
    rw [this]
    exact Round.no (by simp) (Round.done (Evt.bind (e59 m.2.2.1 (by omega)) (Evt.some _)))
/- (impl.Machine).steps -/
theorem e124 (m : Mch) : Evt (fun n => call T C n 124 (m, ())) (((m.1.length : Int), ()), ()) := Evt.next (Evt.bind (e62 m.1) (Evt.some _)) (fun n => r124 n m)
/- impl.floorDiv -/
theorem e102 {a b : Int} (hb : 0 < b) (h1 : -4500000000000000000 ≤ a) (h2 : a ≤ 4500000000000000000) : Evt (fun n => call T C n 102 (a, b, ())) ((a / b, ()), ()) := by
  have hbd := ediv_bd hb h1 h2 (by omega)
  have he := floorDiv_eq (a := a) hb
  refine Evt.next (Evt.chk (bne_pos hb) (Evt.chk (bne_pos hb) (Evt.ite (fun h => ?_) (fun h => ?_)))) (fun n => r102 n a b)
  · have h : Int.tmod a b < 0 := of_decide_eq_true h
    rw [if_pos h] at he
    refine (Evt.some _).of_eq fun n => ?_
    rw [wrap_id (x := Int.tdiv a b) (by omega) (by omega), wrap_id (by omega) (by omega), he]
    rfl
  · have h : ¬ Int.tmod a b < 0 := by simpa using h
    rw [if_neg h] at he
    refine (Evt.some _).of_eq fun n => ?_
    rw [wrap_id (x := Int.tdiv a b) (by omega) (by omega), he]
    rfl
/- impl.mod -/
theorem e65 {a b : Int} (hb : 0 < b) (hb' : b ≤ 1000000000000) (h1 : -1000000000000 ≤ a) (h2 : a ≤ 1000000000000) : Evt (fun n => call T C n 65 (a, b, ())) ((a % b, ()), ()) := by
  have hd := Int.emod_def a b
  have h3 := Int.emod_nonneg a (show b ≠ 0 by omega)
  have h4 := Int.emod_lt_of_pos a hb
  refine Evt.next (Evt.bind (e102 hb (by omega) (by omega)) ((Evt.some _).of_eq fun n => ?_)) (fun n => r65 n a b)
  simp only
  rw [wrap_id (x := b * (a / b)) (by omega) (by omega), ← hd, wrap_id (by omega) (by omega)]
  rfl
/- (impl.Cam).at -/
theorem e118 {l : List Int} (hr : Rng l) (h0 : 0 < (l.length : Int)) (h1 : (l.length : Int) ≤ 1000000) {x : Int} (hx : -4000000 ≤ x) (hx' : x ≤ 4000000) : Evt (fun n => call T C n 118 (l, x, ())) ((cAt l x, ()), ()) := by
  have hp := Int.emod_nonneg x (show (l.length : Int) ≠ 0 by omega)
  have hq := Int.emod_lt_of_pos x h0
  have hv := g_idx (l := l) hp hq
  refine Evt.next (Evt.bind (e62 l) (Evt.bind (e65 (a := x) h0 (by omega) (by omega) (by omega)) (Evt.at hv.idx ((Evt.some _).of_eq fun n => ?_)))) (fun n => r118 n l x)
  rw [hr.id hv.mem]
  rfl
/- (impl.Machine).stop -/
theorem e125 (m : Mch) (hr : RngM m) (G : GoodM m) {i : Nat} (h : i < m.1.length) : Evt (fun n => call T C n 125 (m, (i : Int), ())) ((stopM m i, ()), ()) := by
  have lx := okC_len G.x
  have e1 := G.xy
  have e2 := G.xp
  have at_ : ∀ l : List Int, l.length = m.1.length → cAt l (i : Int) = g l i := fun l hl => by
    unfold cAt
    rw [Int.emod_eq_of_lt (by omega) (by omega), Int.toNat_natCast]
  have x1 := hr.x.el _ (g_mem h)
  have y1 := hr.y.el _ (g_mem (i := i) (by omega))
  have p1 := okC_el G.p hr.p _ (g_mem (i := i) (by omega))
  refine Evt.next ?_ (fun n => r125 n m (i : Int))
  refine Evt.bind (e118 hr.x (by omega) (by omega) (by omega) (by omega)) (Evt.bind (e118 hr.y (by omega) (by omega) (by omega) (by omega)) (Evt.at (x := (0 : Int)) rfl (Evt.at (x := (0 : Int)) rfl (Evt.bind (e118 hr.p (by omega) (by omega) (by omega) (by omega)) ((Evt.some _).of_eq fun n => ?_)))))
  rw [at_ _ rfl, at_ _ (by omega), at_ _ (by omega), wrap16 x1.1 x1.2, wrap16 y1.1 y1.2]
  rfl
/- (impl.Machine).stops -/
theorem e114 (m : Mch) (hr : RngM m) (G : GoodM m) : Evt (fun n => call T C n 114 (m, ())) ((stopsM m, ()), ()) := by
  have lx := okC_len G.x
  refine Evt.next (Evt.bind (e124 m) ?_) (fun n => r114 n m)
  refine for_evt' 0 (m.1.length : Int) (fun i (_ : Unit) => (m, (List.range i.toNat).map (stopM m), (m.1.length : Int), i, ())) (fun _ _ => True) (b0 := ()) rfl (by omega) trivial ?_ ?_
  · intro i _ h2 h3 _
    obtain ⟨k, rfl⟩ : ∃ k : Nat, i = k := ⟨i.toNat, by omega⟩
    refine Round.yes (decide_eq_true h3) (Round.bind (e125 m hr G (i := k) (by omega)) (Round.chk (decide_eq_true (by simp; omega)) (Round.again _ ⟨(), ?_, trivial⟩)))
    rw [wr_succ h2 h3 (by omega), show ((k : Int) + 1).toNat = k + 1 by omega, List.range_succ, List.map_append]
    rfl
  · intro _ _
    exact Round.no (by simp) (Round.done (Evt.some _))
/- (*impl.Plate).ink -/
theorem e115 {p : List Int} {m : Mk} (hp : p.length = 64) (ho : OnP m) : Evt (fun n => call T C n 115 (p, m, ())) ((), (inkP p m, ())) := by
  have hx := ho.x; have hy := ho.y
  have hgp := g_idx (l := p) hy.1 (by omega)
  have hb1 : 0 ≤ g m 1 ∧ g m 1 < ((64 : Nat) : Int) := by omega
  exact Evt.next (Evt.chk rfl (Evt.at ho.get1 (Evt.chk (decide_eq_true hb1) (Evt.at hgp.get (Evt.chk rfl (Evt.at ho.get0 (Evt.chk (decide_eq_true hx.1) (Evt.chk (decide_eq_true hb1) (Evt.at hgp.get (Evt.some ((), (inkP p m, ())))))))))))) (fun n => r115 n p m)
/- impl.abs -/
theorem e63 {a : Int} (h1 : -1000000000000 ≤ a) (h2 : a ≤ 1000000000000) : Evt (fun n => call T C n 63 (a, ())) ((siz a, ()), ()) := by
  refine Evt.next ((Evt.some _).of_eq fun n => ?_) (fun n => r63 n a)
  rw [wrap_id (x := 0 - a) (by omega) (by omega)]
  unfold siz
  have : (if 0 - a > a then 0 - a else a) = if a < 0 then -a else a := by split <;> split <;> omega
  rw [this]
  rfl
/- impl.between -/
theorem e129 {a b : Mk} (ha : OnP a) (hb : OnP b) : Evt (fun n => call T C n 129 (a, b, ())) ((far a b, ()), ()) := by
  have hx := ha.x; have hy := ha.y; have kx := hb.x; have ky := hb.y
  refine Evt.next ?_ (fun n => r129 n a b)
  refine Evt.chk rfl (Evt.at hb.get0 (Evt.chk rfl (Evt.at ha.get0 ?_)))
  rw [wrap_id (x := g a 0) (by omega) (by omega), wrap_id (x := g b 0) (by omega) (by omega), wrap_id (by omega) (by omega)]
  refine Evt.bind (e63 (by omega) (by omega)) (Evt.chk rfl (Evt.at hb.get1 (Evt.chk rfl (Evt.at ha.get1 ?_))))
  rw [wrap_id (x := g a 1) (by omega) (by omega), wrap_id (x := g b 1) (by omega) (by omega), wrap_id (by omega) (by omega)]
  refine Evt.bind (e63 (by omega) (by omega)) ((Evt.some _).of_eq fun n => ?_)
  have e : ∀ x : Int, siz (-x) = siz x := fun x => by unfold siz; split <;> split <;> omega
  have e0 : siz (g b 0 - g a 0) = siz (g a 0 - g b 0) := by rw [← e, Int.neg_sub]
  have e1 : siz (g b 1 - g a 1) = siz (g a 1 - g b 1) := by rw [← e, Int.neg_sub]
  have : (if siz (g a 1 - g b 1) > siz (g a 0 - g b 0) then siz (g a 1 - g b 1) else siz (g a 0 - g b 0)) = far a b := by unfold far; split <;> omega
  simp only [e0, e1, this]
  rfl
/- impl.nearest -/
theorem e130 {x n : Int} (hn : 0 < n) (hn' : n ≤ 10000000000000) (h1 : -2000000000000000000 ≤ x) (h2 : x ≤ 2000000000000000000) : Evt (fun m => call T C m 130 (x, n, ())) ((nr x n, ()), ()) := by
  refine Evt.next ?_ (fun m => r130 m x n)
  rw [wrap_id (x := 2 * n) (by omega) (by omega), wrap_id (x := 2 * x) (by omega) (by omega), wrap_id (x := 2 * x + n) (by omega) (by omega)]
  exact Evt.bind (e102 (by omega) (by omega) (by omega)) (Evt.some _)
/- impl.lineOf -/
theorem e126 {a b : Mk} (ha : OnP a) (hb : OnP b) : Evt (fun n => call T C n 126 (a, b, ())) ((lineM a b, ()), ()) := by
  obtain ⟨f0, f1, f2⟩ := far_bd ha hb
  refine Evt.next (Evt.bind (e129 ha hb) ?_) (fun n => r126 n a b)
  by_cases h : far a b = 0
  · have e : lineM a b = [a] := by unfold lineM; rw [if_pos h]
    rw [e]
    simp only [h]
    refine for_evt' 1 1 (fun i (_ : Unit) => (a, b, [a], 0, i, ())) (fun _ _ => True) (b0 := ()) rfl (by omega) trivial (fun i _ h2 h3 _ => by omega) (fun _ _ => ?_)
    exact Round.no (by simp) (Round.done (Evt.some _))
  have e : lineM a b = (List.range (far a b + 1).toNat).map fun k => ptM a b (k : Nat) := by unfold lineM; rw [if_neg h]
  rw [e]
  refine for_evt' 1 (far a b + 1) (fun i (_ : Unit) => (a, b, (List.range i.toNat).map (fun k => ptM a b (k : Nat)), far a b, i, ())) (fun _ _ => True) (b0 := ()) (by
    show (a, b, [a], far a b, 1, ()) = (a, b, [ptM a b 0], far a b, 1, ())
    rw [ptM_zero ha hb h]) (by omega) trivial ?_ ?_
  · intro i _ h2 h3 _
    refine Round.yes (decide_eq_true (show i ≤ far a b by omega)) ?_
    refine for_round' 0 2 (fun j (m : List Int) => (a, b, (List.range i.toNat).map (fun k => ptM a b (k : Nat)), far a b, i, m, j, ())) (fun j m => m = ((List.range j.toNat).map (fun u => pt a b i u)) ++ List.replicate (2 - j.toNat) 0) (b0 := List.replicate 2 0) rfl (by omega) (by simp) ?_ ?_
    · intro j m j0 j1 hm
      have hj : j = 0 ∨ j = 1 := by omega
      have hga := g_idx (l := a) j0 (by have := ha.len; omega)
      have hgb := g_idx (l := b) j0 (by have := hb.len; omega)
      have hu : j.toNat = 0 ∨ j.toNat = 1 := by omega
      have ba : 0 ≤ g a j.toNat ∧ g a j.toNat ≤ 63 := by rcases hu with e | e <;> rw [e]; exact ha.x; exact ha.y
      have bb : 0 ≤ g b j.toNat ∧ g b j.toNat ≤ 63 := by rcases hu with e | e <;> rw [e]; exact hb.x; exact hb.y
      have hk := kd_bd ha hb (show 0 ≤ i by omega) (by omega) hu
      have hp := pt_bd ha hb h (show 0 ≤ i by omega) (by omega) hu
      have hm2 : m.length = 2 := by rw [hm]; simp; omega
      have hgm := g_idx (l := m) j0 (by omega)
      have hn1 : 0 ≤ g a j.toNat * far a b ∧ g a j.toNat * far a b ≤ 63 * 63 := ⟨Int.mul_nonneg ba.1 f0, Int.mul_le_mul ba.2 f1 f0 (by omega)⟩
      show Round (fun n ag => if decide (j < 2) = true then _ else _) _ _
      simp only [wrap_id (x := j + 1) (by omega) (by omega)]
      refine Round.yes (decide_eq_true j1) (Round.chk (decide_eq_true (by omega)) (Round.at hga.get (Round.chk (decide_eq_true (by omega)) (Round.at hgb.get (Round.chk (decide_eq_true (by omega)) (Round.at hga.get ?_))))))
      simp only [wrap_id (x := g a j.toNat) (by omega) (by omega), wrap_id (x := g b j.toNat) (by omega) (by omega), wrap_id (x := g b j.toNat - g a j.toNat) (by omega) (by omega), wrap_id (x := i * (g b j.toNat - g a j.toNat)) (by omega) (by omega), wrap_id (x := g a j.toNat * far a b) (by omega) (by omega), wrap_id (x := g a j.toNat * far a b + i * (g b j.toNat - g a j.toNat)) (by omega) (by omega)]
      refine Round.bind (e130 (by omega) (by omega) (by omega) (by omega)) (Round.chk (decide_eq_true (by omega)) (Round.at hgm.get (Round.inr _ ⟨_, rfl, ?_⟩)))
      have hpt : nr (g a j.toNat * far a b + i * (g b j.toNat - g a j.toNat)) (far a b) = pt a b i j.toNat := nr_from (by omega)
      show m.set j.toNat (wr .i16 (nr (g a j.toNat * far a b + i * (g b j.toNat - g a j.toNat)) (far a b))) = _
      rw [hpt, wrap16 (by omega) (by omega), hm]
      rcases hj with rfl | rfl
      · rfl
      · rfl
    · intro m hm
      have hm : m = ptM a b i := hm
      refine Round.no (by simp) (Round.chk (decide_eq_true (by simp; omega)) (Round.inl _ ⟨(), ?_, trivial⟩))
      rw [hm, wrap_id (x := i + 1) (by omega) (by omega), show (i + 1).toNat = i.toNat + 1 by omega, List.range_succ, List.map_append]
      simp [show ((i.toNat : Nat) : Int) = i by omega]
  · intro _ _
    exact Round.no (by simp; omega) (Round.done (Evt.some _))
/- (*impl.Plate).line -/
theorem e116 {p : List Int} {a b : Mk} (hp : p.length = 64) (ha : OnP a) (hb : OnP b) : Evt (fun n => call T C n 116 (p, a, b, ())) ((), (inkL p (lineM a b), ())) := by
  have hl := lineM_len ha hb
  refine Evt.next (Evt.bind (e126 ha hb) ?_) (fun n => r116 n p a b)
  refine for_evt' 0 ((lineM a b).length : Int) (fun i (_ : Unit) => (inkL p ((lineM a b).take i.toNat), lineM a b, ((lineM a b).length : Int), i, ())) (fun _ _ => True) (b0 := ()) rfl (by omega) trivial ?_ ?_
  · intro i _ h2 h3 _
    obtain ⟨m, hm⟩ := at_of h2 h3
    refine Round.yes (decide_eq_true h3) (Round.at hm.idx (Round.bind (e115 (p := inkL p ((lineM a b).take i.toNat)) (by rw [inkL_len, hp]) (lineM_on ha hb m hm.mem)) (Round.again _ ⟨(), ?_, trivial⟩)))
    rw [wr_succ h2 h3 (by omega), hm.take, inkL_snoc]
  · intro _ _
    simp only [take_all]
    exact Round.no (by simp) (Round.done (Evt.some _))
/- (impl.Machine).draw -/
theorem e83 (m : Mch) (hr : RngM m) (G : GoodM m) : Evt (fun n => call T C n 83 (m, ())) ((drawTo m m.1.length, ()), ()) := by
  have lx := okC_len G.x
  have hl : (stopsM m).length = m.1.length := by simp [stopsM]
  refine Evt.next (Evt.bind (e114 m hr G) ?_) (fun n => r83 n m)
  refine for_evt' 0 (m.1.length : Int) (fun i (_ : Unit) => (List.replicate 64 0, drawTo m i.toNat, stopsM m, stopsM m, ((stopsM m).length : Int), i, ())) (fun _ _ => True) (b0 := ()) rfl (by omega) trivial ?_ ?_
  · intro i _ h2 h3 _
    obtain ⟨k, rfl⟩ : ∃ k : Nat, i = k := ⟨i.toNat, by omega⟩
    have hk : k < m.1.length := by omega
    have hs := stopsM_at m hk
    have hm1 := Nat.mod_lt (k + 1) (show m.1.length > 0 by omega)
    have ht := stopsM_at m hm1
    have hmod : Int.tmod (wr .i64 ((k : Int) + 1)) ((stopsM m).length : Int) = (((k + 1) % m.1.length : Nat) : Int) := by rw [wr_succ h2 h3 (by omega), hl, show (k : Int) + 1 = ((k + 1 : Nat) : Int) by omega, ← Int.ofNat_tmod]
    have o1 := stop_on hr G hk
    have o2 := stop_on hr G hm1
    show Round (fun n ag => if decide ((k : Int) < ((stopsM m).length : Int)) = true then _ else _) _ _
    refine Round.yes (decide_eq_true (by omega)) (Round.at hs.idx ?_)
    have e : drawTo m ((k : Int) + 1).toNat = drawTo m (k + 1) := by rw [show ((k : Int) + 1).toNat = k + 1 by omega]
    have again : ∀ d, d = drawTo m (k + 1) → ∃ b' : Unit, ((List.replicate 64 (0 : Int), d, stopsM m, stopsM m, ((stopsM m).length : Int), wr .i64 ((k : Int) + 1), ()) : List Int × List Int × List Stp × List Stp × Int × Int × Unit) = (List.replicate 64 0, drawTo m ((k : Int) + 1).toNat, stopsM m, stopsM m, ((stopsM m).length : Int), (k : Int) + 1, ()) ∧ True := fun d hd => ⟨(), by rw [hd, e, wr_succ h2 h3 (by omega)], trivial⟩
    refine Round.ite (fun c => ?_) (fun c => ?_)
    · have c : (stopM m k).2.1 = false := by simpa using c
      refine Round.again _ (again _ ?_)
      show drawTo m k = drawTo m (k + 1)
      rw [drawTo, c]; rfl
    have c : (stopM m k).2.1 = true := by simpa using c
    have hlen : (drawTo m k).length = 64 := drawTo_len m k
    refine Round.bind (e115 (p := drawTo m k) hlen o1) (Round.chk (bne_pos (show 0 < ((stopsM m).length : Int) by omega)) ?_)
    simp only [hmod]
    refine Round.at ht.idx (Round.ite (fun c2 => ?_) (fun c2 => ?_))
    · refine Round.bind (e116 (p := inkP (drawTo m k) (stopM m k).1) (by rw [inkP_len, hlen]) o1 o2) (Round.again _ (again _ ?_))
      rw [drawTo, if_pos c, if_pos c2]
    · refine Round.again _ (again _ ?_)
      rw [drawTo, if_pos c, if_neg c2]
  · intro _ _
    exact Round.no (by simp [hl]) (Round.done (Evt.some _))
/- bits.OnesCount64 -/
theorem e117 {x : Nat} (hx : x < 18446744073709551616) : Evt (fun n => call T C n 117 ((x : Int), ())) ((((bct x 64 : Nat) : Int), ()), ()) := by
  have h := pop_swar hx rfl
  dsimp only at h
  refine Evt.next (Evt.chk rfl (Evt.chk rfl (Evt.chk rfl (Evt.chk rfl (Evt.chk rfl (Evt.chk rfl ?_)))))) (fun n => r117 n x)
  rw [h]
  exact Evt.some _
/- impl.CountInk -/
theorem e84 {W : Nat → Nat} (hW : ∀ j, j < 64 → W j < 18446744073709551616) : Evt (fun n => call T C n 84 (tb 64 (fun j => ((W j : Nat) : Int)), ())) ((((tot W 64 : Nat) : Int), ()), ()) := by
  refine Evt.next ?_ (fun n => r84 n _)
  refine for_evt' 0 64 (fun i (_ : Unit) => (((tot W i.toNat : Nat) : Int), tb 64 (fun j => ((W j : Nat) : Int)), i, ())) (fun _ _ => True) (b0 := ()) rfl (by omega) trivial ?_ ?_
  · intro i _ h2 h3 _
    have hl := tot_le W i.toNat
    have hb := bct_le (W i.toNat) 64
    have hi : idx (tb 64 (fun j => ((W j : Nat) : Int))) i = some ((W i.toNat : Nat) : Int) := by unfold idx; rw [if_pos h2, tb_get (by omega)]
    refine Round.yes (decide_eq_true h3) (Round.at hi (Round.bind (e117 (hW i.toNat (by omega))) (Round.again _ ⟨(), ?_, trivial⟩)))
    rw [wr_succ h2 h3 (by omega), show (i + 1).toNat = i.toNat + 1 by omega, wrap_id (x := ((tot W i.toNat : Nat) : Int) + ((bct (W i.toNat) 64 : Nat) : Int)) (by omega) (by omega)]
    simp only [tot, Int.natCast_add]
  · intro _ _
    exact Round.no (by simp) (Round.done (Evt.some _))
/- bits.TrailingZeros64 -/
theorem e85 (p : Nat → Bool) : Evt (fun n => call T C n 85 (row p, ())) ((((fstZ p : Nat) : Int), ()), ()) := by
  refine Evt.next ?_ (fun n => r85 n (row p))
  have h : 0 ≤ row p ∧ row p < 18446744073709551616 := by have := row_lt p; unfold row; omega
  dsimp only
  rw [if_pos h, row_ctz]
  exact Evt.some _
/- impl.CheckMachine -/
theorem e41 (m : Mch) (hr : RngM m) {p : List Int} (hp : p.length = 64) (hv : W64 p) : Evt (fun n => call T C n 41 (m, p, ())) (cmR m p, ()) := by
  refine Evt.next (Evt.bind (e82 m hr) ?_) (fun n => r41 n m p)
  unfold cmR
  cases hM : okM m with
  | false => exact Evt.yes rfl (Evt.some _)
  | true =>
    refine Evt.no (by simp) (Evt.bind (e83 m hr (goodM hM)) ?_)
    obtain ⟨d, hd⟩ : ∃ d, d = drawTo m m.1.length := ⟨_, rfl⟩
    have ld : d.length = 64 := by rw [hd, drawTo_len]
    have hdv : W64 d := by rw [hd]; exact drawTo_el m _
    rw [← hd]
    obtain ⟨W, hWd⟩ : ∃ W, W = dif p d := ⟨_, rfl⟩
    have hW : ∀ j, j < 64 → W j < 18446744073709551616 := fun j hj => by rw [hWd]; exact dif_lt hv hdv hp ld hj
    rw [← hWd]
    have hd0 : d = tb 64 (fun j => if j < 0 then ((W j : Nat) : Int) else g d j) := by
      conv => lhs; rw [tb_self ld]
      exact tb_ext fun j _ => (if_neg (by omega)).symm
    refine for_evt' 0 64 (fun y (_ : Unit) => (p, List.replicate 2 (0 : Int), tb 64 (fun j => if j < y.toNat then ((W j : Nat) : Int) else g d j), y, ())) (fun _ _ => True) (b0 := ()) (show (p, List.replicate 2 (0 : Int), d, (0 : Int), ()) = (p, List.replicate 2 (0 : Int), tb 64 (fun j => if j < 0 then ((W j : Nat) : Int) else g d j), (0 : Int), ()) by rw [← hd0]) (by omega) trivial ?_ ?_
    · intro y _ h2 h3 _
      obtain ⟨k, rfl⟩ : ∃ k : Nat, y = k := ⟨y.toNat, by omega⟩
      have hk : k < 64 := by omega
      have hxk := (dif_xor hv hdv hp ld hk).2
      rw [← hWd] at hxk
      have g1 := (g_idx (l := p) (i := (k : Int)) (by omega) (by omega)).get
      have e1 : (tb 64 (fun j => if j < (k : Int).toNat then ((W j : Nat) : Int) else g d j))[(k : Int).toNat]? = some (g d k) := by
        rw [tb_get (by omega)]
        simp
      have hin : decide (0 ≤ (k : Int) ∧ (k : Int) < ((64 : Nat) : Int)) = true := decide_eq_true ⟨by omega, by omega⟩
      refine Round.yes (decide_eq_true h3) (Round.chk hin (Round.at e1 (Round.chk hin (Round.at g1 (Round.chk hin (Round.at e1 (Round.again _ ⟨(), ?_, trivial⟩)))))))
      rw [wr_succ h2 h3 (by omega), tb_set]
      simp only [Int.toNat_natCast] at hxk ⊢
      rw [hxk]
      have : tb 64 (fun j => if j = k then ((W k : Nat) : Int) else if j < k then ((W j : Nat) : Int) else g d j) = tb 64 (fun j => if j < ((k : Int) + 1).toNat then ((W j : Nat) : Int) else g d j) := tb_ext fun j hj => by
        by_cases e : j = k
        · rw [if_pos e, if_pos (by omega), e]
        · rw [if_neg e]
          by_cases e2 : j < k
          · rw [if_pos e2, if_pos (by omega)]
          · rw [if_neg e2, if_neg (by omega)]
      rw [this]
    · intro _ _
      have hD : tb 64 (fun j => if j < (64 : Int).toNat then ((W j : Nat) : Int) else g d j) = tb 64 (fun j => ((W j : Nat) : Int)) := tb_ext fun j hj => if_pos (by omega)
      rw [hD]
      refine Round.no (by simp) (Round.done ?_)
      have hcnt := e84 hW
      have htot := allS_cnt W 64
      have htl := tot_le W 64
      generalize hDD : tb 64 (fun j => ((W j : Nat) : Int)) = D at hcnt ⊢
      refine for_evt' 0 64 (fun y (_ : Unit) => (List.replicate 2 (0 : Int), D, D, y, ())) (fun y _ => ∀ j, j < y.toNat → W j = 0) (b0 := ()) rfl (by omega) (fun j h => absurd h (by omega)) ?_ ?_
      · intro y _ h2 h3 h0
        obtain ⟨k, rfl⟩ : ∃ k : Nat, y = k := ⟨y.toNat, by omega⟩
        have hk : k < 64 := by omega
        rw [Int.toNat_natCast] at h0
        have hi : idx D (k : Int) = some ((W k : Nat) : Int) := by unfold idx; rw [if_pos h2, ← hDD, tb_get (by omega)]; rfl
        refine Round.yes (decide_eq_true h3) (Round.at hi (Round.ite (fun hb => ?_) (fun hb => ?_)))
        · have hb : W k ≠ 0 := fun h => by rw [h] at hb; exact absurd hb (by decide)
          obtain ⟨f1, f2⟩ := allS_first h0 hb (hW k hk) 64 hk
          have hrow : ((W k : Nat) : Int) = row (W k).testBit := by unfold row; rw [← mkN_eq (p := (W k).testBit) (n := 64) (hW k hk) (fun _ _ => rfl)]
          have hz : fstZ (W k).testBit < 64 := by
            have hany : (List.range 64).any (W k).testBit = true := by
              rw [← row_ne, ← hrow]
              simpa using hb
            exact (fstZ_some hany).1
          rw [if_pos rfl, if_neg f2, htot, f1]
          have htz := e85 (W k).testBit
          rw [← hrow] at htz
          refine Round.bind hcnt (Round.bind htz (Round.at rfl (Round.at rfl (Round.done ((Evt.some _).of_eq fun n => ?_)))))
          rw [wrap16 (x := ((fstZ (W k).testBit : Nat) : Int)) (by omega) (by omega), wrap16 (x := (k : Int)) (by omega) (by omega)]
          rfl
        · have hb : W k = 0 := by
            have : ¬ (((W k : Nat) : Int) != 0) = true := by simpa using hb
            have : ((W k : Nat) : Int) = 0 := by simpa using this
            omega
          refine Round.again _ ⟨(), by rw [wr_succ h2 h3 (by omega)], fun j hj => ?_⟩
          by_cases e : j = k
          · rw [e]; exact hb
          · exact h0 j (by omega)
      · intro _ h0
        have := allS_none (W := W) (y := 64) (fun j hj => h0 j (by omega))
        rw [if_pos rfl, this, if_pos rfl]
        exact Round.no (by simp) (Round.done (Evt.some _))
/- laws.eqMark -/
theorem e42 (m : Mk) (h : m.length = 2) : Evt (fun n => call T C n 42 (m, m, ())) ((true, ()), ()) := by
  refine Evt.next ?_ (fun n => r42 n m m)
  refine for_evt' 0 2 (fun i (_ : Unit) => (m, m, i, ())) (fun _ _ => True) (b0 := ()) rfl (by omega) trivial ?_ ?_
  · intro i _ h2 h3 _
    have hg := g_idx (l := m) h2 (by omega)
    refine Round.yes (decide_eq_true h3) (Round.chk (decide_eq_true (show 0 ≤ i ∧ i < ((2 : Nat) : Int) by omega)) (Round.at hg.get (Round.chk (decide_eq_true (show 0 ≤ i ∧ i < ((2 : Nat) : Int) by omega)) (Round.at hg.get (Round.no (by simp) (Round.again _ ⟨(), ?_, trivial⟩))))))
    rw [wr_succ h2 h3 (by omega)]
  · intro _ _
    exact Round.no (by simp) (Round.done (Evt.some _))
/- laws.eqCam -/
theorem e12 (l : List Int) (hl : (l.length : Int) ≤ 140737488351232) : Evt (fun n => call T C n 12 (l, l, ())) ((true, ()), ()) := by
  refine Evt.next (Evt.no (by simp) ?_) (fun n => r12 n l l)
  refine for_evt 0 (l.length : Int) (fun i (_ : Unit) => (l, l, i, ())) (fun _ _ => True) (b0 := ()) (by omega) trivial ?_ ?_
  · intro i _ h2 h3 _
    obtain ⟨v, hv⟩ := at_of h2 h3
    refine Round.yes (decide_eq_true h3) (Round.at hv.idx (Round.at hv.idx (Round.no (by simp) (Round.again _ ⟨(), ?_, trivial⟩))))
    rw [wr_succ h2 h3 (by omega)]
  · intro _ _
    exact Round.no (by simp) (Round.done (Evt.some _))
/- laws.eqMachine -/
theorem e43 (m : Mch) (hx : (m.1.length : Int) ≤ 140737488351232) (hy : (m.2.1.length : Int) ≤ 140737488351232) (hp : (m.2.2.1.length : Int) ≤ 140737488351232) : Evt (fun n => call T C n 43 (m, m, ())) ((true, ()), ()) :=
  Evt.next (Evt.bind (e12 _ hx) (Evt.no (by simp) (Evt.bind (e12 _ hy) (Evt.no (by simp) (Evt.bind (e12 _ hp) (Evt.no (by simp) (Evt.some _))))))) (fun n => r43 n m m)
/- laws.FnExactCheckMachine -/
theorem e8 (m : Mch) (p : List Int) (hd : DomA (C 8).params (m, p, ())) : Evt (fun n => call T C n 8 (m, p, ())) ((true, ()), ()) := by
  have hR : RngM m := rngM_of hd.1
  have hp : p.length = 64 := hd.2.1.1
  have hv : W64 p := fun v hv => by
    have h := hd.2.1.2 v hv
    have h1 : IntKind.u64.min ≤ v := h.1
    have h2 : v ≤ IntKind.u64.max := h.2
    simp only [IntKind.min, IntKind.max, IntKind.signed, IntKind.bits] at h1 h2
    constructor
    · simpa using h1
    · have : v ≤ 18446744073709551615 := by simpa using h2
      omega
  have hx := hR.x.len'
  have hy := hR.y.len'
  have hpp := hR.p.len'
  refine Evt.next (Evt.bind (e37 m 1048576) (Evt.ite (fun _ => Evt.some _) (fun hsz => ?_))) (fun n => r8 n m p)
  have hsz := szM_ok hR (by omega) (Int.le_refl _) (by simpa using hsz)
  have to1 := e39 m hR
  have to2 := e40 hp
  refine Evt.bind to1 (Evt.bind to2 (Evt.bind (e38 m hR hp hv) (Evt.bind to1 (Evt.bind to2 (Evt.bind (e41 m hR hp hv) (Evt.no (by simp) ?_))))))
  refine Evt.bind (e42 (cmR m p).2.1 (cmR_len m p)) (Evt.no (by simp) (Evt.no (by simp) ?_))
  exact Evt.bind to1 (Evt.bind (e43 m (by omega) (by omega) (by omega)) (Evt.no (by simp) (Evt.some _)))

end Go.Cams.YteeciijmkmdplaaDoorLCheckMachine
