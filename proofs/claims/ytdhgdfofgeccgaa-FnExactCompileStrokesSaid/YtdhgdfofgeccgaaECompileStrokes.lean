/- What the functions that the law reaches come to. -/
import Derived.Test.YtdhgdfofgeccgaaRCompileStrokes
import Derived.Test.YtdhgdfofgeccgaaPuAll
namespace Go.Cams.YtdhgdfofgeccgaaLCompileStrokes
open Go Go.Fw Go.Proofs Go.Proofs.Ytdhgdfofgeccgaa.LCompileStrokes
/- laws.szStroke -/
theorem e83 (s : Stk) (a : Int) : Evt (fun n => call T C n 83 (s, a, ())) ((sz1 (shad s) a, ()), ()) := by
  refine Evt.next ?_ (fun n => r83 n s a)
  unfold sz1
  rw [shad_len]
  refine Evt.ite (fun h => ?_) (fun h => ?_)
  · rw [if_pos (of_decide_eq_true h)]; exact Evt.some _
  · rw [if_neg (by simpa using h)]; exact Evt.some _
/- laws.szStrokeS -/
theorem e18 (K : List Stk) (hl : (K.length : Int) ≤ 140737488351232) (a : Int) : Evt (fun n => call T C n 18 (K, a, ())) ((szL (K.map shad) a, ()), ()) := by
  refine Evt.next ?_ (fun n => r18 n K a)
  unfold szL
  rw [List.length_map]
  refine Evt.ite (fun h => ?_) (fun h => ?_)
  · rw [if_pos (of_decide_eq_true h)]; exact Evt.some _
  · rw [if_neg (by simpa using h)]
    generalize wr .i64 (a - (K.length : Int)) = b
    refine for_evt' 0 (K.length : Int) (fun i (c : Int) => (K, c, i, ())) (fun i c => szLf (K.map shad) b = szLf ((K.drop i.toNat).map shad) c) (b0 := b) rfl (by omega) (by simp) ?_ ?_
    · intro i c h2 h3 hp
      obtain ⟨v, hv⟩ := at_of h2 h3
      rw [hv.drop] at hp
      simp only [List.map_cons, szLf] at hp
      refine Round.yes (decide_eq_true h3) (Round.at hv.idx (Round.bind (e83 v c) (Round.ite (fun hb => ?_) (fun hb => ?_))))
      · rw [hp, if_pos (of_decide_eq_true hb)]
        exact Round.done (Evt.some _)
      · rw [if_neg (by simpa using hb)] at hp
        exact Round.again _ ⟨sz1 (shad v) c, by rw [wr_succ h2 h3 (by omega)], hp⟩
    · intro c hp
      rw [drop_all] at hp
      rw [hp]
      exact Round.no (by simp) (Round.done (Evt.some _))
/- laws.toMark -/
theorem e168 (m : Mk) (h : m.length = 2) : Evt (fun n => call T C n 168 (m, ())) ((m, ()), ()) := by
  refine Evt.next ?_ (fun n => r168 n m)
  refine for_evt' 0 2 (fun i (b : List Int) => (m, List.replicate 2 0, b, i, ())) (fun i b => b.length = 2 ∧ b.take i.toNat = m.take i.toNat) (b0 := List.replicate 2 0) rfl (by omega) ⟨rfl, rfl⟩ ?_ ?_
  · intro i b h2 h3 ⟨hb, ht⟩
    have hg := g_idx (l := m) h2 (by omega)
    have hgb := g_idx (l := b) h2 (by omega)
    refine Round.yes (decide_eq_true h3) (Round.chk (decide_eq_true (show 0 ≤ i ∧ i < ((2 : Nat) : Int) by omega)) (Round.at hg.get (Round.chk (decide_eq_true (show 0 ≤ i ∧ i < ((2 : Nat) : Int) by omega)) (Round.at hgb.get (Round.again _ ⟨b.set i.toNat (g m i.toNat), ?_, by simpa using hb, ?_⟩)))))
    · rw [wr_succ h2 h3 (by omega)]
    · rw [take_set_succ h2 (by omega), ht, hg.take]
  · intro b ⟨hb, ht⟩
    have e : b = m := by
      have e1 := ht
      rw [show (2 : Int).toNat = 2 from rfl, List.take_of_length_le (by omega), List.take_of_length_le (by omega)] at e1
      exact e1
    rw [e]
    exact Round.no (by simp) (Round.done (Evt.some _))
/- laws.toStroke -/
theorem e87 (s : Stk) (hl : (s.length : Int) * 4 ≤ 140737488351232) (hm : ∀ m ∈ s, m.length = 2) : Evt (fun n => call T C n 87 (s, ())) ((s, ()), ()) := by
  refine Evt.next (Evt.chk (by simp; omega) ?_) (fun n => r87 n s)
  refine for_evt' 0 (s.length : Int) (fun i (b : Stk) => (s, b, i, ())) (fun i b => b.length = s.length ∧ b.take i.toNat = s.take i.toNat) (b0 := List.replicate (Int.toNat (s.length : Int)) (List.replicate 2 0)) rfl (by omega) ⟨by simp, by simp⟩ ?_ ?_
  · intro i b h2 h3 ⟨hb, ht⟩
    have hi : i < (b.length : Int) := by omega
    obtain ⟨v, hv⟩ := at_of h2 h3
    obtain ⟨u, hu⟩ := get_of_lt h2 hi
    refine Round.yes (decide_eq_true h3) (Round.at hv.idx (Round.bind (e168 v (hm v hv.mem)) (Round.chk (chk_at h2 hi) (Round.at hu (Round.again _ ⟨b.set i.toNat v, ?_, by simpa using hb, ?_⟩)))))
    · rw [wr_succ h2 h3 (by omega)]
    · rw [take_set_succ h2 hi, ht, hv.take]
  · intro b ⟨hb, ht⟩
    have e : b = s := by rw [← take_all b, hb, ht]; simp
    rw [e]
    exact Round.no (by simp) (Round.done (Evt.some _))
/- laws.toStrokeS -/
theorem e20 (K : List Stk) (hr : RngT K) : Evt (fun n => call T C n 20 (K, ())) ((K, ()), ()) := by
  have hl := hr.len
  refine Evt.next (Evt.chk (by simp; omega) ?_) (fun n => r20 n K)
  refine for_evt' 0 (K.length : Int) (fun i (b : List Stk) => (K, b, i, ())) (fun i b => b.length = K.length ∧ b.take i.toNat = K.take i.toNat) (b0 := List.replicate (Int.toNat (K.length : Int)) []) rfl (by omega) ⟨by simp, by simp⟩ ?_ ?_
  · intro i b h2 h3 ⟨hb, ht⟩
    have hi : i < (b.length : Int) := by omega
    obtain ⟨v, hv⟩ := at_of h2 h3
    obtain ⟨u, hu⟩ := get_of_lt h2 hi
    refine Round.yes (decide_eq_true h3) (Round.at hv.idx (Round.bind (e87 v (hr.el v hv.mem).1 (fun m hm => ((hr.el v hv.mem).2 m hm).1)) (Round.chk (chk_at h2 hi) (Round.at hu (Round.again _ ⟨b.set i.toNat v, ?_, by simpa using hb, ?_⟩)))))
    · rw [wr_succ h2 h3 (by omega)]
    · rw [take_set_succ h2 hi, ht, hv.take]
  · intro b ⟨hb, ht⟩
    have e : b = K := by rw [← take_all b, hb, ht]; simp
    rw [e]
    exact Round.no (by simp) (Round.done (Evt.some _))
/- spec.l00In -/
theorem e85 (a b c : Int) : Evt (fun n => call T C n 85 (a, b, c, ())) ((inR a b c, ()), ()) := by
  refine Evt.next ?_ (fun n => r85 n a b c)
  refine Evt.ite (fun h => ?_) (fun h => ?_)
  · refine (Evt.some _).of_eq fun n => ?_
    have h : b ≤ a := of_decide_eq_true h
    simp [inR, h]
    rfl
  · refine (Evt.some _).of_eq fun n => ?_
    have h : ¬ b ≤ a := by simpa using h
    simp [inR, h]
    rfl
/- spec.l07Mark -/
theorem e165 (m : Mk) (h : m.length = 2) : Evt (fun n => call T C n 165 (m, ())) ((okMk m, ()), ()) := by
  have h0 := (g_idx (l := m) (i := 0) (by omega) (by omega)).get
  have h1 := (g_idx (l := m) (i := 1) (by omega) (by omega)).get
  refine Evt.next (Evt.chk rfl (Evt.at h0 (Evt.bind (e85 _ _ _) ?_))) (fun n => r165 n m)
  unfold okMk
  refine Evt.ite (fun hc => ?_) (fun hc => ?_)
  · have hc : inR (wr .i64 (g m 0)) 0 63 = true := hc
    rw [hc]
    exact Evt.chk rfl (Evt.at h1 (Evt.bind (e85 _ _ _) (Evt.some _)))
  · have hc : inR (wr .i64 (g m 0)) 0 63 = false := by
      have : ¬ inR (wr .i64 (g m 0)) 0 63 = true := hc
      simpa using this
    rw [hc]
    exact Evt.some _
/- spec.l07Strokes -/
theorem e84 (K : List Stk) (hr : RngT K) : Evt (fun n => call T C n 84 (K, ())) ((skCode K, ()), ()) := by
  have hkl := hr.len'
  refine Evt.next ?_ (fun n => r84 n K)
  refine for_evt' 0 (K.length : Int) (fun i (_ : Unit) => (K, i, ())) (fun i _ => ∀ s ∈ K.take i.toNat, okSk s = true) (b0 := ()) rfl (by omega) (fun s hs => by simp at hs) ?_ ?_
  · intro i _ h2 h3 hp
    obtain ⟨s, hs⟩ := at_of h2 h3
    have hrs := hr.el s hs.mem
    have bad : okSk s = false → skCode K = 1 := fun h => by unfold skCode; rw [all_false hs.mem h]; rfl
    refine Round.yes (decide_eq_true h3) (Round.at hs.idx (Round.bind (e85 _ _ _) ?_))
    cases h1 : inR (s.length : Int) 1 60 with
    | false =>
      rw [bad (by unfold okSk; rw [h1]; rfl)]
      exact Round.yes rfl (Round.done (Evt.some _))
    | true =>
      refine Round.no (by simp) ?_
      refine for_round' 0 (s.length : Int) (fun j (_ : Unit) => (K, i, j, ())) (fun j _ => ∀ m ∈ s.take j.toNat, okMk m = true) (b0 := ()) rfl (by omega) (fun m hm => by simp at hm) ?_ ?_
      · intro j _ j2 j3 hq
        obtain ⟨m, hm⟩ := at_of j2 j3
        refine Round.at hs.idx (Round.yes (decide_eq_true j3) (Round.at hs.idx (Round.at hm.idx (Round.bind (e165 m (hrs.2 m hm.mem).1) (Round.ite (fun h => ?_) (fun h => ?_))))))
        · have h : okMk m = false := by simpa using h
          rw [bad (by unfold okSk; rw [all_false hm.mem h]; simp)]
          exact Round.done (Evt.some _)
        · have h : okMk m = true := by simpa using h
          refine Round.inr _ ⟨(), ?_, fun u hu => ?_⟩
          · show (K, i, wr .i64 (j + 1), ()) = _
            rw [wr_succ j2 j3 (by omega)]
          · rw [hm.take] at hu
            rcases List.mem_append.1 hu with hu | hu
            · exact hq u hu
            · have : u = m := by simpa using hu
              rw [this]; exact h
      · intro _ hq
        rw [take_all] at hq
        refine Round.at hs.idx (Round.no (by simp) (Round.inl _ ⟨(), ?_, fun u hu => ?_⟩))
        · show (K, wr .i64 (i + 1), ()) = _
          rw [wr_succ h2 h3 (by omega)]
        · rw [hs.take] at hu
          rcases List.mem_append.1 hu with hu | hu
          · exact hp u hu
          · have : u = s := by simpa using hu
            rw [this]
            unfold okSk
            rw [h1, List.all_eq_true.2 hq]; rfl
  · intro _ hp
    rw [take_all] at hp
    have : K.all okSk = true := List.all_eq_true.2 hp
    have hsk : skCode K = if (K.length : Int) > 20 then 3 else 0 := by unfold skCode; rw [this]; rfl
    rw [hsk]
    refine Round.no (by simp) (Round.ite (fun h => ?_) (fun h => ?_))
    · rw [if_pos (of_decide_eq_true h)]; exact Round.done (Evt.some _)
    · rw [if_neg (by simpa using h)]; exact Round.done (Evt.some _)
/- spec.l01Size -/
theorem e106 {a : Int} (h1 : -1000000000000 ≤ a) (h2 : a ≤ 1000000000000) : Evt (fun n => call T C n 106 (a, ())) ((siz a, ()), ()) := by
  refine Evt.next ?_ (fun n => r106 n a)
  unfold siz
  rw [wrap_id (x := 0 - a) (by omega) (by omega)]
  refine Evt.ite (fun h => ?_) (fun h => ?_)
  · rw [if_pos (of_decide_eq_true h), Int.zero_sub]; exact Evt.some _
  · rw [if_neg (by simpa using h)]; exact Evt.some _
/- spec.l00Max -/
theorem e98 (a b : Int) : Evt (fun n => call T C n 98 (a, b, ())) ((max a b, ()), ()) := by
  refine Evt.next (Evt.ite (fun h => ?_) (fun h => ?_)) (fun n => r98 n a b)
  · have h : a > b := of_decide_eq_true h
    rw [show max a b = a by omega]; exact Evt.some _
  · have h : ¬ a > b := by simpa using h
    rw [show max a b = b by omega]; exact Evt.some _
/- spec.l07Far -/
theorem e219 {a b : Mk} (ha : OnP a) (hb : OnP b) : Evt (fun n => call T C n 219 (a, b, ())) ((far a b, ()), ()) := by
  have hx := ha.x; have hy := ha.y; have kx := hb.x; have ky := hb.y
  refine Evt.next ?_ (fun n => r219 n a b)
  refine Evt.chk rfl (Evt.at ha.get0 (Evt.chk rfl (Evt.at hb.get0 ?_)))
  rw [wrap_id (x := g a 0) (by omega) (by omega), wrap_id (x := g b 0) (by omega) (by omega), wrap_id (by omega) (by omega)]
  refine Evt.bind (e106 (by omega) (by omega)) (Evt.chk rfl (Evt.at ha.get1 (Evt.chk rfl (Evt.at hb.get1 ?_))))
  rw [wrap_id (x := g a 1) (by omega) (by omega), wrap_id (x := g b 1) (by omega) (by omega), wrap_id (by omega) (by omega)]
  exact Evt.bind (e106 (by omega) (by omega)) (Evt.bind (e98 _ _) (Evt.some _))
/- spec.l01Near -/
theorem e179 {x n : Int} (hn : 0 < n) (hn' : n ≤ 10000000000000) (h1 : -2000000000000000000 ≤ x) (h2 : x ≤ 2000000000000000000) : Evt (fun m => call T C m 179 (x, n, ())) ((nr x n, ()), ()) := by
  have hbd := ediv_bd (a := 2 * x + n) (b := 2 * n) (M := 4500000000000000000) (by omega) (by omega) (by omega) (by omega)
  have he := floorDiv_eq (a := 2 * x + n) (b := 2 * n) (by omega)
  refine Evt.next ?_ (fun m => r179 m x n)
  rw [wrap_id (x := 2 * n) (by omega) (by omega), wrap_id (x := 2 * x) (by omega) (by omega), wrap_id (x := 2 * x + n) (by omega) (by omega)]
  refine Evt.chk (bne_pos (by omega)) (Evt.chk (bne_pos (by omega)) (Evt.ite (fun h => ?_) (fun h => ?_)))
  · have h : Int.tmod (2 * x + n) (2 * n) < 0 := of_decide_eq_true h
    rw [if_pos h] at he
    refine (Evt.some _).of_eq fun m => ?_
    rw [wrap_id (x := Int.tdiv (2 * x + n) (2 * n)) (by omega) (by omega), wrap_id (by omega) (by omega), he]
    rfl
  · have h : ¬ Int.tmod (2 * x + n) (2 * n) < 0 := by simpa using h
    rw [if_neg h] at he
    refine (Evt.some _).of_eq fun m => ?_
    rw [wrap_id (x := Int.tdiv (2 * x + n) (2 * n)) (by omega) (by omega), he]
    rfl
/- spec.l07Line -/
theorem e202 {a b : Mk} (ha : OnP a) (hb : OnP b) : Evt (fun n => call T C n 202 (a, b, ())) ((lineM a b, ()), ()) := by
  obtain ⟨f0, f1, f2⟩ := far_bd ha hb
  refine Evt.next (Evt.bind (e219 ha hb) (Evt.ite (fun h => ?_) (fun h => ?_))) (fun n => r202 n a b)
  · have h : far a b = 0 := by simpa using h
    unfold lineM; rw [if_pos h]; exact Evt.some _
  have h : far a b ≠ 0 := by simpa using h
  have e : lineM a b = (List.range (far a b + 1).toNat).map fun k => ptM a b (k : Nat) := by unfold lineM; rw [if_neg h]
  rw [e]
  refine for_evt' 0 (far a b + 1) (fun i (_ : Unit) => (a, b, far a b, (List.range i.toNat).map (fun k => ptM a b (k : Nat)), i, ())) (fun _ _ => True) (b0 := ()) rfl (by omega) trivial ?_ ?_
  · intro i _ h2 h3 _
    refine Round.yes (decide_eq_true (show i ≤ far a b by omega)) ?_
    refine for_round' 0 2 (fun j (m : List Int) => (a, b, far a b, (List.range i.toNat).map (fun k => ptM a b (k : Nat)), i, m, j, ())) (fun j m => m = ((List.range j.toNat).map (fun u => pt a b i u)) ++ List.replicate (2 - j.toNat) 0) (b0 := List.replicate 2 0) rfl (by omega) (by simp) ?_ ?_
    · intro j m j0 j1 hm
      have hj : j = 0 ∨ j = 1 := by omega
      have hga := g_idx (l := a) j0 (by have := ha.len; omega)
      have hgb := g_idx (l := b) j0 (by have := hb.len; omega)
      have hu : j.toNat = 0 ∨ j.toNat = 1 := by omega
      have ba : 0 ≤ g a j.toNat ∧ g a j.toNat ≤ 63 := by rcases hu with e | e <;> rw [e]; exact ha.x; exact ha.y
      have bb : 0 ≤ g b j.toNat ∧ g b j.toNat ≤ 63 := by rcases hu with e | e <;> rw [e]; exact hb.x; exact hb.y
      have hk := kd_bd ha hb h2 (by omega) hu
      have hp := pt_bd ha hb h h2 (by omega) hu
      have hm2 : m.length = 2 := by rw [hm]; simp; omega
      have hgm := g_idx (l := m) j0 (by omega)
      show Round (fun n ag => if decide (j < 2) = true then _ else _) _ _
      simp only [wrap_id (x := g a j.toNat) (by omega) (by omega), wrap_id (x := g b j.toNat) (by omega) (by omega), wrap_id (x := j + 1) (by omega) (by omega)]
      refine Round.yes (decide_eq_true j1) (Round.chk (decide_eq_true (by omega)) (Round.at hga.get (Round.chk (decide_eq_true (by omega)) (Round.at hgb.get (Round.chk (decide_eq_true (by omega)) (Round.at hga.get ?_))))))
      simp only [wrap_id (x := g a j.toNat) (by omega) (by omega), wrap_id (x := g b j.toNat) (by omega) (by omega), wrap_id (x := g b j.toNat - g a j.toNat) (by omega) (by omega), wrap_id (x := i * (g b j.toNat - g a j.toNat)) (by omega) (by omega)]
      refine Round.bind (e179 (by omega) (by omega) (by omega) (by omega)) (Round.chk (decide_eq_true (by omega)) (Round.at hgm.get (Round.inr _ ⟨_, rfl, ?_⟩)))
      have hpt : g a j.toNat + nr (i * (g b j.toNat - g a j.toNat)) (far a b) = pt a b i j.toNat := rfl
      show m.set j.toNat (wr .i16 (wr .i64 (g a j.toNat + nr (i * (g b j.toNat - g a j.toNat)) (far a b)))) = _
      rw [hpt, wrap_id (by omega) (by omega), wrap16 (by omega) (by omega), hm]
      rcases hj with rfl | rfl
      · rfl
      · rfl
    · intro m hm
      have hm : m = ptM a b i := hm
      refine Round.no (by simp) (Round.chk (decide_eq_true (by simp; omega)) (Round.inl _ ⟨(), ?_, trivial⟩))
      rw [hm, wrap_id (x := i + 1) (by omega) (by omega), show (i + 1).toNat = i.toNat + 1 by omega, List.range_succ, List.map_append]
      simp [show ((i.toNat : Nat) : Int) = i by omega]
  · intro _ _
    exact Round.no (by simp; omega) (Round.done (Evt.some _))
/- spec.l00Min -/
theorem e184 (a b : Int) : Evt (fun n => call T C n 184 (a, b, ())) ((min a b, ()), ()) := by
  refine Evt.next (Evt.ite (fun h => ?_) (fun h => ?_)) (fun n => r184 n a b)
  · have h : a < b := of_decide_eq_true h
    rw [show min a b = a by omega]; exact Evt.some _
  · have h : ¬ a < b := by simpa using h
    rw [show min a b = b by omega]; exact Evt.some _
/- spec.l07Marks -/
theorem e203 (a b : Stk) (hl : (a.length : Int) ≤ 140737488351232) : Evt (fun n => call T C n 203 (a, b, ())) ((decide (a = b), ()), ()) := by
  refine Evt.next ?_ (fun n => r203 n a b)
  refine Evt.ite (fun h => ?_) (fun h => ?_)
  · have h : (a.length : Int) ≠ b.length := by simpa using h
    rw [decide_eq_false (fun e => h (by rw [e]))]; exact Evt.some _
  have h : a.length = b.length := by
    have h : (a.length : Int) = b.length := by simpa using h
    omega
  refine for_evt' 0 (a.length : Int) (fun i (_ : Unit) => (a, b, i, ())) (fun i _ => a.take i.toNat = b.take i.toNat) (b0 := ()) rfl (by omega) (by simp) ?_ ?_
  · intro i _ h2 h3 hp
    obtain ⟨u, hu⟩ := at_of h2 h3
    obtain ⟨v, hv⟩ := at_of (l := b) h2 (by omega)
    refine Round.yes (decide_eq_true h3) (Round.at hu.idx (Round.at hv.idx (Round.ite (fun hc => ?_) (fun hc => ?_))))
    · have hc : u ≠ v := by simpa using hc
      have : a ≠ b := fun e => by
        subst e
        have := hu.get
        rw [hv.get] at this
        exact hc (Option.some.inj this).symm
      rw [decide_eq_false this]
      exact Round.done (Evt.some _)
    · have hc : u = v := by simpa using hc
      refine Round.again _ ⟨(), ?_, by rw [hu.take, hv.take, hp, hc]⟩
      rw [wr_succ h2 h3 (by omega)]
  · intro _ hp
    rw [take_all, h, take_all] at hp
    rw [decide_eq_true hp]
    exact Round.no (by simp) (Round.done (Evt.some _))
/- (*spec.l07Plan).stop -/
theorem e167 (a : Mk) (S : List Stp) (most : Int) (m : Mk) (d : Bool) (hl : S.length ≤ 10000000) : Evt (fun n => call T C n 167 ((a, S, most, ()), m, d, ())) ((), ((m, S ++ [(m, d, ())], most, ()), ())) := Evt.next (Evt.chk (decide_eq_true (by simp; omega)) (Evt.some _)) (fun n => r167 n _ m d)
/- (*spec.l07Plan).goTo -/
theorem e166 {a b : Mk} (S : List Stp) {most : Int} (down : Bool) (ha : OnP a) (hb : OnP b) (m0 : 1 ≤ most) (m1 : most ≤ 63) (hS : S.length ≤ 1000000) : Evt (fun n => call T C n 166 ((a, S, most, ()), b, down, ())) ((), ((b, S ++ goL most.toNat down a b, most, ()), ())) := by
  have hlen := lineM_length ha hb
  obtain ⟨f0, f1, _⟩ := far_bd ha hb
  have hon := lineM_on ha hb
  refine Evt.next (Evt.bind (e202 ha hb) ?_) (fun n => r166 n (a, S, most, ()) b down)
  obtain ⟨L, hL⟩ := (⟨_, rfl⟩ : ∃ L, L = lineM a b)
  rw [← hL] at hlen hon
  have wn : wr .i64 ((L.length : Int) - 1) = (L.length : Int) - 1 := wrap_id (by omega) (by omega)
  show Evt (fun n => loopK _ n ((a, S, most, ()), down, lineM a b, wr .i64 (((lineM a b).length : Int) - 1), 0, ())) _
  rw [← hL, wn]
  have tot : goL most.toNat down a b = goF most.toNat down L 64 0 := by unfold goL; rw [← hL]
  rw [tot]
  refine loop_evt (fun x => ∃ (i f : Nat) (Q : List Stp) (cur : Mk), x = ((cur, Q, most, ()), down, L, (L.length : Int) - 1, (i : Int), ()) ∧ i ≤ L.length - 1 ∧ L.length - 1 - i ≤ f ∧ Q ++ goF most.toNat down L f i = S ++ goF most.toNat down L 64 0 ∧ Q.length ≤ S.length + i ∧ (i = L.length - 1 → cur = b)) (fun x => (((L.length : Int) - 1) - x.2.2.2.2.1).toNat) ⟨0, 64, S, a, rfl, by omega, by omega, rfl, by omega, fun h => ?_⟩ ?_
  · exact far_zero ha hb (by omega)
  rintro x ⟨i, f, Q, cur, rfl, hi, hf, hq, hql, hcur⟩
  show Round (fun n ag => if decide ((i : Int) < (L.length : Int) - 1) = true then _ else _) _ _
  refine Round.ite (fun hc => ?_) (fun hc => ?_)
  · have hc : (i : Int) < (L.length : Int) - 1 := of_decide_eq_true hc
    obtain ⟨f, rfl⟩ : ∃ f', f = f' + 1 := ⟨f - 1, by omega⟩
    have hj := toJ_bd (most := most.toNat) (by omega) down ha hb (i := i) (by rw [← hL]; omega)
    rw [← hL] at hj
    obtain ⟨j, hje⟩ := (⟨_, rfl⟩ : ∃ j, j = toJ most.toNat down L i)
    rw [← hje] at hj
    rw [goF, if_pos (by omega), ← hje] at hq
    have hjat := gM_idx (L := L) (i := (j : Int)) (by omega) (by omega)
    rw [Int.toNat_natCast] at hjat
    have him : wr .i64 ((i : Int) + most) = (i : Int) + most := wrap_id (by omega) (by omega)
    refine Round.bind (v := ((min ((i : Int) + most) ((L.length : Int) - 1), ()), ())) (by
      show Evt (fun n => call T C n 184 (wr .i64 ((i : Int) + most), (L.length : Int) - 1, ())) _
      rw [him]; exact e184 _ _) ?_
    have hnext : ∃ (i' f' : Nat) (Q' : List Stp) (cur' : Mk), (((gM L j, Q ++ [(gM L j, down, ())], most, ()), down, L, (L.length : Int) - 1, (j : Int), ()) : (Mk × (List Stp × (Int × Unit))) × Bool × Stk × Int × Int × Unit) = ((cur', Q', most, ()), down, L, (L.length : Int) - 1, (i' : Int), ()) ∧ i' ≤ L.length - 1 ∧ L.length - 1 - i' ≤ f' ∧ Q' ++ goF most.toNat down L f' i' = S ++ goF most.toNat down L 64 0 ∧ Q'.length ≤ S.length + i' ∧ (i' = L.length - 1 → cur' = b) := ⟨j, f, Q ++ [(gM L j, down, ())], gM L j, rfl, hj.2, by omega, by rw [List.append_assoc]; exact hq, by rw [List.length_append, List.length_singleton]; omega, fun e => by rw [e, hL]; exact line_last ha hb⟩
    have hμ : (((L.length : Int) - 1) - (j : Int)).toNat < (((L.length : Int) - 1) - (i : Int)).toNat := by omega
    cases down with
    | false =>
      have hjv : (j : Int) = min ((i : Int) + most) ((L.length : Int) - 1) := by rw [hje]; unfold toJ; rw [if_neg (by simp)]; omega
      refine loop_round (fun y => y = ((cur, Q, most, ()), false, L, (L.length : Int) - 1, (i : Int), (j : Int), ())) (fun _ => 0) (by rw [hjv]) ?_
      rintro y rfl
      exact Round.no (by simp) (Round.at hjat.idx (Round.bind (e167 cur Q most (gM L j) false (by omega)) (Round.inl _ ⟨hnext, hμ⟩)))
    | true =>
      have hjv : j = bkJ L i (min (i + most.toNat) (L.length - 1)) := by rw [hje]; unfold toJ; rw [if_pos rfl]
      refine loop_round (fun y => ∃ u : Nat, i < u ∧ u ≤ L.length - 1 ∧ bkJ L i u = j ∧ y = ((cur, Q, most, ()), true, L, (L.length : Int) - 1, (i : Int), (u : Int), ())) (fun y => y.2.2.2.2.2.1.toNat) ⟨min (i + most.toNat) (L.length - 1), by omega, by omega, hjv.symm, by
        show _ = ((cur, Q, most, ()), true, L, (L.length : Int) - 1, (i : Int), ((min (i + most.toNat) (L.length - 1) : Nat) : Int), ())
        rw [show ((min (i + most.toNat) (L.length - 1) : Nat) : Int) = min ((i : Int) + most) ((L.length : Int) - 1) by omega]⟩ ?_
      rintro y ⟨u, hu0, hu1, hub, rfl⟩
      have hiat := gM_idx (L := L) (i := (i : Int)) (by omega) (by omega)
      have huat := gM_idx (L := L) (i := (u : Int)) (by omega) (by omega)
      rw [Int.toNat_natCast] at hiat huat
      have w1 : wr .i64 ((u : Int) + 1) = (u : Int) + 1 := wrap_id (by omega) (by omega)
      have w2 : wr .i64 ((u : Int) - 1) = (u : Int) - 1 := wrap_id (by omega) (by omega)
      obtain ⟨u', rfl⟩ : ∃ u', u = u' + 1 := ⟨u - 1, by omega⟩
      have hll := lineM_len (hon _ hiat.mem) (hon _ huat.mem)
      refine Round.yes rfl (Round.at hiat.idx (Round.at huat.idx (Round.bind (e202 (hon _ hiat.mem) (hon _ huat.mem)) ?_)))
      show Round (fun n ag => chk (decide (0 ≤ (i : Int) ∧ (i : Int) ≤ wr .i64 (((u' + 1 : Nat) : Int) + 1) ∧ wr .i64 (((u' + 1 : Nat) : Int) + 1) ≤ (L.length : Int))) ((call T C n 203 (lineM (gM L i) (gM L (u' + 1)), ((L.take (Int.toNat (wr .i64 (((u' + 1 : Nat) : Int) + 1)))).drop (Int.toNat (i : Int))), ())).bind _)) _ _
      rw [w1]
      refine Round.chk (decide_eq_true (by omega)) ?_
      rw [show (((u' + 1 : Nat) : Int) + 1).toNat = u' + 2 by omega, Int.toNat_natCast]
      refine Round.bind (e203 _ _ (by omega)) (Round.ite (fun hd => ?_) (fun hd => ?_))
      · have hd : ¬ lineM (gM L i) (gM L (u' + 1)) = (L.take (u' + 2)).drop i := by simpa using hd
        rw [bkJ, if_neg hd] at hub
        refine Round.inr _ ⟨⟨u', ?_, by omega, hub, ?_⟩, ?_⟩
        · by_cases e : i = u'
          · subst e
            have h1 : (i : Int) < far a b := by omega
            have h2 := line_step ha hb h1
            rw [← hL] at h2
            exact absurd (by rw [h2, seg_two (by omega)]) hd
          · omega
        · show ((cur, Q, most, ()), true, L, (L.length : Int) - 1, (i : Int), wr .i64 (((u' + 1 : Nat) : Int) - 1), ()) = _
          rw [w2, show ((u' + 1 : Nat) : Int) - 1 = (u' : Int) by omega]
        · show (wr .i64 (((u' + 1 : Nat) : Int) - 1)).toNat < (((u' + 1 : Nat) : Int)).toNat
          rw [w2]; omega
      · have hd : lineM (gM L i) (gM L (u' + 1)) = (L.take (u' + 2)).drop i := by simpa using hd
        rw [bkJ, if_pos hd] at hub
        rw [← hub] at hnext hμ
        exact Round.at huat.idx (Round.bind (e167 cur Q most (gM L (u' + 1)) true (by omega)) (Round.inl _ ⟨hnext, hμ⟩))
  · have hc : ¬ (i : Int) < (L.length : Int) - 1 := by simpa using hc
    rw [goF_last _ _ _ _ (by omega), List.append_nil] at hq
    rw [← hq, hcur (by omega)]
    exact Round.done (Evt.some _)
/- spec.l07Planned -/
theorem e86 (K : List Stk) {most : Int} (G : GoodT K) (m0 : 1 ≤ most) (m1 : most ≤ 63) : Evt (fun n => call T C n 86 (K, most, ())) ((plP most.toNat K, ()), ()) := by
  have hkl := G.len
  refine Evt.next ?_ (fun n => r86 n K most)
  have hst : ∀ i : Nat, OnP (plF most.toNat (K.take i)).1 ∧ (plF most.toNat (K.take i)).2.length ≤ 4000 * 20 := fun i => by
    obtain ⟨a, b⟩ := plF_on (most := most.toNat) (K := K.take i) (fun s hs => G.el s (List.mem_of_mem_take hs))
    rw [List.length_take] at b
    exact ⟨a, by omega⟩
  refine for_evt' 0 (K.length : Int) (fun i (_ : Unit) => (K, ((plF most.toNat (K.take i.toNat)).1, (plF most.toNat (K.take i.toNat)).2, most, ()), i, ())) (fun _ _ => True) (b0 := ()) rfl (by omega) trivial ?_ ?_
  · intro i _ h2 h3 _
    obtain ⟨s, hs⟩ := at_of h2 h3
    obtain ⟨gl, gm⟩ := G.el s hs.mem
    obtain ⟨hon, hln⟩ := hst i.toNat
    obtain ⟨st, hste⟩ := (⟨_, rfl⟩ : ∃ st, st = plF most.toNat (K.take i.toNat))
    rw [← hste] at hon hln ⊢
    have h0 := gM_idx (L := s) (i := 0) (Int.le_refl _) (by omega)
    have o0' : OnP (gM s 0) := gm _ h0.mem
    have g1 := goL_len most.toNat false st.1 (gM s 0)
    have hnext : plF most.toNat (K.take (i + 1).toNat) = stF most.toNat st s := by rw [hs.take, hste]; unfold plF; rw [List.foldl_append]; rfl
    refine Round.yes (decide_eq_true h3) (Round.at hs.idx (Round.at h0.idx (Round.bind (e166 st.2 false hon o0' m0 m1 (by omega)) (Round.at hs.idx (Round.at h0.idx (Round.bind (e167 (gM s 0) (st.2 ++ goL most.toNat false st.1 (gM s 0)) most (gM s 0) true (by rw [List.length_append]; omega)) ?_))))))
    obtain ⟨st1, hst1⟩ := (⟨_, rfl⟩ : ∃ st1 : Mk × List Stp, st1 = (gM s 0, st.2 ++ goL most.toNat false st.1 (gM s 0) ++ [(gM s 0, true, ())]))
    have hst1l : st1.2.length ≤ 80100 := by rw [hst1]; simp only [List.length_append, List.length_singleton]; omega
    refine for_round' 1 (s.length : Int) (fun j (_ : Unit) => (K, ((((s.take j.toNat).drop 1).foldl (drF most.toNat) st1).1, (((s.take j.toNat).drop 1).foldl (drF most.toNat) st1).2, most, ()), i, j, ())) (fun _ _ => True) (b0 := ()) ?_ (by omega) trivial ?_ ?_
    · have : (s.take (1 : Int).toNat).drop 1 = [] := List.drop_of_length_le (by simp; omega)
      rw [this, hst1]
      rfl
    · intro j _ j2 j3 _
      obtain ⟨m, hm⟩ := at_of (l := s) (show 0 ≤ j by omega) j3
      have hd : (s.take (j + 1).toNat).drop 1 = (s.take j.toNat).drop 1 ++ [m] := by
        rw [hm.take, List.drop_append_of_le_length (by simp; omega)]
      obtain ⟨a, b⟩ := drF_on (most := most.toNat) (l := (s.take j.toNat).drop 1) (fun x hx => gm x (List.mem_of_mem_take (List.mem_of_mem_drop hx))) (st := st1) (by rw [hst1]; exact o0')
      rw [List.length_drop, List.length_take] at b
      refine Round.at hs.idx (Round.yes (decide_eq_true j3) (Round.at hs.idx (Round.at hm.idx (Round.bind (e166 (((s.take j.toNat).drop 1).foldl (drF most.toNat) st1).2 true a (gm m hm.mem) m0 m1 (by omega)) (Round.inr _ ⟨(), ?_, trivial⟩)))))
      rw [hd, List.foldl_append]
      show (K, (m, _ ++ goL most.toNat true _ m, most, ()), i, wr .i64 (j + 1), ()) = _
      rw [wrap_id (x := j + 1) (by omega) (by omega)]
      rfl
    · intro _ _
      rw [take_all]
      refine Round.at hs.idx (Round.no (by simp) (Round.inl _ ⟨(), ?_, trivial⟩))
      show (K, (((s.drop 1).foldl (drF most.toNat) st1).1, ((s.drop 1).foldl (drF most.toNat) st1).2, most, ()), wr .i64 (i + 1), ()) = _
      rw [hnext, wr_succ h2 h3 (by omega), hst1]
      rfl
  · intro _ _
    obtain ⟨hon, hln⟩ := hst (K.length : Int).toNat
    rw [take_all] at hon hln ⊢
    exact Round.no (by simp) (Round.done (Evt.bind (e166 (plF most.toNat K).2 false hon o0_on m0 m1 (by omega)) (Evt.some _)))
/- spec.PlanStops -/
theorem e19 (K : List Stk) (hr : RngT K) (most : Int) : Evt (fun n => call T C n 19 (K, most, ())) (psR K most, ()) := by
  refine Evt.next (Evt.bind (e84 K hr) (Evt.ite (fun h => ?_) (fun h => ?_))) (fun n => r19 n K most)
  · have h : skCode K = 0 := by simpa using h
    refine Evt.bind (e85 _ _ _) (Evt.ite (fun hm => ?_) (fun hm => ?_))
    · have hm : inR most 1 63 = false := by simpa using hm
      have : psR K most = ([], 2, ()) := by unfold psR; rw [if_neg (by omega), if_pos hm]
      rw [this]
      exact Evt.yes rfl (Evt.some _)
    · have hm : inR most 1 63 = true := by simpa using hm
      have hb := inR_iff.1 hm
      have : psR K most = if ((plP most.toNat K).length : Int) > 360 then ([], 4, ()) else (plP most.toNat K, 0, ()) := by unfold psR; rw [if_neg (by omega), if_neg (by rw [hm]; simp)]
      rw [this]
      refine Evt.no (by rw [h]; simp) (Evt.bind (e86 K (goodT hr h) hb.1 hb.2) (Evt.ite (fun h => ?_) (fun h => ?_)))
      · rw [if_pos (of_decide_eq_true h)]; exact Evt.some _
      · rw [if_neg (by simpa using h)]; exact Evt.some _
  · have h : skCode K ≠ 0 := by simpa using h
    have : psR K most = ([], skCode K, ()) := by unfold psR; rw [if_pos h]
    rw [this]
    exact Evt.yes (by simpa using h) (Evt.some _)
/- spec.l07For -/
theorem e97 (l : List Stp) (he : ∀ v ∈ l, v.1.length = 2) {m : Int} (h0 : 0 ≤ m) (h1 : m ≤ 1000) (hl : (l.length : Int) ≤ 1000) : Evt (fun n => call T C n 97 (l, m, ())) ((mfR l m.toNat, ()), ()) := by
  refine Evt.next ?_ (fun n => r97 n l m)
  refine for_evt' 0 m (fun i (_ : Unit) => (l, m, (([], [], [], ()) : Mch), mfR l i.toNat, i, ())) (fun _ _ => True) (b0 := ()) rfl h0 trivial ?_ ?_
  · intro i _ h2 h3 _
    have l1 : ((mfR l i.toNat).1.length : Int) ≤ 1000 := by simp [mfR]; omega
    have l2 : ((mfR l i.toNat).2.1.length : Int) ≤ 1000 := by simp [mfR]; omega
    have l3 : ((mfR l i.toNat).2.2.1.length : Int) ≤ 1000 := by simp [mfR]; omega
    have e : mfR l (i + 1).toNat = ((mfR l i.toNat).1 ++ [g (gS l i.toNat).1 0], (mfR l i.toNat).2.1 ++ [g (gS l i.toNat).1 1], (mfR l i.toNat).2.2.1 ++ [pen (gS l i.toNat)], ()) := by rw [show (i + 1).toNat = i.toNat + 1 by omega, mfR_succ]
    refine Round.yes (decide_eq_true h3) ?_
    have two : ∀ v : Mk, v.length = 2 → v[(Int.toNat 0)]? = some (g v 0) ∧ v[(Int.toNat 1)]? = some (g v 1) := fun v hv => ⟨(g_idx (l := v) (i := 0) (by omega) (by omega)).get, (g_idx (l := v) (i := 1) (by omega) (by omega)).get⟩
    refine Round.ite (fun hc => ?_) (fun hc => ?_)
    rotate_left
    all_goals (first | (have hc : i < (l.length : Int) := of_decide_eq_true hc) | (have hc : ¬ i < (l.length : Int) := by simpa using hc))
    rotate_left
    · have hv := gS_idx (l := l) h2 hc
      obtain ⟨t0, t1⟩ := two (gS l i.toNat).1 (he _ hv.mem)
      refine Round.at hv.idx (Round.at hv.idx (Round.ite (fun hd => ?_) (fun hd => ?_)))
      · have hp : pen (gS l i.toNat) = 0 := by unfold pen; exact if_pos hd
        refine Round.chk rfl (Round.at t0 (Round.chk (decide_eq_true (by simp; omega)) (Round.chk rfl (Round.at t1 (Round.chk (decide_eq_true (by simp; omega)) (Round.chk (decide_eq_true (by simp; omega)) (Round.again _ ⟨(), ?_, trivial⟩)))))))
        rw [wr_succ h2 h3 (by omega), e, hp]
      · have hp : pen (gS l i.toNat) = 1 := by unfold pen; exact if_neg hd
        refine Round.chk rfl (Round.at t0 (Round.chk (decide_eq_true (by simp; omega)) (Round.chk rfl (Round.at t1 (Round.chk (decide_eq_true (by simp; omega)) (Round.chk (decide_eq_true (by simp; omega)) (Round.again _ ⟨(), ?_, trivial⟩)))))))
        rw [wr_succ h2 h3 (by omega), e, hp]
    · have hg := gS_out (l := l) (i := i.toNat) (by omega)
      refine Round.chk rfl (Round.at (v := (0 : Int)) rfl (Round.chk (decide_eq_true (by simp; omega)) (Round.chk rfl (Round.at (v := (0 : Int)) rfl (Round.chk (decide_eq_true (by simp; omega)) (Round.chk (decide_eq_true (by simp; omega)) (Round.again _ ⟨(), ?_, trivial⟩)))))))
      rw [wr_succ h2 h3 (by omega), e, hg]
      rfl
  · intro _ _
    exact Round.no (by simp) (Round.done (Evt.some _))
/- spec.CompileStrokes -/
theorem e25 (K : List Stk) (hr : RngT K) (most : Int) : Evt (fun n => call T C n 25 (K, most, ())) (csR K most, ()) := by
  have hl := psR_len K most
  refine Evt.next (Evt.bind (e19 K hr most) (Evt.ite (fun h => ?_) (fun h => ?_))) (fun n => r25 n K most)
  · have h : (psR K most).2.1 ≠ 0 := by simpa using h
    have : csR K most = (([], [], [], ()), (psR K most).2.1, ()) := by unfold csR; rw [if_pos h]
    rw [this]; exact Evt.some _
  · have h : (psR K most).2.1 = 0 := by simpa using h
    have : csR K most = (mfR (psR K most).1 (max 8 (psR K most).1.length), 0, ()) := by unfold csR; rw [if_neg (by omega)]
    rw [this]
    refine Evt.bind (e98 _ _) (Evt.bind (e97 (psR K most).1 (psR_el hr most) (m := max 8 ((psR K most).1.length : Int)) (by omega) (by omega) (by omega)) ?_)
    rw [show (max 8 ((psR K most).1.length : Int)).toNat = max 8 (psR K most).1.length by omega]
    exact Evt.some _
/- impl.inRange -/
theorem e91 (a b c : Int) : Evt (fun n => call T C n 91 (a, b, c, ())) ((inR a b c, ()), ()) := by
  refine Evt.next ?_ (fun n => r91 n a b c)
  refine Evt.ite (fun h => ?_) (fun h => ?_)
  · refine (Evt.some _).of_eq fun n => ?_
    have h : b ≤ a := of_decide_eq_true h
    simp [inR, h]
    rfl
  · refine (Evt.some _).of_eq fun n => ?_
    have h : ¬ b ≤ a := by simpa using h
    simp [inR, h]
    rfl
/- impl.ValidMark -/
theorem e173 (m : Mk) (h : m.length = 2) : Evt (fun n => call T C n 173 (m, ())) ((okMk m, ()), ()) := by
  have h0 := (g_idx (l := m) (i := 0) (by omega) (by omega)).get
  have h1 := (g_idx (l := m) (i := 1) (by omega) (by omega)).get
  refine Evt.next (Evt.chk rfl (Evt.at h0 (Evt.bind (e91 _ _ _) ?_))) (fun n => r173 n m)
  unfold okMk
  refine Evt.ite (fun hc => ?_) (fun hc => ?_)
  · have hc : inR (wr .i64 (g m 0)) 0 63 = true := hc
    rw [hc]
    exact Evt.chk rfl (Evt.at h1 (Evt.bind (e91 _ _ _) (Evt.some _)))
  · have hc : inR (wr .i64 (g m 0)) 0 63 = false := by
      have : ¬ inR (wr .i64 (g m 0)) 0 63 = true := hc
      simpa using this
    rw [hc]
    exact Evt.some _
/- impl.strokesCode$1$1 -/
theorem e172 (m : Mk) (h : m.length = 2) : Evt (fun n => call T C n 172 (m, ())) ((!okMk m, ()), ()) := Evt.next (Evt.bind (e173 m h) (Evt.some _)) (fun n => r172 n m)
/- slices.IndexFunc[impl.Stroke,impl.Mark]{impl.strokesCode$1$1} -/
theorem e205 (l : List Mk)  (hl' : (l.length : Int) ≤ 140737488351232) (hr : ∀ m ∈ l, m.length = 2) : Evt (fun n => call T C n 205 (l, ((), ()), ())) ((fi (fun v => !okMk v) l 0, ()), ()) := by
  have hl : (l.length : Int) ≤ 140737488351232 := hl'
  refine Evt.next ?_ (fun n => r205 n l ((), ()))
  refine for_evt' 0 (l.length : Int) (fun i (_ : Unit) => (l, ((), ()), (l.length : Int), i, ())) (fun i _ => fi (fun v => !okMk v) l 0 = fi (fun v => !okMk v) (l.drop i.toNat) i) (b0 := ()) rfl (by omega) (by simp) ?_ ?_
  · intro i _ h2 h3 hp
    obtain ⟨v, hv⟩ := at_of h2 h3
    rw [hv.drop] at hp
    simp only [fi] at hp
    refine Round.yes (decide_eq_true h3) (Round.at hv.idx (Round.bind (e172 v (hr v hv.mem)) ?_))
    cases hb : !okMk v with
    | true =>
      simp only [hb, if_true] at hp
      rw [hp]
      exact Round.yes rfl (Round.done (Evt.some _))
    | false =>
      simp only [hb, Bool.false_eq_true, if_false] at hp
      exact Round.no (by simp) (Round.again _ ⟨(), by rw [wr_succ h2 h3 (by omega)], hp⟩)
  · intro _ hp
    rw [drop_all] at hp
    rw [hp]
    exact Round.no (by simp) (Round.done (Evt.some _))
/- slices.ContainsFunc[impl.Stroke,impl.Mark]{impl.strokesCode$1$1} -/
theorem e171 (l : List Mk)  (hl' : (l.length : Int) ≤ 140737488351232) (hr : ∀ m ∈ l, m.length = 2) : Evt (fun n => call T C n 171 (l, ((), ()), ())) ((l.any (fun v => !okMk v), ()), ()) := by
  refine Evt.next (Evt.bind (e205 l  hl' hr) ((Evt.some _).of_eq fun n => ?_)) (fun n => r171 n l ((), ()))
  simp only [fi_any _ l 0 (Int.le_refl _)]
  rfl
/- impl.strokesCode$1 -/
theorem e170 (s : Stk) (hr : (s.length : Int) * 4 ≤ 140737488351232 ∧ ∀ m ∈ s, m.length = 2 ∧ ∀ v ∈ m, -32768 ≤ v ∧ v ≤ 32767) : Evt (fun n => call T C n 170 (s, ())) ((!okSk s, ()), ()) := by
  refine Evt.next (Evt.bind (e91 _ _ _) ?_) (fun n => r170 n s)
  unfold okSk
  cases h1 : inR (s.length : Int) 1 60 with
  | false => exact Evt.yes rfl (Evt.some _)
  | true =>
    refine Evt.no (by simp) (Evt.bind (e171 s (by omega) (fun m hm => (hr.2 m hm).1)) ((Evt.some _).of_eq fun n => ?_))
    have : (s.any fun v => !okMk v) = !s.all okMk := by simp [List.any_eq_not_all_not]
    rw [this]
    rfl
/- slices.IndexFunc[[]impl.Stroke,impl.Stroke]{impl.strokesCode$1} -/
theorem e204 (l : List Stk)  (hr : RngT l) : Evt (fun n => call T C n 204 (l, ((), ()), ())) ((fi (fun v => !okSk v) l 0, ()), ()) := by
  have hl : (l.length : Int) ≤ 140737488351232 := by have := hr.len'; omega
  refine Evt.next ?_ (fun n => r204 n l ((), ()))
  refine for_evt' 0 (l.length : Int) (fun i (_ : Unit) => (l, ((), ()), (l.length : Int), i, ())) (fun i _ => fi (fun v => !okSk v) l 0 = fi (fun v => !okSk v) (l.drop i.toNat) i) (b0 := ()) rfl (by omega) (by simp) ?_ ?_
  · intro i _ h2 h3 hp
    obtain ⟨v, hv⟩ := at_of h2 h3
    rw [hv.drop] at hp
    simp only [fi] at hp
    refine Round.yes (decide_eq_true h3) (Round.at hv.idx (Round.bind (e170 v (hr.el v hv.mem)) ?_))
    cases hb : !okSk v with
    | true =>
      simp only [hb, if_true] at hp
      rw [hp]
      exact Round.yes rfl (Round.done (Evt.some _))
    | false =>
      simp only [hb, Bool.false_eq_true, if_false] at hp
      exact Round.no (by simp) (Round.again _ ⟨(), by rw [wr_succ h2 h3 (by omega)], hp⟩)
  · intro _ hp
    rw [drop_all] at hp
    rw [hp]
    exact Round.no (by simp) (Round.done (Evt.some _))
/- slices.ContainsFunc[[]impl.Stroke,impl.Stroke]{impl.strokesCode$1} -/
theorem e169 (l : List Stk)  (hr : RngT l) : Evt (fun n => call T C n 169 (l, ((), ()), ())) ((l.any (fun v => !okSk v), ()), ()) := by
  refine Evt.next (Evt.bind (e204 l  hr) ((Evt.some _).of_eq fun n => ?_)) (fun n => r169 n l ((), ()))
  simp only [fi_any _ l 0 (Int.le_refl _)]
  rfl
/- impl.codeIf -/
theorem e90 (c : Bool) (v : Int) : Evt (fun n => call T C n 90 (c, v, ())) (((if c = true then v else 0), ()), ()) := by
  refine Evt.next ?_ (fun n => r90 n c v)
  cases c with
  | true => exact Evt.yes rfl (Evt.some _)
  | false => exact Evt.no (by simp) (Evt.some _)
/- impl.firstCode -/
theorem e88 (l : List Int) (hl : (l.length : Int) ≤ 140737488351232) : Evt (fun n => call T C n 88 (l, ())) ((fst0 l, ()), ()) := by
  refine Evt.next ?_ (fun n => r88 n l)
  refine loop_evt (fun (x : List Int × Int × Int × Unit) => x.1 = l ∧ x.2.1 = (l.length : Int) ∧ 0 ≤ x.2.2.1 ∧ x.2.2.1 ≤ (l.length : Int) ∧ fst0 l = fst0 (l.drop x.2.2.1.toNat)) (fun (x : List Int × Int × Int × Unit) => ((l.length : Int) - x.2.2.1).toNat) (x := (l, (l.length : Int), 0, ())) ⟨rfl, rfl, Int.le_refl _, by simp, by simp⟩ ?_
  rintro ⟨x1, m, i, _⟩ ⟨h', hm, h0, h1, h2⟩
  simp only at h' hm h0 h1 h2
  subst h'; subst hm
  refine Round.ite (fun hlt => ?_) (fun hge => ?_)
  · have hlt : i < (x1.length : Int) := of_decide_eq_true hlt
    obtain ⟨v, hv, hv'⟩ := idx_at h0 hlt
    have hd := drop_cons hv'
    refine Round.at hv (Round.ite (fun hb => ?_) (fun hb => ?_))
    · have hb : v ≠ 0 := by simpa using hb
      have h3 : fst0 x1 = v := by rw [h2, hd]; simp [fst0, hb]
      rw [h3]
      exact Round.done (Evt.some _)
    · have hb : v = 0 := by simpa using hb
      have hw : wr .i64 (i + 1) = i + 1 := wrap_id (by omega) (by omega)
      refine Round.again _ ⟨⟨rfl, rfl, ?_, ?_, ?_⟩, ?_⟩ <;> simp only [hw]
      · omega
      · omega
      · rw [h2, hd, show (i + 1).toNat = i.toNat + 1 by omega]
        simp [fst0, hb]
      · omega
  · have hge : ¬ i < (x1.length : Int) := by simpa using hge
    have : x1.drop i.toNat = [] := List.drop_of_length_le (by omega)
    rw [h2, this]
    exact Round.done (Evt.some _)
/- impl.strokesCode -/
theorem e89 (K : List Stk) (hr : RngT K) : Evt (fun n => call T C n 89 (K, ())) ((skCode K, ()), ()) := by
  refine Evt.next (Evt.bind (e169 K hr) (Evt.bind (e90 _ _) (Evt.bind (e90 _ _) (Evt.bind (e88 _ (by simp)) ((Evt.some _).of_eq fun n => ?_))))) (fun n => r89 n K)
  have : (K.any fun v => !okSk v) = !K.all okSk := by simp [List.any_eq_not_all_not]
  rw [this]
  unfold skCode
  by_cases h : (K.length : Int) > 20
  · rw [decide_eq_true h, if_pos h]
    cases K.all okSk <;> rfl
  · rw [decide_eq_false h, if_neg h]
    cases K.all okSk <;> rfl
/- impl.abs -/
theorem e116 {a : Int} (h1 : -1000000000000 ≤ a) (h2 : a ≤ 1000000000000) : Evt (fun n => call T C n 116 (a, ())) ((siz a, ()), ()) := by
  refine Evt.next ((Evt.some _).of_eq fun n => ?_) (fun n => r116 n a)
  rw [wrap_id (x := 0 - a) (by omega) (by omega)]
  unfold siz
  have : (if 0 - a > a then 0 - a else a) = if a < 0 then -a else a := by split <;> split <;> omega
  rw [this]
  rfl
/- impl.between -/
theorem e206 {a b : Mk} (ha : OnP a) (hb : OnP b) : Evt (fun n => call T C n 206 (a, b, ())) ((far a b, ()), ()) := by
  have hx := ha.x; have hy := ha.y; have kx := hb.x; have ky := hb.y
  refine Evt.next ?_ (fun n => r206 n a b)
  refine Evt.chk rfl (Evt.at hb.get0 (Evt.chk rfl (Evt.at ha.get0 ?_)))
  rw [wrap_id (x := g a 0) (by omega) (by omega), wrap_id (x := g b 0) (by omega) (by omega), wrap_id (by omega) (by omega)]
  refine Evt.bind (e116 (by omega) (by omega)) (Evt.chk rfl (Evt.at hb.get1 (Evt.chk rfl (Evt.at ha.get1 ?_))))
  rw [wrap_id (x := g a 1) (by omega) (by omega), wrap_id (x := g b 1) (by omega) (by omega), wrap_id (by omega) (by omega)]
  refine Evt.bind (e116 (by omega) (by omega)) ((Evt.some _).of_eq fun n => ?_)
  have e : ∀ x : Int, siz (-x) = siz x := fun x => by unfold siz; split <;> split <;> omega
  have e0 : siz (g b 0 - g a 0) = siz (g a 0 - g b 0) := by rw [← e, Int.neg_sub]
  have e1 : siz (g b 1 - g a 1) = siz (g a 1 - g b 1) := by rw [← e, Int.neg_sub]
  have : (if siz (g a 1 - g b 1) > siz (g a 0 - g b 0) then siz (g a 1 - g b 1) else siz (g a 0 - g b 0)) = far a b := by unfold far; split <;> omega
  simp only [e0, e1, this]
  rfl
/- impl.floorDiv -/
theorem e210 {a b : Int} (hb : 0 < b) (h1 : -4500000000000000000 ≤ a) (h2 : a ≤ 4500000000000000000) : Evt (fun n => call T C n 210 (a, b, ())) ((a / b, ()), ()) := by
  have hbd := ediv_bd hb h1 h2 (by omega)
  have he := floorDiv_eq (a := a) hb
  refine Evt.next (Evt.chk (bne_pos hb) (Evt.chk (bne_pos hb) (Evt.ite (fun h => ?_) (fun h => ?_)))) (fun n => r210 n a b)
  · have h : Int.tmod a b < 0 := of_decide_eq_true h
    rw [if_pos h] at he
    refine (Evt.some _).of_eq fun n => ?_
    rw [wrap_id (x := Int.tdiv a b) (by omega) (by omega), wrap_id (by omega) (by omega), he]
    rfl
  · have h : ¬ Int.tmod a b < 0 := by simpa using h
    rw [if_neg h] at he
    refine (Evt.some _).of_eq fun n => ?_
    rw [wrap_id (x := Int.tdiv a b) (by omega) (by omega), he]
    rfl
/- impl.nearest -/
theorem e207 {x n : Int} (hn : 0 < n) (hn' : n ≤ 10000000000000) (h1 : -2000000000000000000 ≤ x) (h2 : x ≤ 2000000000000000000) : Evt (fun m => call T C m 207 (x, n, ())) ((nr x n, ()), ()) := by
  refine Evt.next ?_ (fun m => r207 m x n)
  rw [wrap_id (x := 2 * n) (by omega) (by omega), wrap_id (x := 2 * x) (by omega) (by omega), wrap_id (x := 2 * x + n) (by omega) (by omega)]
  exact Evt.bind (e210 (by omega) (by omega) (by omega)) (Evt.some _)
/- impl.lineOf -/
theorem e174 {a b : Mk} (ha : OnP a) (hb : OnP b) : Evt (fun n => call T C n 174 (a, b, ())) ((lineM a b, ()), ()) := by
  obtain ⟨f0, f1, f2⟩ := far_bd ha hb
  refine Evt.next (Evt.bind (e206 ha hb) ?_) (fun n => r174 n a b)
  by_cases h : far a b = 0
  · have e : lineM a b = [a] := by unfold lineM; rw [if_pos h]
    rw [e]
    simp only [h]
    refine for_evt' 1 1 (fun i (_ : Unit) => (a, b, [a], 0, i, ())) (fun _ _ => True) (b0 := ()) rfl (by omega) trivial (fun i _ h2 h3 _ => by omega) (fun _ _ => ?_)
    exact Round.no (by simp) (Round.done (Evt.some _))
  have e : lineM a b = (List.range (far a b + 1).toNat).map fun k => ptM a b (k : Nat) := by unfold lineM; rw [if_neg h]
  rw [e]
  refine for_evt' 1 (far a b + 1) (fun i (_ : Unit) => (a, b, (List.range i.toNat).map (fun k => ptM a b (k : Nat)), far a b, i, ())) (fun _ _ => True) (b0 := ()) (by
    show (a, b, [a], far a b, 1, ()) = (a, b, [ptM a b 0], far a b, 1, ())
    rw [ptM_zero ha hb h]) (by omega) trivial ?_ ?_
  · intro i _ h2 h3 _
    refine Round.yes (decide_eq_true (show i ≤ far a b by omega)) ?_
    refine for_round' 0 2 (fun j (m : List Int) => (a, b, (List.range i.toNat).map (fun k => ptM a b (k : Nat)), far a b, i, m, j, ())) (fun j m => m = ((List.range j.toNat).map (fun u => pt a b i u)) ++ List.replicate (2 - j.toNat) 0) (b0 := List.replicate 2 0) rfl (by omega) (by simp) ?_ ?_
    · intro j m j0 j1 hm
      have hj : j = 0 ∨ j = 1 := by omega
      have hga := g_idx (l := a) j0 (by have := ha.len; omega)
      have hgb := g_idx (l := b) j0 (by have := hb.len; omega)
      have hu : j.toNat = 0 ∨ j.toNat = 1 := by omega
      have ba : 0 ≤ g a j.toNat ∧ g a j.toNat ≤ 63 := by rcases hu with e | e <;> rw [e]; exact ha.x; exact ha.y
      have bb : 0 ≤ g b j.toNat ∧ g b j.toNat ≤ 63 := by rcases hu with e | e <;> rw [e]; exact hb.x; exact hb.y
      have hk := kd_bd ha hb (show 0 ≤ i by omega) (by omega) hu
      have hp := pt_bd ha hb h (show 0 ≤ i by omega) (by omega) hu
      have hm2 : m.length = 2 := by rw [hm]; simp; omega
      have hgm := g_idx (l := m) j0 (by omega)
      have hn1 : 0 ≤ g a j.toNat * far a b ∧ g a j.toNat * far a b ≤ 63 * 63 := ⟨Int.mul_nonneg ba.1 f0, Int.mul_le_mul ba.2 f1 f0 (by omega)⟩
      show Round (fun n ag => if decide (j < 2) = true then _ else _) _ _
      simp only [wrap_id (x := j + 1) (by omega) (by omega)]
      refine Round.yes (decide_eq_true j1) (Round.chk (decide_eq_true (by omega)) (Round.at hga.get (Round.chk (decide_eq_true (by omega)) (Round.at hgb.get (Round.chk (decide_eq_true (by omega)) (Round.at hga.get ?_))))))
      simp only [wrap_id (x := g a j.toNat) (by omega) (by omega), wrap_id (x := g b j.toNat) (by omega) (by omega), wrap_id (x := g b j.toNat - g a j.toNat) (by omega) (by omega), wrap_id (x := i * (g b j.toNat - g a j.toNat)) (by omega) (by omega), wrap_id (x := g a j.toNat * far a b) (by omega) (by omega), wrap_id (x := g a j.toNat * far a b + i * (g b j.toNat - g a j.toNat)) (by omega) (by omega)]
      refine Round.bind (e207 (by omega) (by omega) (by omega) (by omega)) (Round.chk (decide_eq_true (by omega)) (Round.at hgm.get (Round.inr _ ⟨_, rfl, ?_⟩)))
      have hpt : nr (g a j.toNat * far a b + i * (g b j.toNat - g a j.toNat)) (far a b) = pt a b i j.toNat := nr_from (by omega)
      show m.set j.toNat (wr .i16 (nr (g a j.toNat * far a b + i * (g b j.toNat - g a j.toNat)) (far a b))) = _
      rw [hpt, wrap16 (by omega) (by omega), hm]
      rcases hj with rfl | rfl
      · rfl
      · rfl
    · intro m hm
      have hm : m = ptM a b i := hm
      refine Round.no (by simp) (Round.chk (decide_eq_true (by simp; omega)) (Round.inl _ ⟨(), ?_, trivial⟩))
      rw [hm, wrap_id (x := i + 1) (by omega) (by omega), show (i + 1).toNat = i.toNat + 1 by omega, List.range_succ, List.map_append]
      simp [show ((i.toNat : Nat) : Int) = i by omega]
  · intro _ _
    exact Round.no (by simp; omega) (Round.done (Evt.some _))
/- (*impl.planner).stand -/
theorem e93 (a : Mk) (S : List Stp) (most : Int) (m : Mk) (d : Bool) (hl : S.length ≤ 10000000) : Evt (fun n => call T C n 93 ((most, a, S, ()), m, d, ())) ((), ((most, m, S ++ [(m, d, ())], ()), ())) := Evt.next (Evt.chk (decide_eq_true (by simp; omega)) (Evt.some _)) (fun n => r93 n _ m d)
/- (*impl.planner).goUp -/
theorem e92 {a b : Mk} (S : List Stp) {most : Int} (ha : OnP a) (hb : OnP b) (m0 : 1 ≤ most) (m1 : most ≤ 63) (hS : S.length ≤ 1000000) : Evt (fun n => call T C n 92 ((most, a, S, ()), b, ())) ((), ((most, b, S ++ goL most.toNat false a b, ()), ())) := by
  have hlen := lineM_length ha hb
  obtain ⟨f0, f1, _⟩ := far_bd ha hb
  refine Evt.next (Evt.bind (e174 ha hb) ?_) (fun n => r92 n (most, a, S, ()) b)
  obtain ⟨L, hL⟩ := (⟨_, rfl⟩ : ∃ L, L = lineM a b)
  rw [← hL] at hlen
  have wn : wr .i64 ((L.length : Int) - 1) = (L.length : Int) - 1 := wrap_id (by omega) (by omega)
  show Evt (fun n => if (wr .i64 (((lineM a b).length : Int) - 1) == 0) = true then some ((), ((most, a, S, ()), ())) else loopK _ n ((most, a, S, ()), b, lineM a b, wr .i64 (((lineM a b).length : Int) - 1), most, ())) _
  rw [← hL, wn]
  have tot : goL most.toNat false a b = goF most.toNat false L 64 0 := by unfold goL; rw [← hL]
  rw [tot]
  refine Evt.ite (fun h => ?_) (fun h => ?_)
  · have h : (L.length : Int) - 1 = 0 := by simpa using h
    have := far_zero ha hb (by omega)
    subst this
    rw [goF_last _ _ _ _ (by omega), List.append_nil]
    exact Evt.some _
  have h : ¬ (L.length : Int) - 1 = 0 := by simpa using h
  refine loop_evt (fun x => ∃ (i f : Nat) (Q : List Stp) (cur : Mk), x = ((most, cur, Q, ()), b, L, (L.length : Int) - 1, (i : Int) + most, ()) ∧ i < L.length - 1 ∧ L.length - 1 - i ≤ f ∧ Q ++ goF most.toNat false L f i = S ++ goF most.toNat false L 64 0 ∧ Q.length ≤ S.length + i) (fun x => (((L.length : Int) - 1 + most) - x.2.2.2.2.1).toNat) ⟨0, 64, S, a, by simp, by omega, by omega, rfl, by omega⟩ ?_
  rintro x ⟨i, f, Q, cur, rfl, hi, hf, hq, hql⟩
  obtain ⟨f, rfl⟩ : ∃ f', f = f' + 1 := ⟨f - 1, by omega⟩
  rw [goF, if_pos hi] at hq
  show Round (fun n ag => if decide ((i : Int) + most < (L.length : Int) - 1) = true then _ else _) _ _
  refine Round.ite (fun hc => ?_) (fun hc => ?_)
  · have hc : (i : Int) + most < (L.length : Int) - 1 := of_decide_eq_true hc
    have hj : toJ most.toNat false L i = i + most.toNat := by unfold toJ; rw [if_neg (by simp)]; omega
    rw [hj] at hq
    have hat := gM_idx (L := L) (i := (i : Int) + most) (by omega) (by omega)
    rw [show ((i : Int) + most).toNat = i + most.toNat by omega] at hat
    refine Round.at hat.idx (Round.bind (e93 cur Q most (gM L (i + most.toNat)) false (by omega)) (Round.again _ ⟨⟨i + most.toNat, f, Q ++ [(gM L (i + most.toNat), false, ())], gM L (i + most.toNat), ?_, by omega, by omega, by rw [List.append_assoc]; exact hq, by rw [List.length_append, List.length_singleton]; omega⟩, ?_⟩))
    · show ((most, gM L (i + most.toNat), Q ++ [(gM L (i + most.toNat), false, ())], ()), b, L, (L.length : Int) - 1, wr .i64 ((i : Int) + most + most), ()) = _
      rw [wrap_id (x := (i : Int) + most + most) (by omega) (by omega), show (i : Int) + most + most = ((i + most.toNat : Nat) : Int) + most by omega]
    · show (((L.length : Int) - 1 + most) - wr .i64 ((i : Int) + most + most)).toNat < (((L.length : Int) - 1 + most) - ((i : Int) + most)).toNat
      rw [wrap_id (x := (i : Int) + most + most) (by omega) (by omega)]; omega
  · have hc : ¬ (i : Int) + most < (L.length : Int) - 1 := by simpa using hc
    have hj : toJ most.toNat false L i = L.length - 1 := by unfold toJ; rw [if_neg (by simp)]; omega
    have hla : gM L (L.length - 1) = b := by rw [hL]; exact line_last ha hb
    rw [hj, goF_last _ _ _ _ (by omega), hla] at hq
    rw [← hq]
    exact Round.done (Evt.bind (e93 cur Q most b false (by omega)) (Evt.some _))
/- slices.Equal[[]impl.Mark,impl.Mark] -/
theorem e175 (a b : Stk) (hl : (a.length : Int) ≤ 140737488351232) : Evt (fun n => call T C n 175 (a, b, ())) ((decide (a = b), ()), ()) := by
  refine Evt.next ?_ (fun n => r175 n a b)
  refine Evt.ite (fun h => ?_) (fun h => ?_)
  · have h : (a.length : Int) ≠ b.length := by simpa using h
    rw [decide_eq_false (fun e => h (by rw [e]))]; exact Evt.some _
  have h : a.length = b.length := by
    have h : (a.length : Int) = b.length := by simpa using h
    omega
  refine for_evt' 0 (a.length : Int) (fun i (_ : Unit) => (a, b, (a.length : Int), i, ())) (fun i _ => a.take i.toNat = b.take i.toNat) (b0 := ()) rfl (by omega) (by simp) ?_ ?_
  · intro i _ h2 h3 hp
    obtain ⟨u, hu⟩ := at_of h2 h3
    obtain ⟨v, hv⟩ := at_of (l := b) h2 (by omega)
    refine Round.yes (decide_eq_true h3) (Round.at hu.idx (Round.at hv.idx (Round.ite (fun hc => ?_) (fun hc => ?_))))
    · have hc : u ≠ v := by simpa using hc
      have : a ≠ b := fun e => by
        subst e
        have := hu.get
        rw [hv.get] at this
        exact hc (Option.some.inj this).symm
      rw [decide_eq_false this]
      exact Round.done (Evt.some _)
    · have hc : u = v := by simpa using hc
      refine Round.again _ ⟨(), ?_, by rw [hu.take, hv.take, hp, hc]⟩
      rw [wr_succ h2 h3 (by omega)]
  · intro _ hp
    rw [take_all, h, take_all] at hp
    rw [decide_eq_true hp]
    exact Round.no (by simp [h]) (Round.done (Evt.some _))
/- (*impl.planner).goDown -/
theorem e94 {a b : Mk} (S : List Stp) {most : Int} (ha : OnP a) (hb : OnP b) (m0 : 1 ≤ most) (m1 : most ≤ 63) (hS : S.length ≤ 1000000) : Evt (fun n => call T C n 94 ((most, a, S, ()), b, ())) ((), ((most, b, S ++ goL most.toNat true a b, ()), ())) := by
  have hlen := lineM_length ha hb
  obtain ⟨f0, f1, _⟩ := far_bd ha hb
  have hon := lineM_on ha hb
  refine Evt.next (Evt.bind (e174 ha hb) ?_) (fun n => r94 n (most, a, S, ()) b)
  obtain ⟨L, hL⟩ := (⟨_, rfl⟩ : ∃ L, L = lineM a b)
  rw [← hL] at hlen hon
  have wn : wr .i64 ((L.length : Int) - 1) = (L.length : Int) - 1 := wrap_id (by omega) (by omega)
  show Evt (fun n => loopK _ n ((most, a, S, ()), lineM a b, 0, ())) _
  rw [← hL]
  have tot : goL most.toNat true a b = goF most.toNat true L 64 0 := by unfold goL; rw [← hL]
  rw [tot]
  refine loop_evt (fun x => ∃ (i f : Nat) (Q : List Stp) (cur : Mk), x = ((most, cur, Q, ()), L, (i : Int), ()) ∧ i ≤ L.length - 1 ∧ L.length - 1 - i ≤ f ∧ Q ++ goF most.toNat true L f i = S ++ goF most.toNat true L 64 0 ∧ Q.length ≤ S.length + i ∧ (i = L.length - 1 → cur = b)) (fun x => (((L.length : Int) - 1) - x.2.2.1).toNat) ⟨0, 64, S, a, rfl, by omega, by omega, rfl, by omega, fun h => ?_⟩ ?_
  · exact far_zero ha hb (by omega)
  rintro x ⟨i, f, Q, cur, rfl, hi, hf, hq, hql, hcur⟩
  show Round (fun n ag => if decide ((i : Int) < wr .i64 ((L.length : Int) - 1)) = true then loopK _ n ((most, cur, Q, ()), L, (i : Int), (if wr .i64 ((L.length : Int) - 1) < wr .i64 ((i : Int) + most) then wr .i64 ((L.length : Int) - 1) else wr .i64 ((i : Int) + most)), ()) else _) _ _
  have him : wr .i64 ((i : Int) + most) = (i : Int) + most := wrap_id (by omega) (by omega)
  rw [wn, him]
  refine Round.ite (fun hc => ?_) (fun hc => ?_)
  · have hc : (i : Int) < (L.length : Int) - 1 := of_decide_eq_true hc
    obtain ⟨f, rfl⟩ : ∃ f', f = f' + 1 := ⟨f - 1, by omega⟩
    have hj := toJ_bd (most := most.toNat) (by omega) true ha hb (i := i) (by rw [← hL]; omega)
    rw [← hL] at hj
    obtain ⟨j, hje⟩ := (⟨_, rfl⟩ : ∃ j, j = toJ most.toNat true L i)
    rw [← hje] at hj
    rw [goF, if_pos (by omega), ← hje] at hq
    have hnext : ∃ (i' f' : Nat) (Q' : List Stp) (cur' : Mk), (((most, gM L j, Q ++ [(gM L j, true, ())], ()), L, (j : Int), ()) : (Int × (Mk × (List Stp × Unit))) × Stk × Int × Unit) = ((most, cur', Q', ()), L, (i' : Int), ()) ∧ i' ≤ L.length - 1 ∧ L.length - 1 - i' ≤ f' ∧ Q' ++ goF most.toNat true L f' i' = S ++ goF most.toNat true L 64 0 ∧ Q'.length ≤ S.length + i' ∧ (i' = L.length - 1 → cur' = b) := ⟨j, f, Q ++ [(gM L j, true, ())], gM L j, rfl, hj.2, by omega, by rw [List.append_assoc]; exact hq, by rw [List.length_append, List.length_singleton]; omega, fun e => by rw [e, hL]; exact line_last ha hb⟩
    have hμ : (((L.length : Int) - 1) - (j : Int)).toNat < (((L.length : Int) - 1) - (i : Int)).toNat := by omega
    have hjv : j = bkJ L i (min (i + most.toNat) (L.length - 1)) := by rw [hje]; unfold toJ; rw [if_pos rfl]
    have hmin : (if (L.length : Int) - 1 < (i : Int) + most then (L.length : Int) - 1 else (i : Int) + most) = ((min (i + most.toNat) (L.length - 1) : Nat) : Int) := by split <;> omega
    rw [hmin]
    refine loop_round (fun y => ∃ u : Nat, i < u ∧ u ≤ L.length - 1 ∧ bkJ L i u = j ∧ y = ((most, cur, Q, ()), L, (i : Int), (u : Int), ())) (fun y => y.2.2.2.1.toNat) ⟨min (i + most.toNat) (L.length - 1), by omega, by omega, hjv.symm, rfl⟩ ?_
    rintro y ⟨u, hu0, hu1, hub, rfl⟩
    have hiat := gM_idx (L := L) (i := (i : Int)) (by omega) (by omega)
    have huat := gM_idx (L := L) (i := (u : Int)) (by omega) (by omega)
    rw [Int.toNat_natCast] at hiat huat
    have w1 : wr .i64 ((u : Int) + 1) = (u : Int) + 1 := wrap_id (by omega) (by omega)
    have w2 : wr .i64 ((u : Int) - 1) = (u : Int) - 1 := wrap_id (by omega) (by omega)
    obtain ⟨u', rfl⟩ : ∃ u', u = u' + 1 := ⟨u - 1, by omega⟩
    have hll := lineM_len (hon _ hiat.mem) (hon _ huat.mem)
    refine Round.at hiat.idx (Round.at huat.idx (Round.bind (e174 (hon _ hiat.mem) (hon _ huat.mem)) ?_))
    show Round (fun n ag => chk (decide (0 ≤ (i : Int) ∧ (i : Int) ≤ wr .i64 (((u' + 1 : Nat) : Int) + 1) ∧ wr .i64 (((u' + 1 : Nat) : Int) + 1) ≤ (L.length : Int))) ((call T C n 175 (lineM (gM L i) (gM L (u' + 1)), ((L.take (Int.toNat (wr .i64 (((u' + 1 : Nat) : Int) + 1)))).drop (Int.toNat (i : Int))), ())).bind _)) _ _
    rw [w1]
    refine Round.chk (decide_eq_true (by omega)) ?_
    rw [show (((u' + 1 : Nat) : Int) + 1).toNat = u' + 2 by omega, Int.toNat_natCast]
    refine Round.bind (e175 _ _ (by omega)) (Round.ite (fun hd => ?_) (fun hd => ?_))
    · have hd : ¬ lineM (gM L i) (gM L (u' + 1)) = (L.take (u' + 2)).drop i := by simpa using hd
      rw [bkJ, if_neg hd] at hub
      refine Round.inr _ ⟨⟨u', ?_, by omega, hub, ?_⟩, ?_⟩
      · by_cases e : i = u'
        · subst e
          have h1 : (i : Int) < far a b := by omega
          have h2 := line_step ha hb h1
          rw [← hL] at h2
          exact absurd (by rw [h2, seg_two (by omega)]) hd
        · omega
      · show ((most, cur, Q, ()), L, (i : Int), wr .i64 (((u' + 1 : Nat) : Int) - 1), ()) = _
        rw [w2, show ((u' + 1 : Nat) : Int) - 1 = (u' : Int) by omega]
      · show (wr .i64 (((u' + 1 : Nat) : Int) - 1)).toNat < (((u' + 1 : Nat) : Int)).toNat
        rw [w2]; omega
    · have hd : lineM (gM L i) (gM L (u' + 1)) = (L.take (u' + 2)).drop i := by simpa using hd
      rw [bkJ, if_pos hd] at hub
      rw [← hub] at hnext hμ
      exact Round.at huat.idx (Round.bind (e93 cur Q most (gM L (u' + 1)) true (by omega)) (Round.inl _ ⟨hnext, hμ⟩))
  · have hc : ¬ (i : Int) < (L.length : Int) - 1 := by simpa using hc
    rw [goF_last _ _ _ _ (by omega), List.append_nil] at hq
    rw [← hq, hcur (by omega)]
    exact Round.done (Evt.some _)
/- slices.Clone[[]impl.Stop,impl.Stop] -/
theorem e95 (l : List Stp) (hl : (l.length : Int) ≤ 1000000) : Evt (fun n => call T C n 95 (l, ())) ((l, ()), ()) := by
  refine Evt.next (Evt.ite (fun _ => Evt.chk (by simp; omega) (Evt.some _)) (fun h => ?_)) (fun n => r95 n l)
  have h : l = [] := by
    have h : ¬ l.length ≠ 0 := by simpa using h
    exact List.eq_nil_of_length_eq_zero (by omega)
  subst h
  exact Evt.both (Evt.some _) (Evt.chk rfl (Evt.some _))
/- impl.PlanStops -/
theorem e21 (K : List Stk) (hr : RngT K) (most : Int) : Evt (fun n => call T C n 21 (K, most, ())) (psR K most, ()) := by
  refine Evt.next (Evt.bind (e89 K hr) (Evt.bind (e91 _ _ _) (Evt.bind (e90 _ _) (Evt.bind (e88 _ (by simp)) ?_)))) (fun n => r21 n K most)
  by_cases h : skCode K = 0
  · rw [h]
    cases hm : inR most 1 63 with
    | false =>
      have : psR K most = ([], 2, ()) := by unfold psR; rw [if_neg (by omega), if_pos hm]
      rw [this]
      exact Evt.yes rfl (Evt.some _)
    | true =>
      have hb := inR_iff.1 hm
      have : psR K most = if ((plP most.toNat K).length : Int) > 360 then ([], 4, ()) else (plP most.toNat K, 0, ()) := by unfold psR; rw [if_neg (by omega), if_neg (by rw [hm]; simp)]
      rw [this]
      have G := goodT hr h
      have hkl := G.len
      have hst : ∀ i : Nat, OnP (plF most.toNat (K.take i)).1 ∧ (plF most.toNat (K.take i)).2.length ≤ 4000 * 20 := fun i => by
        obtain ⟨a, b⟩ := plF_on (most := most.toNat) (K := K.take i) (fun s hs => G.el s (List.mem_of_mem_take hs))
        rw [List.length_take] at b
        exact ⟨a, by omega⟩
      refine Evt.no (by decide) ?_
      refine for_evt' 0 (K.length : Int) (fun i (_ : Unit) => ((most, (plF most.toNat (K.take i.toNat)).1, (plF most.toNat (K.take i.toNat)).2, ()), K, (K.length : Int), i, ())) (fun _ _ => True) (b0 := ()) rfl (by omega) trivial ?_ ?_
      · intro i _ h2 h3 _
        obtain ⟨s, hs⟩ := at_of h2 h3
        obtain ⟨gl, gm⟩ := G.el s hs.mem
        obtain ⟨hon, hln⟩ := hst i.toNat
        obtain ⟨st, hste⟩ := (⟨_, rfl⟩ : ∃ st, st = plF most.toNat (K.take i.toNat))
        rw [← hste] at hon hln ⊢
        have h0 := gM_idx (L := s) (i := 0) (Int.le_refl _) (by omega)
        have o0' : OnP (gM s 0) := gm _ h0.mem
        have g1 := goL_len most.toNat false st.1 (gM s 0)
        have hnext : plF most.toNat (K.take (i + 1).toNat) = stF most.toNat st s := by rw [hs.take, hste]; unfold plF; rw [List.foldl_append]; rfl
        refine Round.yes (decide_eq_true h3) (Round.at hs.idx (Round.at h0.idx (Round.bind (e92 st.2 hon o0' hb.1 hb.2 (by omega)) (Round.at h0.idx (Round.bind (e93 (gM s 0) (st.2 ++ goL most.toNat false st.1 (gM s 0)) most (gM s 0) true (by rw [List.length_append]; omega)) (Round.chk (decide_eq_true (by omega)) ?_))))))
        obtain ⟨st1, hst1⟩ := (⟨_, rfl⟩ : ∃ st1 : Mk × List Stp, st1 = (gM s 0, st.2 ++ goL most.toNat false st.1 (gM s 0) ++ [(gM s 0, true, ())]))
        have hst1l : st1.2.length ≤ 80100 := by rw [hst1]; simp only [List.length_append, List.length_singleton]; omega
        have htl : (s.take (Int.toNat (s.length : Int))).drop (Int.toNat 1) = s.drop 1 := by rw [take_all]; rfl
        obtain ⟨t, ht⟩ := (⟨_, rfl⟩ : ∃ t, t = s.drop 1)
        have htlen : t.length = s.length - 1 := by rw [ht, List.length_drop]
        have htm : ∀ m ∈ t, OnP m := fun m hm => gm m (List.mem_of_mem_drop (by rw [← ht]; exact hm))
        simp only [htl]
        rw [← ht]
        refine for_round' 0 (t.length : Int) (fun j (_ : Unit) => ((most, ((t.take j.toNat).foldl (drF most.toNat) st1).1, ((t.take j.toNat).foldl (drF most.toNat) st1).2, ()), K, (K.length : Int), i, t, (t.length : Int), j, ())) (fun _ _ => True) (b0 := ()) ?_ (by omega) trivial ?_ ?_
        · rw [hst1]
          rfl
        · intro j _ j2 j3 _
          obtain ⟨m, hm⟩ := at_of (l := t) j2 j3
          obtain ⟨a, b⟩ := drF_on (most := most.toNat) (l := t.take j.toNat) (fun x hx => htm x (List.mem_of_mem_take hx)) (st := st1) (by rw [hst1]; exact o0')
          rw [List.length_take] at b
          refine Round.yes (decide_eq_true j3) (Round.at hm.idx (Round.bind (e94 ((t.take j.toNat).foldl (drF most.toNat) st1).2 a (htm m hm.mem) hb.1 hb.2 (by omega)) (Round.inr _ ⟨(), ?_, trivial⟩)))
          rw [hm.take, List.foldl_append]
          show ((most, m, _ ++ goL most.toNat true _ m, ()), K, (K.length : Int), i, t, (t.length : Int), wr .i64 (j + 1), ()) = _
          rw [wrap_id (x := j + 1) (by omega) (by omega)]
          rfl
        · intro _ _
          rw [take_all]
          refine Round.no (by simp) (Round.inl _ ⟨(), ?_, trivial⟩)
          show ((most, (t.foldl (drF most.toNat) st1).1, (t.foldl (drF most.toNat) st1).2, ()), K, (K.length : Int), wr .i64 (i + 1), ()) = _
          rw [hnext, wr_succ h2 h3 (by omega), hst1, ht]
          rfl
      · intro _ _
        obtain ⟨hon, hln⟩ := hst (K.length : Int).toNat
        rw [take_all] at hon hln ⊢
        have g2 := goL_len most.toNat false (plF most.toNat K).1 o0
        refine Round.no (by simp) (Round.done (Evt.bind (e92 (plF most.toNat K).2 hon o0_on hb.1 hb.2 (by omega)) ?_))
        show Evt (fun n => if decide (((plP most.toNat K).length : Int) > 360) = true then _ else (call T C n 95 (plP most.toNat K, ())).bind _) _
        refine Evt.ite (fun h => ?_) (fun h => ?_)
        · rw [if_pos (of_decide_eq_true h)]; exact Evt.some _
        · have h : ¬ ((plP most.toNat K).length : Int) > 360 := by simpa using h
          rw [if_neg h]
          exact Evt.bind (e95 _ (by omega)) (Evt.some _)
  · have : psR K most = ([], skCode K, ()) := by unfold psR; rw [if_pos h]
    rw [this]
    have hf : fst0 [skCode K, if (!inR most 1 63) = true then 2 else 0] = skCode K := by simp [fst0, h]
    rw [hf]
    exact Evt.yes (by simpa using h) (Evt.some _)
/- impl.isPlace -/
theorem e176 (a b : Int) : Evt (fun n => call T C n 176 (a, b, ())) ((inR a 0 (wr .i64 (b - 1)), ()), ()) := Evt.next (Evt.bind (e91 _ _ _) (Evt.some _)) (fun n => r176 n a b)
/- impl.machineFor -/
theorem e99 (l : List Stp) (he : ∀ v ∈ l, v.1.length = 2) {m : Int} (h0 : 0 ≤ m) (h1 : m ≤ 1000) (hl : (l.length : Int) ≤ 1000) : Evt (fun n => call T C n 99 (l, m, ())) ((mfR l m.toNat, ()), ()) := by
  refine Evt.next ?_ (fun n => r99 n l m)
  refine for_evt' 0 m (fun i (_ : Unit) => (l, (([], [], [], ()) : Mch), mfR l i.toNat, m, i, ())) (fun _ _ => True) (b0 := ()) rfl h0 trivial ?_ ?_
  · intro i _ h2 h3 _
    have l1 : ((mfR l i.toNat).1.length : Int) ≤ 1000 := by simp [mfR]; omega
    have l2 : ((mfR l i.toNat).2.1.length : Int) ≤ 1000 := by simp [mfR]; omega
    have l3 : ((mfR l i.toNat).2.2.1.length : Int) ≤ 1000 := by simp [mfR]; omega
    have e : mfR l (i + 1).toNat = ((mfR l i.toNat).1 ++ [g (gS l i.toNat).1 0], (mfR l i.toNat).2.1 ++ [g (gS l i.toNat).1 1], (mfR l i.toNat).2.2.1 ++ [pen (gS l i.toNat)], ()) := by rw [show (i + 1).toNat = i.toNat + 1 by omega, mfR_succ]
    refine Round.yes (decide_eq_true h3) ?_
    have two : ∀ v : Mk, v.length = 2 → v[(Int.toNat 0)]? = some (g v 0) ∧ v[(Int.toNat 1)]? = some (g v 1) := fun v hv => ⟨(g_idx (l := v) (i := 0) (by omega) (by omega)).get, (g_idx (l := v) (i := 1) (by omega) (by omega)).get⟩
    refine Round.bind (e176 i (l.length : Int)) ?_
    have wl : wr .i64 ((l.length : Int) - 1) = (l.length : Int) - 1 := wrap_id (by omega) (by omega)
    rw [wl]
    refine Round.ite (fun hc => ?_) (fun hc => ?_)
    rotate_left
    all_goals (first | (have hc : i < (l.length : Int) := by have := inR_iff.1 hc; omega) | (have hc : ¬ i < (l.length : Int) := fun h => hc (inR_iff.2 ⟨h2, by omega⟩)))
    rotate_left
    · have hv := gS_idx (l := l) h2 hc
      obtain ⟨t0, t1⟩ := two (gS l i.toNat).1 (he _ hv.mem)
      refine Round.at hv.idx (Round.ite (fun hd => ?_) (fun hd => ?_))
      · have hp : pen (gS l i.toNat) = 0 := by unfold pen; exact if_pos hd
        refine Round.chk rfl (Round.at t0 (Round.chk (decide_eq_true (by simp; omega)) (Round.chk rfl (Round.at t1 (Round.chk (decide_eq_true (by simp; omega)) (Round.chk (decide_eq_true (by simp; omega)) (Round.again _ ⟨(), ?_, trivial⟩)))))))
        rw [wr_succ h2 h3 (by omega), e, hp]
      · have hp : pen (gS l i.toNat) = 1 := by unfold pen; exact if_neg hd
        refine Round.chk rfl (Round.at t0 (Round.chk (decide_eq_true (by simp; omega)) (Round.chk rfl (Round.at t1 (Round.chk (decide_eq_true (by simp; omega)) (Round.chk (decide_eq_true (by simp; omega)) (Round.again _ ⟨(), ?_, trivial⟩)))))))
        rw [wr_succ h2 h3 (by omega), e, hp]
    · have hg := gS_out (l := l) (i := i.toNat) (by omega)
      refine Round.chk rfl (Round.at (v := (0 : Int)) rfl (Round.chk (decide_eq_true (by simp; omega)) (Round.chk rfl (Round.at (v := (0 : Int)) rfl (Round.chk (decide_eq_true (by simp; omega)) (Round.chk (decide_eq_true (by simp; omega)) (Round.again _ ⟨(), ?_, trivial⟩)))))))
      rw [wr_succ h2 h3 (by omega), e, hg]
      rfl
  · intro _ _
    exact Round.no (by simp) (Round.done (Evt.some _))
/- impl.CompileStrokes -/
theorem e26 (K : List Stk) (hr : RngT K) (most : Int) : Evt (fun n => call T C n 26 (K, most, ())) (csR K most, ()) := by
  have hl := psR_len K most
  refine Evt.next (Evt.bind (e21 K hr most) (Evt.ite (fun h => ?_) (fun h => ?_))) (fun n => r26 n K most)
  · have h : (psR K most).2.1 ≠ 0 := by simpa using h
    have : csR K most = (([], [], [], ()), (psR K most).2.1, ()) := by unfold csR; rw [if_pos h]
    rw [this]; exact Evt.some _
  · have h : (psR K most).2.1 = 0 := by simpa using h
    have : csR K most = (mfR (psR K most).1 (max 8 (psR K most).1.length), 0, ()) := by unfold csR; rw [if_neg (by omega)]
    rw [this]
    have hm : (if ((psR K most).1.length : Int) > 8 then ((psR K most).1.length : Int) else 8) = max 8 ((psR K most).1.length : Int) := by split <;> omega
    show Evt (fun n => (call T C n 99 ((psR K most).1, (if ((psR K most).1.length : Int) > 8 then ((psR K most).1.length : Int) else 8), ())).bind _) _
    rw [hm]
    refine Evt.bind (e99 (psR K most).1 (psR_el hr most) (m := max 8 ((psR K most).1.length : Int)) (by omega) (by omega) (by omega)) ?_
    rw [show (max 8 ((psR K most).1.length : Int)).toNat = max 8 (psR K most).1.length by omega]
    exact Evt.some _
/- laws.eqCam -/
theorem e79 (l : List Int) (hl : (l.length : Int) ≤ 140737488351232) : Evt (fun n => call T C n 79 (l, l, ())) ((true, ()), ()) := by
  refine Evt.next (Evt.no (by simp) ?_) (fun n => r79 n l l)
  refine for_evt 0 (l.length : Int) (fun i (_ : Unit) => (l, l, i, ())) (fun _ _ => True) (b0 := ()) (by omega) trivial ?_ ?_
  · intro i _ h2 h3 _
    obtain ⟨v, hv⟩ := at_of h2 h3
    refine Round.yes (decide_eq_true h3) (Round.at hv.idx (Round.at hv.idx (Round.no (by simp) (Round.again _ ⟨(), ?_, trivial⟩))))
    rw [wr_succ h2 h3 (by omega)]
  · intro _ _
    exact Round.no (by simp) (Round.done (Evt.some _))
/- laws.eqMachine -/
theorem e14 (m : Mch) (hx : (m.1.length : Int) ≤ 140737488351232) (hy : (m.2.1.length : Int) ≤ 140737488351232) (hp : (m.2.2.1.length : Int) ≤ 140737488351232) : Evt (fun n => call T C n 14 (m, m, ())) ((true, ()), ()) :=
  Evt.next (Evt.bind (e79 _ hx) (Evt.no (by simp) (Evt.bind (e79 _ hy) (Evt.no (by simp) (Evt.bind (e79 _ hp) (Evt.no (by simp) (Evt.some _))))))) (fun n => r14 n m m)
/- laws.eqMark -/
theorem e164 (m : Mk) (h : m.length = 2) : Evt (fun n => call T C n 164 (m, m, ())) ((true, ()), ()) := by
  refine Evt.next ?_ (fun n => r164 n m m)
  refine for_evt' 0 2 (fun i (_ : Unit) => (m, m, i, ())) (fun _ _ => True) (b0 := ()) rfl (by omega) trivial ?_ ?_
  · intro i _ h2 h3 _
    have hg := g_idx (l := m) h2 (by omega)
    refine Round.yes (decide_eq_true h3) (Round.chk (decide_eq_true (show 0 ≤ i ∧ i < ((2 : Nat) : Int) by omega)) (Round.at hg.get (Round.chk (decide_eq_true (show 0 ≤ i ∧ i < ((2 : Nat) : Int) by omega)) (Round.at hg.get (Round.no (by simp) (Round.again _ ⟨(), ?_, trivial⟩))))))
    rw [wr_succ h2 h3 (by omega)]
  · intro _ _
    exact Round.no (by simp) (Round.done (Evt.some _))
/- laws.eqStroke -/
theorem e78 (l : Stk) (hl : (l.length : Int) ≤ 140737488351232) (he : ∀ v ∈ l, v.length = 2) : Evt (fun n => call T C n 78 (l, l, ())) ((true, ()), ()) := by
  refine Evt.next (Evt.no (by simp) ?_) (fun n => r78 n l l)
  refine for_evt 0 (l.length : Int) (fun i (_ : Unit) => (l, l, i, ())) (fun _ _ => True) (b0 := ()) (by omega) trivial ?_ ?_
  · intro i _ h2 h3 _
    obtain ⟨v, hv⟩ := at_of h2 h3
    refine Round.yes (decide_eq_true h3) (Round.at hv.idx (Round.at hv.idx (Round.bind (e164 v (he v hv.mem)) (Round.no (by simp) (Round.again _ ⟨(), ?_, trivial⟩)))))
    rw [wr_succ h2 h3 (by omega)]
  · intro _ _
    exact Round.no (by simp) (Round.done (Evt.some _))
/- laws.eqStrokeS -/
theorem e13 (K : List Stk) (hr : RngT K) : Evt (fun n => call T C n 13 (K, K, ())) ((true, ()), ()) := by
  have hkl := hr.len'
  refine Evt.next (Evt.no (by simp) ?_) (fun n => r13 n K K)
  refine for_evt 0 (K.length : Int) (fun i (_ : Unit) => (K, K, i, ())) (fun _ _ => True) (b0 := ()) (by omega) trivial ?_ ?_
  · intro i _ h2 h3 _
    obtain ⟨v, hv⟩ := at_of h2 h3
    have hrv := hr.el v hv.mem
    refine Round.yes (decide_eq_true h3) (Round.at hv.idx (Round.at hv.idx (Round.bind (e78 v (by omega) (fun m hm => (hrv.2 m hm).1)) (Round.no (by simp) (Round.again _ ⟨(), ?_, trivial⟩)))))
    rw [wr_succ h2 h3 (by omega)]
  · intro _ _
    exact Round.no (by simp) (Round.done (Evt.some _))
/- laws.markStroke -/
theorem e81 (s : Stk) (hm : ∀ m ∈ s, m.length = 2) (k : Int) (h0 : 0 ≤ k) (h1 : k + 2 * s.length ≤ 4611686018427387904) : Evt (fun n => call T C n 81 (s, k, ())) ((k + 2 * s.length, ()), (mkSk s.length k, ())) := by
  refine Evt.next ?_ (fun n => r81 n s k)
  refine for_evt' 0 (s.length : Int) (fun i (b : Stk) => (b, k + 2 * i, i, ())) (fun i b => b.length = s.length ∧ b.take i.toNat = mkSk i.toNat k ∧ ∀ m ∈ b, m.length = 2) (b0 := s) (by simp) (by omega) ⟨rfl, by simp [mkSk], hm⟩ ?_ ?_
  · intro i b h2 h3 ⟨hb, ht, hm⟩
    have hi : i < (b.length : Int) := by omega
    obtain ⟨u, hu⟩ := at_of (l := b) h2 hi
    have hu2 := hm u hu.mem
    refine Round.yes (decide_eq_true hi) ?_
    refine for_round' 0 2 (fun j (d : Mk) => (b.set i.toNat d, k + 2 * i + j, i, j, ())) (fun j d => d.length = 2 ∧ d.take j.toNat = [wr .i16 (k + 2 * i), wr .i16 (k + 2 * i + 1)].take j.toNat) (b0 := u) ?_ (by omega) ⟨hu2, rfl⟩ ?_ ?_
    · have : b.set i.toNat u = b := by
        refine List.ext_getElem? fun j => ?_
        rw [List.getElem?_set]
        split
        · rename_i e
          subst e
          rw [if_pos (by omega), hu.get]
        · rfl
      rw [this, Int.add_zero]
    · intro j d j2 j3 ⟨hd, hdt⟩
      have hset : (b.set i.toNat d)[i.toNat]? = some d := List.getElem?_set_self (by omega)
      have hgd := g_idx (l := d) j2 (by omega)
      have hl : i < (((b.set i.toNat d).length : Nat) : Int) := by rw [List.length_set]; exact hi
      refine Round.yes (decide_eq_true j3) (Round.chk (chk_at h2 hl) (Round.chk (decide_eq_true (show 0 ≤ j ∧ j < ((2 : Nat) : Int) by omega)) (Round.at hset (Round.at hgd.get (Round.inr _ ⟨d.set j.toNat (wr .i16 (k + 2 * i + j)), ?_, by simpa using hd, ?_⟩)))))
      · show ((b.set i.toNat d).set i.toNat (d.set j.toNat (wr .i16 (k + 2 * i + j))), wr .i64 (k + 2 * i + j + 1), i, wr .i64 (j + 1), ()) = _
        rw [List.set_set, wrap_id (x := k + 2 * i + j + 1) (by omega) (by omega), wr_succ j2 j3 (by omega), show k + 2 * i + j + 1 = k + 2 * i + (j + 1) by omega]
      · rw [take_set_succ j2 (by omega), hdt]
        rcases (show j = 0 ∨ j = 1 by omega) with rfl | rfl
        · simp
        · rfl
    · intro d ⟨hd, hdt⟩
      have hde : d = [wr .i16 (k + 2 * i), wr .i16 (k + 2 * i + 1)] := by
        have e1 := hdt
        rw [show (2 : Int).toNat = 2 from rfl, List.take_of_length_le (by omega), List.take_of_length_le (by simp)] at e1
        exact e1
      refine Round.no (by simp) (Round.inl _ ⟨b.set i.toNat d, ?_, by simpa using hb, ?_, fun m hm' => ?_⟩)
      · show (b.set i.toNat d, k + 2 * i + 2, wr .i64 (i + 1), ()) = _
        rw [wr_succ h2 h3 (by omega), show k + 2 * (i + 1) = k + 2 * i + 2 by omega]
      · rw [take_set_succ h2 hi, ht, show (i + 1).toNat = i.toNat + 1 by omega, mkSk_succ, show ((i.toNat : Nat) : Int) = i by omega, hde]
      · rcases List.mem_or_eq_of_mem_set hm' with h | h
        · exact hm m h
        · rw [h]; exact hd
  · intro b ⟨hb, ht, _⟩
    have e : b = mkSk s.length k := by rw [← take_all b, hb, ht]; simp
    rw [← e]
    exact Round.no (by simp [hb]) (Round.done (Evt.some _))
/- laws.markStrokeS -/
theorem e16 (K : List Stk) (hr : RngT K) (k : Int) (h0 : 0 ≤ k) (h1 : k + 2 * totT K ≤ 4611686018427387904) : Evt (fun n => call T C n 16 (K, k, ())) ((k + 2 * totT K, ()), (mkTs K k, ())) := by
  have hkl := hr.len'
  refine Evt.next ?_ (fun n => r16 n K k)
  refine for_evt' 0 (K.length : Int) (fun i (b : List Stk) => (b, k + 2 * totT (K.take i.toNat), i, ())) (fun i b => b.length = K.length ∧ b.drop i.toNat = K.drop i.toNat ∧ b.take i.toNat = mkTs (K.take i.toNat) k) (b0 := K) (by simp [totT, totL]) (by omega) ⟨rfl, rfl, by simp [mkTs]⟩ ?_ ?_
  · intro i b h2 h3 ⟨hb, hd, ht⟩
    have hi : i < (b.length : Int) := by omega
    obtain ⟨v, hv⟩ := at_of (l := K) h2 h3
    obtain ⟨u, hu⟩ := at_of (l := b) h2 hi
    have huv : u = v := by
      have e1 := hu.drop
      have e2 := hv.drop
      rw [hd, e2] at e1
      exact (List.cons.inj e1).1.symm
    subst huv
    have htot := totT_take K (i + 1).toNat
    have hnn2 := totT_nonneg (K.take i.toNat)
    have e3 : totT (K.take (i + 1).toNat) = totT (K.take i.toNat) + u.length := by rw [hv.take, totT_snoc]
    refine Round.yes (decide_eq_true hi) (Round.chk (chk_at h2 hi) (Round.at hu.get (Round.bind (e81 u (fun m hm => ((hr.el u hv.mem).2 m hm).1) (k + 2 * totT (K.take i.toNat)) (by omega) (by omega)) (Round.at hu.get (Round.again _ ⟨b.set i.toNat (mkSk u.length (k + 2 * totT (K.take i.toNat))), ?_, by simpa using hb, ?_, ?_⟩)))))
    · rw [wr_succ h2 h3 (by omega), e3, Int.mul_add, Int.add_assoc]
    · rw [show (i + 1).toNat = i.toNat + 1 by omega, List.drop_set_of_lt (by omega)]
      have e4 : b.drop (i.toNat + 1) = (b.drop i.toNat).tail := by simp
      have e5 : K.drop (i.toNat + 1) = (K.drop i.toNat).tail := by simp
      rw [e4, e5, hd]
    · rw [take_set_succ h2 hi, ht, hv.take, mkTs_snoc]
  · intro b ⟨hb, hd, ht⟩
    simp only [take_all] at ht ⊢
    have e : b = mkTs K k := by rw [← ht, ← hb, take_all]
    rw [← e]
    exact Round.no (by simp [hb]) (Round.done (Evt.some _))
/- laws.markCam -/
theorem e80 (l : List Int) (k : Int) (h0 : 0 ≤ k) (h1 : k + l.length ≤ 4611686018427387904) : Evt (fun n => call T C n 80 (l, k, ())) ((k + l.length, ()), (mkL (wr .i16) l.length k, ())) := by
  refine Evt.next ?_ (fun n => r80 n l k)
  refine for_evt' 0 (l.length : Int) (fun i (b : List Int) => (b, k + i, i, ())) (fun i b => b.length = l.length ∧ b.take i.toNat = mkL (wr .i16) i.toNat k) (b0 := l) (by simp) (by omega) ⟨rfl, by simp [mkL]⟩ ?_ ?_
  · intro i b h2 h3 ⟨hb, ht⟩
    have hi : i < (b.length : Int) := by omega
    obtain ⟨u, hu⟩ := get_of_lt h2 hi
    refine Round.yes (decide_eq_true hi) (Round.chk (chk_at h2 hi) (Round.at hu (Round.again _ ⟨b.set i.toNat (wr .i16 (k + i)), ?_, by simpa using hb, ?_⟩)))
    · rw [wrap_id (x := k + i + 1) (by omega) (by omega), wrap_id (x := i + 1) (by omega) (by omega)]
      simp only [Int.add_assoc, id_eq]
    · rw [take_set_succ h2 hi, ht, show (i + 1).toNat = i.toNat + 1 by omega, mkL_succ, show ((i.toNat : Nat) : Int) = i by omega]
  · intro b ⟨hb, ht⟩
    have e : b = mkL (wr .i16) l.length k := by rw [← take_all b, hb, ht]; simp
    rw [← e]
    exact Round.no (by simp [hb]) (Round.done (Evt.some _))
/- laws.markMachine -/
theorem e15 (m : Mch) (k : Int) (h0 : 0 ≤ k) (h1 : k + totM m ≤ 4611686018427387904) : Evt (fun n => call T C n 15 (m, k, ())) ((k + totM m, ()), (mkM m k, ())) := by
  unfold totM at h1
  refine Evt.next (Evt.bind (e80 m.1 k h0 (by omega)) (Evt.bind (e80 m.2.1 (k + m.1.length) (by omega) (by omega)) (Evt.bind (e80 m.2.2.1 (k + m.1.length + m.2.1.length) (by omega) (by omega)) ((Evt.some _).of_eq fun n => ?_)))) (fun n => r15 n m k)
  simp only [totM, mkM]
  rw [show k + ((m.1.length : Int) + m.2.1.length + m.2.2.1.length) = k + m.1.length + m.2.1.length + m.2.2.1.length by omega]
  rfl
/- laws.heldCam -/
theorem e100 (m : Nat) (k : Int) (h0 : 0 ≤ k) (h1 : k + m ≤ 4611686018427387904) : Evt (fun n => call T C n 100 (mkL (wr .i16) m k, k, ())) ((k + m, ()), ()) := by
  refine Evt.next ?_ (fun n => r100 n _ k)
  refine for_evt' 0 (m : Int) (fun i (_ : Unit) => (mkL (wr .i16) m k, k + i, i, ())) (fun _ _ => True) (b0 := ()) (by simp) (by omega) trivial ?_ ?_
  · intro i _ h2 h3 _
    obtain ⟨v, hv⟩ := at_of (l := mkL (wr .i16) m k) h2 (by rw [mkL_len]; exact h3)
    have e := mkL_at (wr .i16) m k hv h2
    refine Round.yes (by rw [mkL_len]; exact decide_eq_true h3) (Round.at hv.idx (Round.no (by simp [e]) (Round.again _ ⟨(), ?_, trivial⟩)))
    rw [wrap_id (x := k + i + 1) (by omega) (by omega), wrap_id (x := i + 1) (by omega) (by omega)]
    simp only [Int.add_assoc]
  · intro _ _
    exact Round.no (by simp [mkL_len]) (Round.done (Evt.some _))
/- laws.heldMachine -/
theorem e27 (m : Mch) (k : Int) (h0 : 0 ≤ k) (h1 : k + totM m ≤ 4611686018427387904) : Evt (fun n => call T C n 27 (mkM m k, k, ())) ((k + totM m, ()), ()) := by
  unfold totM at h1
  refine Evt.next (Evt.bind (e100 m.1.length k h0 (by omega)) (Evt.no (by simp; omega) (Evt.bind (e100 m.2.1.length (k + m.1.length) (by omega) (by omega)) (Evt.no (by simp; omega) (Evt.bind (e100 m.2.2.1.length (k + m.1.length + m.2.1.length) (by omega) (by omega)) (Evt.no (by simp; omega) ((Evt.some _).of_eq fun n => ?_))))))) (fun n => r27 n (mkM m k) k)
  simp only [totM]
  rw [show k + ((m.1.length : Int) + m.2.1.length + m.2.2.1.length) = k + m.1.length + m.2.1.length + m.2.2.1.length by omega]
  rfl
/- laws.FnExactCompileStrokes -/
theorem e5 (K : List Stk) (most : Int) (hd : DomA (C 5).params (K, most, ())) : Evt (fun n => call T C n 5 (K, most, ())) ((true, ()), ()) := by
  have hr : RngT K := rngT_of hd.1
  have hkl := hr.len'
  refine Evt.next (Evt.bind (e18 K (by omega) 1048576) (Evt.ite (fun _ => Evt.some _) (fun hs2 => ?_))) (fun n => r5 n K most)
  have hs2 := szL_ok hr.shad (by omega) (Int.le_refl _) (by simpa using hs2)
  have htn := totT_nonneg K
  have htt : totT K = totL (K.map shad) := rfl
  rw [← htt, List.length_map] at hs2
  obtain ⟨g1, g2, g3⟩ := csR_small K most
  have to1 := e20 K hr
  have sp := e25 K hr most
  have im := e26 K hr most
  have hm0 := e16 K hr 1 (by omega) (by omega)
  have hm := e15 (csR K most).1 1 (by omega) (by unfold totM; omega)
  have hh := e27 (csR K most).1 1 (by omega) (by unfold totM; omega)
  have eqg := e14 (csR K most).1 (by omega) (by omega) (by omega)
  have pos : ∀ z : Mch, 0 ≤ totM z := fun z => by unfold totM; omega
  refine Evt.bind to1 (Evt.bind sp (Evt.bind to1 (Evt.bind im (Evt.bind eqg (Evt.no (by simp) (Evt.no (by simp) ?_))))))
  refine Evt.bind to1 (Evt.bind (e13 K hr) (Evt.no (by simp) ?_))
  refine Evt.bind hm0 (Evt.no (by simp; omega) (Evt.bind eqg (Evt.no (by simp) (Evt.no (by simp) ?_))))
  refine Evt.bind hm (Evt.bind hh (Evt.no (by have := pos (csR K most).1; simp; omega) (Evt.no (by simp) ?_)))
  refine Evt.bind to1 (Evt.bind im (Evt.bind eqg (Evt.no (by simp) (Evt.no (by simp) (Evt.bind hh (Evt.no (by have := pos (csR K most).1; simp; omega) (Evt.no (by simp) (Evt.some _))))))))

end Go.Cams.YtdhgdfofgeccgaaLCompileStrokes
