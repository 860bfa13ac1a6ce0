/- What the functions that the law reaches come to. -/
import Derived.Test.YteeciijmkmdplaaDoorRRepairCam
import Derived.Test.YteeciijmkmdplaaDoorPuAll
namespace Go.Cams.YteeciijmkmdplaaDoorLRepairCam
open Go Go.Fw Go.Proofs Go.Proofs.YteeciijmkmdplaaDoor.LRepairCam
/- laws.toCam -/
theorem e10 (l : List Int) (hl : (l.length : Int) * 2 ≤ 140737488351232) : Evt (fun n => call T C n 10 (l, ())) ((l, ()), ()) := by
  refine Evt.next (Evt.chk (by simp; omega) ?_) (fun n => r10 n l)
  refine for_evt 0 (l.length : Int) (fun i (b : List Int) => (l, b, i, ())) (fun i b => b.length = l.length ∧ b.take i.toNat = l.take i.toNat) (b0 := List.replicate (Int.toNat (l.length : Int)) 0) (by omega) ⟨by simp, by simp⟩ ?_ ?_
  · intro i b h2 h3 ⟨hb, ht⟩
    have hi : i < (b.length : Int) := by omega
    obtain ⟨v, hv⟩ := at_of h2 h3
    obtain ⟨u, hu⟩ := get_of_lt h2 hi
    refine Round.yes (decide_eq_true h3) (Round.at hv.idx (Round.chk (chk_at h2 hi) (Round.at hu (Round.again _ ⟨b.set i.toNat v, ?_, by simpa using hb, ?_⟩))))
    · rw [wr_succ h2 h3 (by omega)]
    · rw [take_set_succ h2 hi, ht, hv.take]
  · intro b ⟨hb, ht⟩
    have e : b = l := by rw [← take_all b, hb, ht]; simp
    rw [e]
    exact Round.no (by simp) (Round.done (Evt.some _))
/- spec.l00In -/
theorem e86 (a b c : Int) : Evt (fun n => call T C n 86 (a, b, c, ())) ((inR a b c, ()), ()) := by
  refine Evt.next ?_ (fun n => r86 n a b c)
  refine Evt.ite (fun h => ?_) (fun h => ?_)
  · refine (Evt.some _).of_eq fun n => ?_
    have h : b ≤ a := of_decide_eq_true h
    simp [inR, h]
    rfl
  · refine (Evt.some _).of_eq fun n => ?_
    have h : ¬ b ≤ a := by simpa using h
    simp [inR, h]
    rfl
/- spec.l01Steps -/
theorem e95 (a : Int) : Evt (fun n => call T C n 95 (a, ())) ((inR a 8 360, ()), ()) := Evt.next (Evt.bind (e86 a 8 360) (Evt.some _)) (fun n => r95 n a)
/- spec.l01Lift -/
theorem e96 (a : Int) : Evt (fun n => call T C n 96 (a, ())) ((inR a 0 10000, ()), ()) := Evt.next (Evt.bind (e86 a 0 10000) (Evt.some _)) (fun n => r96 n a)
/- spec.l01Ok -/
theorem e52 (l : List Int) (hl : (l.length : Int) ≤ 140737488351232) : Evt (fun n => call T C n 52 (l, ())) ((okC l, ()), ()) := by
  refine Evt.next ?_ (fun n => r52 n l)
  refine Evt.bind (e95 _) ?_
  refine Evt.ite (fun h => ?_) (fun h => ?_)
  · refine (Evt.some _).of_eq fun n => ?_
    have h : inR (l.length : Int) 8 360 = false := by simpa using h
    simp [okC, h]
    rfl
  · have h : inR (l.length : Int) 8 360 = true := by simpa using h
    have he : okC l = l.all okV := by simp [okC, h]
    rw [he]
    refine loop_evt (fun (x : List Int × Int × Unit) => x.1 = l ∧ 0 ≤ x.2.1 ∧ x.2.1 ≤ (l.length : Int) ∧ l.all okV = (l.drop x.2.1.toNat).all okV) (fun (x : List Int × Int × Unit) => ((l.length : Int) - x.2.1).toNat) (x := (l, 0, ())) ⟨rfl, Int.le_refl _, by simp, by simp⟩ ?_
    rintro ⟨x1, i, _⟩ ⟨h', h0, h1, h2⟩
    simp only at h' h0 h1 h2
    subst h'
    refine Round.ite (fun hlt => ?_) (fun hge => ?_)
    · have hlt : i < (x1.length : Int) := of_decide_eq_true hlt
      obtain ⟨v, hv, hv'⟩ := idx_at h0 hlt
      have hd := drop_cons hv'
      refine Round.at hv (Round.bind (e96 _) (Round.ite (fun hb => ?_) (fun hb => ?_)))
      · have hb : okV v = false := by simpa [okV] using hb
        have h3 : x1.all okV = false := by rw [h2, hd]; simp [hb]
        rw [h3]
        exact Round.done (Evt.some _)
      · have hb : okV v = true := by simpa [okV] using hb
        have hw : wr .i64 (i + 1) = i + 1 := wrap_id (by omega) (by omega)
        refine Round.again _ ⟨⟨rfl, ?_, ?_, ?_⟩, ?_⟩ <;> simp only [hw]
        · omega
        · omega
        · rw [h2, hd, show (i + 1).toNat = i.toNat + 1 by omega]
          simp [hb]
        · omega
    · have hge : ¬ i < (x1.length : Int) := by simpa using hge
      have : x1.drop i.toNat = [] := List.drop_of_length_le (by omega)
      rw [h2, this]
      exact Round.done (Evt.some _)
/- spec.l05Bound -/
theorem e53 (a : Int) : Evt (fun n => call T C n 53 (a, ())) ((inR a 0 40000, ()), ()) := Evt.next (Evt.bind (e86 a 0 40000) (Evt.some _)) (fun n => r53 n a)
/- spec.l05Low -/
theorem e54 (a : Int) : Evt (fun n => call T C n 54 (a, ())) ((inR a 0 9937, ()), ()) := Evt.next (Evt.bind (e86 a 0 9937) (Evt.some _)) (fun n => r54 n a)
/- spec.l01At -/
theorem e56 {l : List Int} (hr : Rng l) (h0 : 0 < (l.length : Int)) (h1 : (l.length : Int) ≤ 1000000) {x : Int} (hx : -4000000 ≤ x) (hx' : x ≤ 4000000) : ∃ v, l[(x % l.length).toNat]? = some v ∧ v ∈ l ∧ Evt (fun n => call T C n 56 (l, x, ())) ((v, ()), ()) := by
  have hp := Int.emod_nonneg x (show (l.length : Int) ≠ 0 by omega)
  obtain ⟨v, hv⟩ := at_of (l := l) hp (Int.emod_lt_of_pos x h0)
  refine ⟨v, hv.get, hv.mem, ?_⟩
  refine Evt.next (Evt.chk (bne_pos h0) (Evt.chk (bne_pos h0) ?_)) (fun n => r56 n l x)
  rw [turn_at h0 h1 hx hx']
  refine Evt.at hv.idx ((Evt.some _).of_eq fun n => ?_)
  rw [hr.id hv.mem]
  rfl
theorem e56' {l : List Int} (hr : Rng l) (h0 : 0 < (l.length : Int)) (h1 : (l.length : Int) ≤ 1000000) {x : Int} (hx : -4000000 ≤ x) (hx' : x ≤ 4000000) : Evt (fun n => call T C n 56 (l, x, ())) ((cAt l x, ()), ()) := by
  obtain ⟨v, hv, hm, he⟩ := e56 hr h0 h1 hx hx'
  have : cAt l x = v := by unfold cAt g; rw [List.getD_eq_getElem?_getD, hv]; rfl
  rw [this]; exact he
/- spec.l01Size -/
theorem e55 {a : Int} (h1 : -1000000000000 ≤ a) (h2 : a ≤ 1000000000000) : Evt (fun n => call T C n 55 (a, ())) ((siz a, ()), ()) := by
  refine Evt.next ?_ (fun n => r55 n a)
  unfold siz
  rw [wrap_id (x := 0 - a) (by omega) (by omega)]
  refine Evt.ite (fun h => ?_) (fun h => ?_)
  · rw [if_pos (of_decide_eq_true h), Int.zero_sub]; exact Evt.some _
  · rw [if_neg (by simpa using h)]; exact Evt.some _
/- spec.l00Min -/
theorem e87 (a b : Int) : Evt (fun n => call T C n 87 (a, b, ())) ((min a b, ()), ()) := by
  refine Evt.next (Evt.ite (fun h => ?_) (fun h => ?_)) (fun n => r87 n a b)
  · have h : a < b := of_decide_eq_true h
    rw [show min a b = a by omega]; exact Evt.some _
  · have h : ¬ a < b := by simpa using h
    rw [show min a b = b by omega]; exact Evt.some _
/- spec.l05Asked -/
theorem e44 {c : List Int} (hr : Rng c) (f m lo b : Int) : Evt (fun n => call T C n 44 (c, f, m, lo, b, ())) ((askP c f m lo b, ()), ()) := by
  have hl := hr.len'
  refine Evt.next (Evt.bind (e52 c (by omega)) ?_) (fun n => r44 n c f m lo b)
  unfold askP
  cases hc : okC c with
  | false => exact Evt.yes rfl (Evt.some _)
  | true =>
  have hlen := okC_len hc
  rw [wrap_id (x := (c.length : Int) - 1) (by omega) (by omega), wrap_id (x := (c.length : Int) - 4) (by omega) (by omega)]
  refine Evt.no (by simp) (Evt.bind (e86 f 0 _) ?_)
  cases h1 : inR f 0 ((c.length : Int) - 1) with
  | false => exact Evt.yes rfl (Evt.some _)
  | true =>
  refine Evt.no (by simp) (Evt.bind (e87 40 _) (Evt.bind (e86 m 1 _) ?_))
  cases h2 : inR m 1 (min 40 ((c.length : Int) - 4)) with
  | false => exact Evt.yes rfl (Evt.some _)
  | true =>
  refine Evt.no (by simp) (Evt.bind (e54 lo) ?_)
  cases h3 : inR lo 0 9937 with
  | false => exact Evt.yes rfl (Evt.some _)
  | true =>
  refine Evt.no (by simp) (Evt.bind (e53 b) ?_)
  cases h4 : inR b 0 40000 with
  | false => exact Evt.yes rfl (Evt.some _)
  | true =>
  have g1 := inR_iff.1 h1
  have g2 := inR_iff.1 h2
  have g3 := inR_iff.1 h3
  rw [wrap_id (x := f - 2) (by omega) (by omega), wrap_id (x := f - 1) (by omega) (by omega), wrap_id (x := f + m) (by omega) (by omega), wrap_id (x := f + m + 1) (by omega) (by omega)]
  have one : ∀ s : Int, -4000000 ≤ s → s ≤ 4000000 → inR (cAt c s) lo (wr .i64 (wr .i64 (lo + 64) - 1)) = inR (hgt c lo s) 0 63 := by
    intro s _ _
    rw [wrap_id (x := lo + 64) (by omega) (by omega), wrap_id (x := lo + 64 - 1) (by omega) (by omega), Bool.eq_iff_iff, inR_iff, inR_iff]
    unfold hgt
    omega
  refine Evt.no (by simp) ?_
  refine for_evt' 0 4 (fun i (_ : Unit) => (c, lo, [f - 2, f - 1, f + m, f + m + 1], i, ())) (fun i _ => (0 < i → inR (hgt c lo (f - 2)) 0 63 = true) ∧ (1 < i → inR (hgt c lo (f - 1)) 0 63 = true) ∧ (2 < i → inR (hgt c lo (f + m)) 0 63 = true) ∧ (3 < i → inR (hgt c lo (f + m + 1)) 0 63 = true)) (b0 := ()) rfl (by omega) ⟨by omega, by omega, by omega, by omega⟩ ?_ ?_
  · intro i _ i0 i1 hp
    obtain ⟨s, s0, s1, hs, hbad, hgood⟩ : ∃ s : Int, -4000000 ≤ s ∧ s ≤ 4000000 ∧ idx [f - 2, f - 1, f + m, f + m + 1] i = some s ∧ (inR (hgt c lo s) 0 63 = false → (inR (hgt c lo (f - 2)) 0 63 && inR (hgt c lo (f - 1)) 0 63 && inR (hgt c lo (f + m)) 0 63 && inR (hgt c lo (f + m + 1)) 0 63) = false) ∧ (inR (hgt c lo s) 0 63 = true → (0 < i + 1 → inR (hgt c lo (f - 2)) 0 63 = true) ∧ (1 < i + 1 → inR (hgt c lo (f - 1)) 0 63 = true) ∧ (2 < i + 1 → inR (hgt c lo (f + m)) 0 63 = true) ∧ (3 < i + 1 → inR (hgt c lo (f + m + 1)) 0 63 = true)) := by
      rcases (show i = 0 ∨ i = 1 ∨ i = 2 ∨ i = 3 by omega) with e | e | e | e <;> subst e
      · exact ⟨f - 2, by omega, by omega, rfl, fun h => by rw [h]; rfl, fun h => ⟨fun _ => h, by omega, by omega, by omega⟩⟩
      · exact ⟨f - 1, by omega, by omega, rfl, fun h => by rw [h]; simp, fun h => ⟨fun _ => hp.1 (by omega), fun _ => h, by omega, by omega⟩⟩
      · exact ⟨f + m, by omega, by omega, rfl, fun h => by rw [h]; simp, fun h => ⟨fun _ => hp.1 (by omega), fun _ => hp.2.1 (by omega), fun _ => h, by omega⟩⟩
      · exact ⟨f + m + 1, by omega, by omega, rfl, fun h => by rw [h]; simp, fun h => ⟨fun _ => hp.1 (by omega), fun _ => hp.2.1 (by omega), fun _ => hp.2.2.1 (by omega), fun _ => h⟩⟩
    refine Round.yes (decide_eq_true (show i < ((4 : Nat) : Int) from i1)) (Round.at hs (Round.bind (e56' hr (by omega) (by omega) s0 s1) (Round.bind (e86 _ _ _) (Round.ite (fun h => ?_) (fun h => ?_)))))
    · have h : inR (hgt c lo s) 0 63 = false := by rw [one s s0 s1] at h; simpa using h
      rw [hbad h]
      exact Round.done (Evt.some _)
    · have h : inR (hgt c lo s) 0 63 = true := by rw [one s s0 s1] at h; simpa using h
      refine Round.again _ ⟨(), ?_, hgood h⟩
      rw [wrap_id (x := i + 1) (by omega) (by omega)]
  · intro _ hp
    rw [hp.1 (by omega), hp.2.1 (by omega), hp.2.2.1 (by omega), hp.2.2.2 (by omega)]
    exact Round.no (by simp) (Round.done (Evt.some _))
/- (*spec.l05Stretch).at -/
theorem e91 {c : List Int} (hr : Rng c) (h0 : 0 < (c.length : Int)) (h1 : (c.length : Int) ≤ 1000000) (f m lo b : Int) (l0 : 0 ≤ lo) (l1 : lo ≤ 9937) {s : Int} (s0 : -4000000 ≤ s) (s1 : s ≤ 4000000) : Evt (fun n => call T C n 91 ((c, (f, (m, (lo, (b, ()))))), s, ())) ((hgt c lo s, ()), ()) := by
  have b1 := hr.el _ (cAt_mem (by omega) s)
  refine Evt.next (Evt.bind (e56' hr h0 h1 s0 s1) ((Evt.some _).of_eq fun n => ?_)) (fun n => r91 n _ s)
  show some ((wr .i64 (cAt c s - lo), ()), ()) = _
  rw [wrap_id (x := cAt c s - lo) (by omega) (by omega)]
  rfl
/- (*spec.l05Stretch).first -/
theorem e109 {c : List Int} (hr : Rng c) {f m lo b : Int} (G : GoodS c f m lo b) : Evt (fun n => call T C n 109 ((c, (f, (m, (lo, (b, ()))))), ())) ((gR (fwd (qq c f m lo b) (px c f lo) (py c f lo) 0), ()), ()) := by
  have hl := G.len; have hf := G.hf; have hlo := G.hlo
  obtain ⟨ex, hx⟩ := G.px
  obtain ⟨ey, hy⟩ := G.py
  refine Evt.next (Evt.bind (e91 hr (by omega) (by omega) f m lo b (by omega) (by omega) (s := wr .i64 (f - 2)) (by rw [wrap_id (by omega) (by omega)]; omega) (by rw [wrap_id (by omega) (by omega)]; omega)) (Evt.bind (e91 hr (by omega) (by omega) f m lo b (by omega) (by omega) (s := wr .i64 (f - 1)) (by rw [wrap_id (by omega) (by omega)]; omega) (by rw [wrap_id (by omega) (by omega)]; omega)) ?_)) (fun n => r109 n _)
  rw [wrap_id (x := f - 2) (by omega) (by omega), wrap_id (x := f - 1) (by omega) (by omega), ex, ey]
  dsimp only
  rw [wrU (x := ((py c f lo : Nat) : Int)) (by omega) (by omega)]
  have key : (List.replicate 64 (0 : Int)).set (Int.toNat ((px c f lo : Nat) : Int)) (shl_ .u64 (1 : Int) ((py c f lo : Nat) : Int)) = gR (fwd (qq c f m lo b) (px c f lo) (py c f lo) 0) := by
    rw [Int.toNat_natCast, row_one hy, gR_zero, gR_set]
    exact gR_ext fun x y _ _ => by
      unfold fwd
      by_cases e : x = px c f lo <;> simp [e]
  rw [key]
  refine Evt.chk (decide_eq_true (by omega)) (Evt.chk (decide_eq_true ?_) (Evt.at (x := (0 : Int)) (by rw [Int.toNat_natCast, List.getElem?_replicate, if_pos hx]) (Evt.some _)))
  exact ⟨Int.natCast_nonneg _, Int.ofNat_lt.2 hx⟩
/- spec.l00Max -/
theorem e104 (a b : Int) : Evt (fun n => call T C n 104 (a, b, ())) ((max a b, ()), ()) := by
  refine Evt.next (Evt.ite (fun h => ?_) (fun h => ?_)) (fun n => r104 n a b)
  · have h : a > b := of_decide_eq_true h
    rw [show max a b = a by omega]; exact Evt.some _
  · have h : ¬ a > b := by simpa using h
    rw [show max a b = b by omega]; exact Evt.some _
/- (*spec.l05Stretch).may -/
theorem e90 {c : List Int} (hr : Rng c) {f m lo b : Int} (G : GoodS c f m lo b) {x y k : Nat} (hx : x < 64) (hy : y < 64) (hk : (k : Int) ≤ m + 1) {ix : Int} (hix : ix = (k : Int) + 1) : Evt (fun n => call T C n 90 ((c, (f, (m, (lo, (b, ()))))), (x : Int), (y : Int), ix, ())) ((row (qq c f m lo b k x y), ()), ()) := by
  subst hix
  have hl := G.len; have hf := G.hf; have hlo := G.hlo; have hb := G.hb; have hm := G.hm
  refine Evt.next (Evt.bind (e104 _ _) (Evt.bind (e87 _ _) ?_)) (fun n => r90 n _ x y _)
  rw [wrap_id (x := 2 * (y : Int)) (by omega) (by omega), wrap_id (x := 2 * (y : Int) - x) (by omega) (by omega), wrap_id (x := 2 * (y : Int) - x - b) (by omega) (by omega), wrap_id (x := 2 * (y : Int) - x + b) (by omega) (by omega)]
  have fin : ∀ A B : Int, 0 ≤ A → B ≤ 63 → (∀ z : Nat, z < 64 → (A ≤ z ∧ (z : Int) ≤ B ↔ qq c f m lo b k x y z = true)) → Evt (fun n => if decide (A > B) = true then some (((0 : Int), ()), ()) else chk (decide (0 ≤ wr .u64 (wr .i64 (63 - B)))) (chk (decide (0 ≤ wr .u64 A)) (chk (decide (0 ≤ wr .u64 A)) (some ((shl_ .u64 (shr_ .u64 (shr_ .u64 (18446744073709551615 : Int) (wr .u64 (wr .i64 (63 - B)))) (wr .u64 A)) (wr .u64 A), ()), ()))))) ((row (qq c f m lo b k x y), ()), ()) := by
    intro A B hA hB hq
    refine Evt.ite (fun h => ?_) (fun h => ?_)
    · have h : A > B := of_decide_eq_true h
      rw [row_none fun z hz => by
        cases e : qq c f m lo b k x y z with
        | false => rfl
        | true => have := (hq z hz).2 e; omega]
      exact Evt.some _
    · have h : ¬ A > B := by simpa using h
      refine Evt.chk (decide_eq_true ?_) (Evt.chk (decide_eq_true ?_) (Evt.chk (decide_eq_true ?_) ((Evt.some _).of_eq fun n => ?_)))
      · rw [wrap_id (x := 63 - B) (by omega) (by omega), wrU (x := 63 - B) (by omega) (by omega)]; omega
      · rw [wrU (x := A) (by omega) (by omega)]; omega
      · rw [wrU (x := A) (by omega) (by omega)]; omega
      · rw [may_val hA hB h]
        have : row (fun z => decide (A ≤ z ∧ (z : Int) ≤ B)) = row (qq c f m lo b k x y) := row_congr fun z hz => by rw [Bool.eq_iff_iff, decide_eq_true_eq]; exact hq z hz
        rw [this]
  refine Evt.ite (fun h => ?_) (fun h => ?_)
  · have h : (k : Int) + 1 > m := of_decide_eq_true h
    have hw := G.fix (k := k) (by omega) hk
    rw [wrap_id (x := f + ((k : Int) + 1)) (by omega) (by omega), wrap_id (x := f + ((k : Int) + 1) - 1) (by omega) (by omega), show f + ((k : Int) + 1) - 1 = f + k by omega]
    refine Evt.bind (e91 hr (by omega) (by omega) f m lo b (by omega) (by omega) (by omega) (by omega)) (Evt.bind (e104 _ _) (Evt.bind (e87 _ _) ?_))
    dsimp only
    refine fin _ _ (by omega) (by omega) fun z hz => ?_
    unfold qq sp al
    rw [show decide ((k : Int) < m) = false from decide_eq_false (by omega)]
    simp only [Bool.false_or, Bool.and_eq_true, decide_eq_true_eq]
    omega
  · have h : ¬ (k : Int) + 1 > m := by simpa using h
    dsimp only
    refine fin _ _ (by omega) (by omega) fun z hz => ?_
    unfold qq sp al
    rw [show decide ((k : Int) < m) = true from decide_eq_true (by omega)]
    simp only [Bool.true_or, Bool.and_true, decide_eq_true_eq]
    omega
/- (*spec.l05Stretch).reach -/
theorem e77 {c : List Int} (hr : Rng c) {f m lo b : Int} (G : GoodS c f m lo b) : Evt (fun n => call T C n 77 ((c, (f, (m, (lo, (b, ()))))), ())) ((tb (m.toNat + 3) (fun i => gR (fwd (qq c f m lo b) (px c f lo) (py c f lo) i)), ()), ()) := by
  have hm := G.hm
  obtain ⟨F, hF⟩ : ∃ F, F = fwd (qq c f m lo b) (px c f lo) (py c f lo) := ⟨_, rfl⟩
  rw [← hF]
  refine Evt.next (Evt.bind (e109 hr G) ?_) (fun n => r77 n _)
  rw [← hF]
  have w0 : wr .i64 (m + 2) = m + 2 := wrap_id (by omega) (by omega)
  refine for_evt' 1 (m + 3) (fun i (_ : Unit) => ((c, (f, (m, (lo, (b, ()))))), tb i.toNat (fun i => gR (F i)), i, ())) (fun _ _ => True) (b0 := ()) (by show (_, [gR (F 0)], _) = _; simp [tb]) (by omega) trivial ?_ ?_
  · intro i _ i0 i1 _
    obtain ⟨k, rfl⟩ : ∃ k : Nat, i = ((k + 1 : Nat) : Int) := ⟨(i - 1).toNat, by omega⟩
    have hk : (k : Int) ≤ m + 1 := by omega
    have w1 : wr .i64 (((k + 1 : Nat) : Int) - 1) = (k : Int) := by rw [wrap_id (by omega) (by omega)]; omega
    have w2 : wr .i64 (((k + 1 : Nat) : Int) + 1) = ((k + 1 : Nat) : Int) + 1 := wrap_id (by omega) (by omega)
    rw [Int.toNat_natCast]
    dsimp only
    rw [w0, w1]
    refine Round.yes (decide_eq_true (by omega)) (Round.chk (decide_eq_true ⟨by omega, by rw [tb_len]; omega⟩) ?_)
    rw [Int.toNat_natCast]
    -- the pairs of the grid ahead, one by one
    have step1 : ∀ x y : Nat, x < 64 → y < 64 → F k x y = false → gR (fun y' z => (List.range 64).any fun x' => (decide (x' < x) || (x' == x && decide (y' < y))) && F k x' y' && qq c f m lo b k x' y' z) = gR (fun y' z => (List.range 64).any fun x' => (decide (x' < x) || (x' == x && decide (y' < y + 1))) && F k x' y' && qq c f m lo b k x' y' z) := by
      intro x y hx hy hf
      refine gR_ext fun y' z _ _ => ?_
      congr 1
      funext x'
      by_cases h1 : x' = x
      · subst h1
        by_cases h2 : y' = y
        · subst h2; simp [hf]
        · have : decide (y' < y) = decide (y' < y + 1) := by rw [decide_eq_decide]; omega
          rw [this]
      · have : (x' == x) = false := by simpa using h1
        rw [this]; rfl
    have step2 : ∀ x y : Nat, x < 64 → y < 64 → F k x y = true → (gR (fun y' z => (List.range 64).any fun x' => (decide (x' < x) || (x' == x && decide (y' < y))) && F k x' y' && qq c f m lo b k x' y' z)).set y (bitsI .or .u64 (row fun z => (List.range 64).any fun x' => (decide (x' < x) || (x' == x && decide (y < y))) && F k x' y && qq c f m lo b k x' y z) (row (qq c f m lo b k x y))) = gR (fun y' z => (List.range 64).any fun x' => (decide (x' < x) || (x' == x && decide (y' < y + 1))) && F k x' y' && qq c f m lo b k x' y' z) := by
      intro x y hx hy hf
      rw [row_or, gR_set]
      refine gR_ext fun y' z _ _ => ?_
      by_cases h2 : y' = y
      · subst h2
        rw [if_pos rfl, Bool.eq_iff_iff, Bool.or_eq_true, any64, any64]
        constructor
        · rintro (⟨x', hx', h⟩ | h)
          · refine ⟨x', hx', ?_⟩
            simp only [Bool.and_eq_true, Bool.or_eq_true, decide_eq_true_eq, beq_iff_eq] at h ⊢
            exact ⟨⟨by omega, h.1.2⟩, h.2⟩
          · exact ⟨x, hx, by simp [hf, h]⟩
        · rintro ⟨x', hx', h⟩
          simp only [Bool.and_eq_true, Bool.or_eq_true, decide_eq_true_eq, beq_iff_eq] at h
          by_cases h3 : x' = x
          · subst h3; exact .inr h.2
          · refine .inl ⟨x', hx', ?_⟩
            simp only [Bool.and_eq_true, Bool.or_eq_true, decide_eq_true_eq, beq_iff_eq]
            exact ⟨⟨by omega, h.1.2⟩, h.2⟩
      · rw [if_neg h2]
        congr 1
        funext x'
        have : decide (y' < y) = decide (y' < y + 1) := by rw [decide_eq_decide]; omega
        rw [this]
    refine for_round' 0 64 (fun x (_ : Unit) => ((c, (f, (m, (lo, (b, ()))))), tb (k + 1) (fun i => gR (F i)), ((k + 1 : Nat) : Int), gR (fun y' z => (List.range 64).any fun x' => (decide (x' < x.toNat) || (x' == x.toNat && decide (y' < 0))) && F k x' y' && qq c f m lo b k x' y' z), (k : Int), x, ())) (fun _ _ => True) (b0 := ()) ?_ (by omega) trivial ?_ ?_
    · rw [gR_zero, show gR (fun _ _ => false) = gR (fun y' z => (List.range 64).any fun x' => (decide (x' < (0 : Int).toNat) || (x' == (0 : Int).toNat && decide (y' < 0))) && F k x' y' && qq c f m lo b k x' y' z) from gR_ext fun y' z _ _ => by simp]
    · intro x _ x0 x1 _
      obtain ⟨x, rfl⟩ : ∃ x' : Nat, x = x' := ⟨x.toNat, by omega⟩
      have hx : x < 64 := by omega
      rw [Int.toNat_natCast]
      refine Round.yes (decide_eq_true x1) ?_
      dsimp only
      rw [Int.toNat_natCast]
      refine for_round' 0 64 (fun y (_ : Unit) => ((c, (f, (m, (lo, (b, ()))))), tb (k + 1) (fun i => gR (F i)), ((k + 1 : Nat) : Int), gR (fun y' z => (List.range 64).any fun x' => (decide (x' < x) || (x' == x && decide (y' < y.toNat))) && F k x' y' && qq c f m lo b k x' y' z), (k : Int), (x : Int), y, ())) (fun _ _ => True) (b0 := ()) rfl (by omega) trivial ?_ ?_
      · intro y _ y0 y1 _
        obtain ⟨y, rfl⟩ : ∃ y' : Nat, y = y' := ⟨y.toNat, by omega⟩
        have hy : y < 64 := by omega
        rw [Int.toNat_natCast]
        refine Round.yes (decide_eq_true y1) (Round.chk (decide_eq_true ⟨by omega, Int.ofNat_lt.2 hx⟩) (Round.at (v := gR (F k)) (by dsimp only; rw [Int.toNat_natCast]; exact tb_get (by omega)) (Round.at (v := row (F k x)) (by dsimp only; rw [Int.toNat_natCast]; exact gR_get _ hx) ?_)))
        dsimp only
        rw [Int.toNat_natCast, wrU (x := (y : Int)) (by omega) (by omega), row_bit _ hy, wrap_id (x := (y : Int) + 1) (by omega) (by omega)]
        refine Round.chk (decide_eq_true (by omega)) (Round.ite (fun h => ?_) (fun h => ?_))
        · refine Round.chk (decide_eq_true ⟨by omega, Int.ofNat_lt.2 hy⟩) (Round.at (gR_get _ hy) (Round.bind (e90 hr G hx hy hk (ix := ((k + 1 : Nat) : Int)) (by omega)) (Round.chk (decide_eq_true ⟨by omega, Int.ofNat_lt.2 hy⟩) (Round.at (gR_get _ hy) (Round.inr _ ⟨(), ?_, trivial⟩)))))
          try dsimp only
          rw [step2 x y hx hy h, show ((y : Int) + 1).toNat = y + 1 by omega]
        · have h : F k x y = false := by simpa using h
          refine Round.inr _ ⟨(), ?_, trivial⟩
          rw [step1 x y hx hy h, show ((y : Int) + 1).toNat = y + 1 by omega]
      · intro _ _
        refine Round.no (by simp) (Round.inl _ ⟨(), ?_, trivial⟩)
        dsimp only
        rw [Int.toNat_natCast, wrap_id (x := (x : Int) + 1) (by omega) (by omega)]
        have : gR (fun y' z => (List.range 64).any fun x' => (decide (x' < x) || (x' == x && decide (y' < (64 : Int).toNat))) && F k x' y' && qq c f m lo b k x' y' z) = gR (fun y' z => (List.range 64).any fun x' => (decide (x' < ((x : Int) + 1).toNat) || (x' == ((x : Int) + 1).toNat && decide (y' < 0))) && F k x' y' && qq c f m lo b k x' y' z) := by
          refine gR_ext fun y' z hy' _ => ?_
          congr 1
          funext x'
          congr 2
          rw [Bool.eq_iff_iff]
          simp
          omega
        rw [this]
    · intro _ _
      refine Round.no (by simp) (Round.chk (decide_eq_true ?_) (Round.again _ ⟨(), ?_, trivial⟩))
      · dsimp only
        rw [tb_len]
        simp only [List.length_cons, List.length_nil]
        omega
      · dsimp only
        have : gR (fun y' z => (List.range 64).any fun x' => (decide (x' < (64 : Int).toNat) || (x' == (64 : Int).toNat && decide (y' < 0))) && F k x' y' && qq c f m lo b k x' y' z) = gR (F (k + 1)) := by
          refine gR_ext fun y' z _ _ => ?_
          rw [hF]
          show _ = (List.range 64).any fun x => fwd (qq c f m lo b) (px c f lo) (py c f lo) k x y' && qq c f m lo b k x y' z
          rw [Bool.eq_iff_iff, any64, any64]
          constructor
          · rintro ⟨x', hx', h⟩
            exact ⟨x', hx', by simp only [Bool.and_eq_true] at h ⊢; exact ⟨h.1.2, h.2⟩⟩
          · rintro ⟨x', hx', h⟩
            exact ⟨x', hx', by simp only [Bool.and_eq_true, Bool.or_eq_true, decide_eq_true_eq] at h ⊢; exact ⟨⟨.inl hx', h.1⟩, h.2⟩⟩
        rw [this, tb_snoc, w2, show (((k + 1 : Nat) : Int) + 1).toNat = k + 1 + 1 by omega]
  · intro _ _
    dsimp only
    rw [w0, show (m + 3).toNat = m.toNat + 3 by omega]
    exact Round.no (by simp) (Round.done (Evt.some _))
/- (*spec.l05Stretch).fill -/
theorem e48 {c : List Int} (hr : Rng c) {f m lo b : Int} (G : GoodS c f m lo b) : Evt (fun n => call T C n 48 ((c, (f, (m, (lo, (b, ()))))), ())) (fillR c f m lo b, ()) := by
  have hm := G.hm; have hb := G.hb; have hlo := G.hlo; have hl := G.len; have hf := G.hf
  obtain ⟨ex, hx0⟩ := G.px
  obtain ⟨ey, hy0⟩ := G.py
  obtain ⟨M, hM⟩ : ∃ M : Nat, (M : Int) = m := ⟨m.toNat, by omega⟩
  have hMm : m.toNat = M := by omega
  obtain ⟨q, hq⟩ : ∃ q, q = qq c f m lo b := ⟨_, rfl⟩
  obtain ⟨F, hF⟩ : ∃ F, F = fwd q (px c f lo) (py c f lo) := ⟨_, rfl⟩
  obtain ⟨tt, htt⟩ : ∃ tt : Nat → Nat → Nat → Bool, tt = fun j => can q (M + 2 - j) j := ⟨_, rfl⟩
  have tk : ∀ k x y : Nat, (k : Int) ≤ m + 1 → tt k x y = (List.range 64).any fun z => q k x y z && tt (k + 1) y z := by
    intro k x y hk
    rw [htt]
    show can q (M + 2 - k) k x y = _
    rw [show M + 2 - k = (M + 2 - (k + 1)) + 1 by omega]
    rfl
  have tl : ∀ x y, tt (M + 2) x y = true := by
    intro x y
    rw [htt]
    show can q (M + 2 - (M + 2)) (M + 2) x y = true
    rw [Nat.sub_self]; rfl
  have Fk : ∀ k x y z, x < 64 → F k x y = true → q k x y z = true → F (k + 1) y z = true := by
    intro k x y z hx h1 h2
    rw [hF] at h1 ⊢
    simp only [fwd]
    exact any64.2 ⟨x, hx, by simp [h1, h2]⟩
  refine Evt.next (Evt.bind (e77 hr G) ?_) (fun n => r48 n _)
  rw [hMm, ← hq, ← hF]
  dsimp only
  have w1 : wr .i64 (m + 1) = ((M + 1 : Nat) : Int) := by rw [wrap_id (by omega) (by omega)]; omega
  rw [w1]
  refine for_evt' 0 ((M + 2 : Nat) : Int) (fun i (_ : Unit) => ((c, (f, (m, (lo, (b, ()))))), tb (M + 3) (fun j => if M + 2 - i.toNat ≤ j then gR (fun x y => F j x y && tt j x y) else gR (F j)), ((M + 1 : Nat) : Int) - i, ())) (fun _ _ => True) (b0 := ()) ?_ (by omega) trivial ?_ ?_
  · rw [show tb (M + 3) (fun j => if M + 2 - (0 : Int).toNat ≤ j then gR (fun x y => F j x y && tt j x y) else gR (F j)) = tb (M + 3) (fun i => gR (F i)) from tb_ext fun j hj => by
      split
      · rename_i h
        have : j = M + 2 := by have : (0 : Int).toNat = 0 := rfl; omega
        subst this
        exact gR_ext fun x y _ _ => by rw [tl, Bool.and_true]
      · rfl, Int.sub_zero]
  · intro i _ i0 i1 _
    obtain ⟨k, hk⟩ : ∃ k : Nat, (k : Int) = ((M + 1 : Nat) : Int) - i := ⟨(((M + 1 : Nat) : Int) - i).toNat, by omega⟩
    have hk1 : (k : Int) ≤ m + 1 := by omega
    have hi : M + 2 - i.toNat = k + 1 := by omega
    have hi2 : M + 2 - (i + 1).toNat = k := by omega
    rw [hi, hi2, ← hk, show ((M + 1 : Nat) : Int) - (i + 1) = (k : Int) - 1 by omega]
    have w4 : wr .i64 ((k : Int) + 1) = ((k + 1 : Nat) : Int) := by rw [wrap_id (by omega) (by omega)]; omega
    have w5 : wr .i64 ((k : Int) - 1) = (k : Int) - 1 := wrap_id (by omega) (by omega)
    refine Round.yes (decide_eq_true (show (k : Int) ≥ 0 by omega)) ?_
    dsimp only
    refine for_round' 0 64 (fun x (_ : Unit) => ((c, (f, (m, (lo, (b, ()))))), tb (M + 3) (fun j => if k + 1 ≤ j then gR (fun x y => F j x y && tt j x y) else if j = k then pm (F k) (tt k) x.toNat 0 else gR (F j)), (k : Int), x, ())) (fun _ _ => True) (b0 := ()) ?_ (by omega) trivial ?_ ?_
    · rw [show tb (M + 3) (fun j => if k + 1 ≤ j then gR (fun x y => F j x y && tt j x y) else gR (F j)) = tb (M + 3) (fun j => if k + 1 ≤ j then gR (fun x y => F j x y && tt j x y) else if j = k then pm (F k) (tt k) (0 : Int).toNat 0 else gR (F j)) from tb_ext fun j _ => by
        split
        · rfl
        · split
          · rename_i h; subst h; exact (pm_zero _ _).symm
          · rfl]
    · intro x _ x0 x1 _
      obtain ⟨x, rfl⟩ : ∃ x' : Nat, x = x' := ⟨x.toNat, by omega⟩
      have hx : x < 64 := by omega
      rw [Int.toNat_natCast]
      refine Round.yes (decide_eq_true x1) ?_
      dsimp only
      refine for_round' 0 64 (fun y (_ : Unit) => ((c, (f, (m, (lo, (b, ()))))), tb (M + 3) (fun j => if k + 1 ≤ j then gR (fun x y => F j x y && tt j x y) else if j = k then pm (F k) (tt k) x y.toNat else gR (F j)), (k : Int), (x : Int), y, ())) (fun _ _ => True) (b0 := ()) rfl (by omega) trivial ?_ ?_
      · intro y _ y0 y1 _
        obtain ⟨y, rfl⟩ : ∃ y' : Nat, y = y' := ⟨y.toNat, by omega⟩
        have hy : y < 64 := by omega
        rw [Int.toNat_natCast]
        have hat : (tb (M + 3) (fun j => if k + 1 ≤ j then gR (fun x y => F j x y && tt j x y) else if j = k then pm (F k) (tt k) x y else gR (F j)))[(Int.toNat (k : Int))]? = some (pm (F k) (tt k) x y) := by
          rw [Int.toNat_natCast, tb_get (by omega), if_neg (by omega), if_pos rfl]
        have hat2 : (tb (M + 3) (fun j => if k + 1 ≤ j then gR (fun x y => F j x y && tt j x y) else if j = k then pm (F k) (tt k) x y else gR (F j)))[(Int.toNat ((k + 1 : Nat) : Int))]? = some (gR (fun x y => F (k + 1) x y && tt (k + 1) x y)) := by
          rw [Int.toNat_natCast, tb_get (by omega), if_pos (Nat.le_refl _)]
        dsimp only
        rw [w4, tb_len, hat, hat2, wrU (x := (y : Int)) (by omega) (by omega), wrap_id (x := (y : Int) + 1) (by omega) (by omega)]
        refine Round.yes (decide_eq_true y1) (Round.chk (decide_eq_true (by omega)) (Round.chk (decide_eq_true ⟨by omega, by omega⟩) (Round.chk (decide_eq_true ⟨by omega, Int.ofNat_lt.2 hx⟩) (Round.at rfl (Round.at (pm_get _ _ hx) ?_)))))
        rw [row_has _ hy, show (F k x y && (!decide (y < y) || tt k x y)) = F k x y by simp]
        have again : ∀ g, g = pm (F k) (tt k) x (y + 1) → (tb (M + 3) (fun j => if k + 1 ≤ j then gR (fun x y => F j x y && tt j x y) else if j = k then pm (F k) (tt k) x y else gR (F j))).set k g = tb (M + 3) (fun j => if k + 1 ≤ j then gR (fun x y => F j x y && tt j x y) else if j = k then pm (F k) (tt k) x ((y : Int) + 1).toNat else gR (F j)) := by
          intro g hg
          rw [hg, tb_set, show ((y : Int) + 1).toNat = y + 1 by omega]
          refine tb_ext fun j _ => ?_
          by_cases e : j = k
          · subst e; rw [if_pos rfl, if_neg (by omega), if_pos rfl]
          · rw [if_neg e, if_neg e, if_neg e]
        have skip : (F k x y = false ∨ tt k x y = true) → tb (M + 3) (fun j => if k + 1 ≤ j then gR (fun x y => F j x y && tt j x y) else if j = k then pm (F k) (tt k) x y else gR (F j)) = tb (M + 3) (fun j => if k + 1 ≤ j then gR (fun x y => F j x y && tt j x y) else if j = k then pm (F k) (tt k) x ((y : Int) + 1).toNat else gR (F j)) := by
          intro hs
          rw [pm_skip hs, show ((y : Int) + 1).toNat = y + 1 by omega]
        refine Round.ite (fun hc => ?_) (fun hc => ?_)
        · refine Round.bind (e90 hr G hx hy hk1 (ix := ((k + 1 : Nat) : Int)) (by omega)) (Round.chk (decide_eq_true ⟨by omega, by omega⟩) (Round.chk (decide_eq_true ⟨by omega, Int.ofNat_lt.2 hy⟩) (Round.at rfl (Round.at (gR_get _ hy) ?_))))
          dsimp only
          have key : (bitsI .and .u64 (row (qq c f m lo b k x y)) (row fun z => F (k + 1) y z && tt (k + 1) y z) == (0 : Int)) = !tt k x y := by
            have h1 := row_ne fun z => qq c f m lo b k x y z && (F (k + 1) y z && tt (k + 1) y z)
            rw [row_and]
            have h2 : ∀ v : Int, (v == 0) = !(v != 0) := fun v => by simp [bne]
            have h3 : ((List.range 64).any fun z => qq c f m lo b k x y z && (F (k + 1) y z && tt (k + 1) y z)) = tt k x y := by
              rw [tk k x y hk1, ← hq, Bool.eq_iff_iff, any64, any64]
              constructor
              · rintro ⟨z, hz, h⟩
                simp only [Bool.and_eq_true] at h
                exact ⟨z, hz, by rw [h.1, h.2.2]; rfl⟩
              · rintro ⟨z, hz, h⟩
                simp only [Bool.and_eq_true] at h
                exact ⟨z, hz, by rw [h.1, h.2, Fk k x y z hx hc h.1]; rfl⟩
            rw [h2, h1, h3]
          rw [key]
          refine Round.ite (fun hd => ?_) (fun hd => ?_)
          · have hd : tt k x y = false := by simpa using hd
            refine Round.chk (decide_eq_true ⟨by omega, by omega⟩) (Round.chk (decide_eq_true ⟨by omega, Int.ofNat_lt.2 hx⟩) (Round.at rfl (Round.at (pm_get _ _ hx) (Round.chk (decide_eq_true ⟨by omega, by omega⟩) (Round.chk (decide_eq_true ⟨by omega, Int.ofNat_lt.2 hx⟩) (Round.at rfl (Round.at (pm_get _ _ hx) (Round.inr _ ⟨(), ?_, trivial⟩))))))))
            rw [show (Int.toNat (k : Int)) = k from rfl, show (Int.toNat (x : Int)) = x from rfl, again _ (pm_cut hy hc hd)]
          · have hd : tt k x y = true := by simpa using hd
            refine Round.inr _ ⟨(), ?_, trivial⟩
            rw [← skip (.inr hd)]
        · have hc : F k x y = false := by simpa using hc
          refine Round.inr _ ⟨(), ?_, trivial⟩
          rw [← skip (.inl hc)]
      · intro _ _
        refine Round.no (by simp) (Round.inl _ ⟨(), ?_, trivial⟩)
        dsimp only
        rw [wrap_id (x := (x : Int) + 1) (by omega) (by omega), show (64 : Int).toNat = 64 from rfl, pm_next, show ((x : Int) + 1).toNat = x + 1 by omega]
    · intro _ _
      refine Round.no (by simp) (Round.again _ ⟨(), ?_, trivial⟩)
      dsimp only
      rw [w5, show (64 : Int).toNat = 64 from rfl, pm_full]
      rw [show tb (M + 3) (fun j => if k + 1 ≤ j then gR (fun x y => F j x y && tt j x y) else if j = k then gR (fun x y => F k x y && tt k x y) else gR (F j)) = tb (M + 3) (fun j => if k ≤ j then gR (fun x y => F j x y && tt j x y) else gR (F j)) from tb_ext fun j _ => by
        by_cases e : j = k
        · subst e; rw [if_neg (by omega), if_pos rfl, if_pos (Nat.le_refl _)]
        · by_cases e2 : k ≤ j
          · rw [if_pos (by omega), if_pos e2]
          · rw [if_neg (by omega), if_neg e, if_neg e2]]
  · intro _ _
    refine Round.no (by simp <;> omega) (Round.done ?_)
    dsimp only
    rw [show tb (M + 3) (fun j => if M + 2 - ((M + 2 : Nat) : Int).toNat ≤ j then gR (fun x y => F j x y && tt j x y) else gR (F j)) = tb (M + 3) (fun j => gR (fun x y => F j x y && tt j x y)) from tb_ext fun j _ => if_pos (by rw [Int.toNat_natCast]; omega)]
    rw [wrap_id (x := f - 2) (by omega) (by omega), wrap_id (x := f - 1) (by omega) (by omega), tb_len]
    refine Evt.bind (e91 hr (by omega) (by omega) f m lo b (by omega) (by omega) (by omega) (by omega)) (Evt.bind (e91 hr (by omega) (by omega) f m lo b (by omega) (by omega) (by omega) (by omega)) ?_)
    rw [ex, ey]
    dsimp only
    refine Evt.chk (decide_eq_true ⟨by omega, by omega⟩) (Evt.chk (decide_eq_true ⟨Int.natCast_nonneg _, Int.ofNat_lt.2 hx0⟩) (Evt.at (x := gR fun x y => F 0 x y && tt 0 x y) (tb_get (i := 0) (by omega)) (Evt.at (x := row fun y => F 0 (px c f lo) y && tt 0 (px c f lo) y) (gR_get _ hx0) ?_)))
    rw [wrU (x := ((py c f lo : Nat) : Int)) (by omega) (by omega)]
    refine Evt.chk (decide_eq_true (by omega)) ?_
    have h00 : F 0 (px c f lo) (py c f lo) = true := by rw [hF]; simp [fwd]
    have hcq : cq c f m lo b = tt 0 (px c f lo) (py c f lo) := by unfold cq; rw [hMm, htt, ← hq]; rfl
    have key0 : (bitsI .and .u64 (shr_ .u64 (row fun y => F 0 (px c f lo) y && tt 0 (px c f lo) y) ((py c f lo : Nat) : Int)) (1 : Int) == (0 : Int)) = !tt 0 (px c f lo) (py c f lo) := by
      have h1 := row_bit (fun y => F 0 (px c f lo) y && tt 0 (px c f lo) y) hy0
      rw [h00, Bool.true_and] at h1
      rw [← h1]
      have h2 : bitsI .and .u64 (shr_ .u64 (row fun y => F 0 (px c f lo) y && tt 0 (px c f lo) y) ((py c f lo : Nat) : Int)) (1 : Int) = 0 ∨ bitsI .and .u64 (shr_ .u64 (row fun y => F 0 (px c f lo) y && tt 0 (px c f lo) y) ((py c f lo : Nat) : Int)) (1 : Int) = 1 := bit_or _ hy0
      rcases h2 with h2 | h2 <;> rw [h2] <;> rfl
    rw [key0]
    unfold fillR
    rw [hcq]
    refine Evt.ite (fun h => ?_) (fun h => ?_)
    · rw [if_neg (by simpa using h)]; exact Evt.some _
    have h : tt 0 (px c f lo) (py c f lo) = true := by simpa using h
    rw [if_pos h]
    have hfil : filP c f m lo b = fil q lo (M + 2) M 0 (px c f lo) (py c f lo) := by unfold filP; rw [hMm, hq]
    rw [hfil]
    refine for_evt' 0 m (fun k (s : Nat × Nat × List Int) => ((c, (f, (m, (lo, (b, ()))))), tb (M + 3) (fun j => gR (fun x y => F j x y && tt j x y)), (s.1 : Int), (s.2.1 : Int), s.2.2, k + 1, ())) (fun k s => s.1 < 64 ∧ s.2.1 < 64 ∧ F k.toNat s.1 s.2.1 = true ∧ tt k.toNat s.1 s.2.1 = true ∧ s.2.2.length = k.toNat ∧ s.2.2 ++ fil q lo (M + 2) (M - k.toNat) k.toNat s.1 s.2.1 = fil q lo (M + 2) M 0 (px c f lo) (py c f lo)) (b0 := (px c f lo, py c f lo, [])) rfl (by omega) ⟨hx0, hy0, h00, h, rfl, rfl⟩ ?_ ?_
    · rintro k ⟨x, y, out⟩ k0 k1 ⟨hx, hy, hFk, ht, hlen, hfil⟩
      obtain ⟨k, rfl⟩ : ∃ k' : Nat, k = k' := ⟨k.toNat, by omega⟩
      dsimp only at hx hy hFk ht hlen hfil ⊢
      rw [Int.toNat_natCast] at hFk ht hlen hfil
      rw [tk k x y (by omega)] at ht
      obtain ⟨z1, z2, z3⟩ := fstZ_some ht
      obtain ⟨z, hzz⟩ : ∃ z, z = fstZ fun z => q k x y z && tt (k + 1) y z := ⟨_, rfl⟩
      rw [← hzz] at z1 z2 z3
      have z2' := z2
      simp only [Bool.and_eq_true] at z2'
      rw [tb_len, show (k : Int) + 1 = ((k + 1 : Nat) : Int) by omega]
      refine Round.yes (decide_eq_true (by omega)) (Round.bind (e90 hr G hx hy (k := k) (by omega) (ix := ((k + 1 : Nat) : Int)) (by omega)) (Round.chk (decide_eq_true ⟨by omega, by omega⟩) (Round.chk (decide_eq_true ⟨by omega, Int.ofNat_lt.2 hy⟩) (Round.at (v := gR (fun x y => F (k + 1) x y && tt (k + 1) x y)) (by rw [Int.toNat_natCast]; exact tb_get (by omega)) (Round.at (v := row fun z => F (k + 1) y z && tt (k + 1) y z) (gR_get _ hy) ?_)))))
      dsimp only
      have hrow : bitsI .and .u64 (row (qq c f m lo b k x y)) (row fun z => F (k + 1) y z && tt (k + 1) y z) = row fun z => q k x y z && tt (k + 1) y z := by
        rw [row_and, ← hq]
        refine row_congr fun z hz => ?_
        cases e : q k x y z with
        | false => rfl
        | true => rw [Fk k x y z hx hFk e]; simp
      rw [hrow]
      have hbit : ∀ w : Nat, w < 64 → (bitsI .and .u64 (shr_ .u64 (row fun z => q k x y z && tt (k + 1) y z) (w : Int)) (1 : Int) == (0 : Int)) = !(q k x y w && tt (k + 1) y w) := by
        intro w hw
        have h1 := row_bit (fun z => q k x y z && tt (k + 1) y z) hw
        rw [← h1]
        rcases bit_or (fun z => q k x y z && tt (k + 1) y z) hw with h2 | h2 <;> rw [h2] <;> rfl
      refine for_round' 0 (z : Int) (fun w (_ : Unit) => ((c, (f, (m, (lo, (b, ()))))), tb (M + 3) (fun j => gR (fun x y => F j x y && tt j x y)), (y : Int), out, ((k + 1 : Nat) : Int), (row fun z => q k x y z && tt (k + 1) y z), w, ())) (fun _ _ => True) (b0 := ()) rfl (by omega) trivial ?_ ?_
      · intro w _ w0 w1 _
        obtain ⟨w, rfl⟩ : ∃ w' : Nat, w = w' := ⟨w.toNat, by omega⟩
        dsimp only
        rw [wrU (x := (w : Int)) (by omega) (by omega), hbit w (by omega), z3 w (by omega), wrap_id (x := (w : Int) + 1) (by omega) (by omega)]
        exact Round.chk (decide_eq_true (by omega)) (Round.yes rfl (Round.inr _ ⟨(), rfl, trivial⟩))
      · intro _ _
        dsimp only
        rw [wrU (x := (z : Int)) (by omega) (by omega), hbit z z1, z2, wrap_id (x := (z : Int) + lo) (by omega) (by omega), wrap_id (x := ((k + 1 : Nat) : Int) + 1) (by omega) (by omega)]
        refine Round.chk (decide_eq_true (by omega)) (Round.no (by simp) (Round.chk (decide_eq_true (by simp; omega)) (Round.inl _ ⟨(y, z, out ++ [lo + (z : Int)]), ?_, hy, z1, ?_, ?_, ?_, ?_⟩)))
        · dsimp only
          rw [Int.add_comm (z : Int) lo]
        · dsimp only; rw [Int.toNat_natCast]; exact Fk k x y z hx hFk z2'.1
        · dsimp only; rw [Int.toNat_natCast]; exact z2'.2
        · dsimp only; rw [List.length_append, hlen, Int.toNat_natCast]; rfl
        · dsimp only
          rw [← hfil, Int.toNat_natCast, show M - k = (M - (k + 1)) + 1 by omega, List.append_assoc]
          congr 1
          have : (fstZ fun z => q k x y z && can q (M + 2 - (k + 1)) (k + 1) y z) = z := by rw [hzz, htt]
          show _ = (lo + (fstZ fun z => q k x y z && can q (M + 2 - (k + 1)) (k + 1) y z : Nat)) :: fil q lo (M + 2) (M - (k + 1)) (k + 1) y (fstZ fun z => q k x y z && can q (M + 2 - (k + 1)) (k + 1) y z)
          rw [this]
          rfl
    · rintro ⟨x, y, out⟩ ⟨hx, hy, hFk, ht, hlen, hfil⟩
      dsimp only at hfil ⊢
      rw [hMm, Nat.sub_self] at hfil
      rw [show ∀ k, fil q lo (M + 2) 0 k x y = [] from fun _ => rfl, List.append_nil] at hfil
      rw [hfil]
      exact Round.no (by simp <;> omega) (Round.done (Evt.some _))
/- spec.FillWithin -/
theorem e13 {c : List Int} (hr : Rng c) (f m lo b : Int) : Evt (fun n => call T C n 13 (c, f, m, lo, b, ())) (fwR c f m lo b, ()) := by
  refine Evt.next (Evt.bind (e44 hr f m lo b) ?_) (fun n => r13 n c f m lo b)
  unfold fwR
  refine Evt.ite (fun h => ?_) (fun h => ?_)
  · rw [if_pos (by simpa using h)]; exact Evt.some _
  · have h : askP c f m lo b = 0 := by simpa using h
    rw [if_neg (by simp [h])]
    refine Evt.bind (e48 hr (goodS h)) ?_
    unfold fillR
    cases hc : cq c f m lo b with
    | false => exact Evt.yes rfl (Evt.some _)
    | true => exact Evt.no (by simp) (Evt.some _)
/- spec.l05Put -/
theorem e50 {c : List Int} (hr : Rng c) (h0 : 0 < c.length) (h1 : c.length ≤ 1000000) {f : Int} (f0 : 0 ≤ f) (f1 : f ≤ 1000000) (l : List Int) (hl : (l.length : Int) ≤ 1000000) : Evt (fun n => call T C n 50 (c, f, l, ())) ((putP c f l, ()), ()) := by
  refine Evt.next (Evt.chk (decide_eq_true (by have := hr.len; simp; omega)) ?_) (fun n => r50 n c f l)
  refine for_evt' 0 (l.length : Int) (fun i (_ : Unit) => (c, f, l, putP c f (l.take i.toNat), i, ())) (fun _ _ => True) (b0 := ()) (by simp [putP]) (by omega) trivial ?_ ?_
  · intro i _ i0 i1 _
    obtain ⟨v, hv⟩ := at_of (l := l) i0 i1
    have e0 := Int.emod_nonneg (f + i) (show (c.length : Int) ≠ 0 by omega)
    have e1 := Int.emod_lt_of_pos (f + i) (show 0 < (c.length : Int) by omega)
    have hm : Int.tmod (wr .i64 (f + i)) (c.length : Int) = (f + i) % c.length := by rw [wrap_id (by omega) (by omega)]; exact Int.tmod_eq_emod_of_nonneg (by omega)
    have hlen := putP_len (l.take i.toNat) c f
    dsimp only
    rw [hm, hlen, wrap_id (x := i + 1) (by omega) (by omega)]
    obtain ⟨u, hu⟩ := get_of_lt (b := putP c f (l.take i.toNat)) e0 (by rw [hlen]; exact e1)
    refine Round.yes (decide_eq_true i1) (Round.chk (bne_pos (by omega)) (Round.at hv.idx (Round.chk (decide_eq_true ⟨e0, e1⟩) (Round.at hu (Round.again _ ⟨(), ?_, trivial⟩)))))
    rw [hv.take, putP_snoc]
    have : ((l.take i.toNat).length : Int) = i := by rw [List.length_take]; omega
    rw [this]
  · intro _ _
    dsimp only
    rw [take_all]
    exact Round.no (by simp) (Round.done (Evt.some _))
/- spec.RepairCam -/
theorem e22 {c : List Int} (hr : Rng c) (b lo : Int) : Evt (fun n => call T C n 22 (c, b, lo, ())) (rpR c b lo, ()) := by
  have hl := hr.len'
  refine Evt.next (Evt.bind (e52 c (by omega)) ?_) (fun n => r22 n c b lo)
  unfold rpR
  cases hc : okC c with
  | false => exact Evt.yes rfl (Evt.some _)
  | true =>
  have hlen := okC_len hc
  refine Evt.no (by simp) (Evt.bind (e53 b) ?_)
  cases h2 : inR b 0 40000 with
  | false => exact Evt.yes rfl (Evt.some _)
  | true =>
  refine Evt.no (by simp) (Evt.bind (e54 lo) ?_)
  cases h3 : inR lo 0 9937 with
  | false => exact Evt.yes rfl (Evt.some _)
  | true =>
  have g2 := inR_iff.1 h2
  have g3 := inR_iff.1 h3
  refine Evt.no (by simp) (Evt.chk (decide_eq_true (by simp; omega)) ?_)
  refine for_evt' 0 (c.length : Int) (fun i (_ : Unit) => (b, lo, (c.length : Int), (rp b lo c i.toNat).1, (rp b lo c i.toNat).2, i, ())) (fun _ _ => True) (b0 := ()) (by simp [rp]) (by omega) trivial ?_ ?_
  · intro i _ i0 i1 _
    obtain ⟨k, rfl⟩ : ∃ k : Nat, i = k := ⟨i.toNat, by omega⟩
    have G := rp_good hr hc (b := b) (lo := lo) g3.1 g3.2 k
    have hs : rp b lo c ((k : Int) + 1).toNat = rpS b lo (rp b lo c k) k := by rw [show ((k : Int) + 1).toNat = k + 1 by omega]; rfl
    rw [Int.toNat_natCast, hs]
    obtain ⟨s, hss⟩ : ∃ s, s = rp b lo c k := ⟨_, rfl⟩
    rw [← hss] at G ⊢
    have gl := G.len
    have gm := G.many
    have b1 := G.rng.el _ (cAt_mem (by omega) ((k : Int) + 1))
    have b2 := G.rng.el _ (cAt_mem (by omega) (k : Int))
    have b3 := G.rng.el _ (cAt_mem (by omega) ((k : Int) - 1))
    dsimp only
    rw [wrap_id (x := (k : Int) + 1) (by omega) (by omega), wrap_id (x := (k : Int) - 1) (by omega) (by omega)]
    refine Round.yes (decide_eq_true i1) (Round.bind (e56' G.rng (by omega) (by omega) (by omega) (by omega)) (Round.bind (e56' G.rng (by omega) (by omega) (by omega) (by omega)) (Round.bind (e56' G.rng (by omega) (by omega) (by omega) (by omega)) ?_)))
    dsimp only
    rw [wrap_id (x := 2 * cAt s.1 (k : Int)) (by omega) (by omega), wrap_id (x := cAt s.1 ((k : Int) + 1) - 2 * cAt s.1 (k : Int)) (by omega) (by omega), wrap_id (x := cAt s.1 ((k : Int) + 1) - 2 * cAt s.1 (k : Int) + cAt s.1 ((k : Int) - 1)) (by omega) (by omega)]
    refine Round.bind (e55 (a := cAt s.1 ((k : Int) + 1) - 2 * cAt s.1 (k : Int) + cAt s.1 ((k : Int) - 1)) (by omega) (by omega)) ?_
    unfold rpS
    rw [show cAt s.1 ((k : Int) + 1) - 2 * cAt s.1 (k : Int) + cAt s.1 ((k : Int) - 1) = bendP s.1 k from rfl]
    refine Round.ite (fun h => ?_) (fun h => ?_)
    · rw [if_pos (of_decide_eq_true h)]
      exact Round.again _ ⟨(), rfl, trivial⟩
    have h : ¬ siz (bendP s.1 k) ≤ b := by simpa using h
    rw [if_neg h]
    have hn : ((c.length : Int)) = (s.1.length : Int) := by omega
    have hfrom : Int.tmod (wr .i64 (wr .i64 ((k : Int) + (c.length : Int)) - 1)) (c.length : Int) = ((k : Int) - 1) % (s.1.length : Int) := by
      rw [wrap_id (x := (k : Int) + (c.length : Int)) (by omega) (by omega), wrap_id (by omega) (by omega), hn, Int.tmod_eq_emod_of_nonneg (by omega), show (k : Int) + (s.1.length : Int) - 1 = (k : Int) - 1 + s.1.length by omega, Int.add_emod_right]
    have f0 := Int.emod_nonneg ((k : Int) - 1) (show (s.1.length : Int) ≠ 0 by omega)
    have f1 := Int.emod_lt_of_pos ((k : Int) - 1) (show 0 < (s.1.length : Int) by omega)
    rw [hfrom]
    refine Round.chk (bne_pos (by omega)) (Round.bind (e13 G.rng _ 3 lo b) ?_)
    have hF : ((fwR s.1 (((k : Int) - 1) % s.1.length) 3 lo b).2.1 == (0 : Int)) = true ↔ askP s.1 (((k : Int) - 1) % s.1.length) 3 lo b = 0 ∧ cq s.1 (((k : Int) - 1) % s.1.length) 3 lo b = true := fwR_zero _ _ _ _ _
    refine Round.ite (fun h => ?_) (fun h => ?_)
    · have h := hF.1 h
      have hfw : (fwR s.1 (((k : Int) - 1) % s.1.length) 3 lo b).1 = filP s.1 (((k : Int) - 1) % s.1.length) 3 lo b := by unfold fwR; rw [if_neg (by simp [h.1]), if_pos h.2]
      rw [if_pos h]
      refine Round.bind (e50 G.rng (by omega) (by omega) f0 (by omega) (fwR s.1 (((k : Int) - 1) % s.1.length) 3 lo b).1 (by have := fwR_len s.1 (((k : Int) - 1) % s.1.length) 3 lo b; omega)) (Round.chk (decide_eq_true (by simp; omega)) (Round.again _ ⟨(), ?_, trivial⟩))
      rw [hfw]
    · rw [if_neg fun hh => h (hF.2 hh)]
      exact Round.again _ ⟨(), rfl, trivial⟩
  · intro _ _
    dsimp only
    rw [Int.toNat_natCast]
    exact Round.no (by simp) (Round.done (Evt.some _))
/- (impl.Cam).steps -/
theorem e62 (a : List Int) : Evt (fun n => call T C n 62 (a, ())) (((a.length : Int), ()), ()) := Evt.next (Evt.some _) (fun n => r62 n a)
/- impl.inRange -/
theorem e60 (a b c : Int) : Evt (fun n => call T C n 60 (a, b, c, ())) ((inR a b c, ()), ()) := by
  refine Evt.next ?_ (fun n => r60 n a b c)
  refine Evt.ite (fun h => ?_) (fun h => ?_)
  · refine (Evt.some _).of_eq fun n => ?_
    have h : b ≤ a := of_decide_eq_true h
    simp [inR, h]
    rfl
  · refine (Evt.some _).of_eq fun n => ?_
    have h : ¬ b ≤ a := by simpa using h
    simp [inR, h]
    rfl
/- impl.isSteps -/
theorem e97 (a : Int) : Evt (fun n => call T C n 97 (a, ())) ((inR a 8 360, ()), ()) := Evt.next (Evt.bind (e60 a 8 360) (Evt.some _)) (fun n => r97 n a)
/- impl.isLift -/
theorem e100 (a : Int) : Evt (fun n => call T C n 100 (a, ())) ((inR a 0 10000, ()), ()) := Evt.next (Evt.bind (e60 a 0 10000) (Evt.some _)) (fun n => r100 n a)
/- impl.ValidCam$1 -/
theorem e99 (v : Int) : Evt (fun n => call T C n 99 (v, ())) ((!okV v, ()), ()) := Evt.next (Evt.bind (e100 _) (Evt.some _)) (fun n => r99 n v)
/- slices.IndexFunc[impl.Cam,int16]{impl.ValidCam$1} -/
theorem e120 (l : List Int) (hl : (l.length : Int) ≤ 140737488351232) : Evt (fun n => call T C n 120 (l, ((), ()), ())) ((fi (fun v => !okV v) l 0, ()), ()) := by
  refine Evt.next ?_ (fun n => r120 n l ((), ()))
  refine loop_evt (fun (x : List Int × (Unit × Unit) × Int × Int × Unit) => x.1 = l ∧ x.2.2.1 = (l.length : Int) ∧ 0 ≤ x.2.2.2.1 ∧ x.2.2.2.1 ≤ (l.length : Int) ∧ fi (fun v => !okV v) l 0 = fi (fun v => !okV v) (l.drop x.2.2.2.1.toNat) x.2.2.2.1) (fun (x : List Int × (Unit × Unit) × Int × Int × Unit) => ((l.length : Int) - x.2.2.2.1).toNat) (x := (l, ((), ()), (l.length : Int), 0, ())) ⟨rfl, rfl, Int.le_refl _, by simp, by simp⟩ ?_
  rintro ⟨x1, u, m, i, _⟩ ⟨h', hm, h0, h1, h2⟩
  simp only at h' hm h0 h1 h2
  subst h'; subst hm
  refine Round.ite (fun hlt => ?_) (fun hge => ?_)
  · have hlt : i < (x1.length : Int) := of_decide_eq_true hlt
    obtain ⟨v, hv, hv'⟩ := idx_at h0 hlt
    have hd := drop_cons hv'
    refine Round.at hv (Round.bind (e99 _) (Round.ite (fun hb => ?_) (fun hb => ?_)))
    · have hb : okV v = false := by simpa using hb
      have h3 : fi (fun v => !okV v) x1 0 = i := by rw [h2, hd]; simp [fi, hb]
      rw [h3]
      exact Round.done (Evt.some _)
    · have hb : okV v = true := by simpa using hb
      have hw : wr .i64 (i + 1) = i + 1 := wrap_id (by omega) (by omega)
      refine Round.again _ ⟨⟨rfl, rfl, ?_, ?_, ?_⟩, ?_⟩ <;> simp only [hw]
      · omega
      · omega
      · rw [h2, hd, show (i + 1).toNat = i.toNat + 1 by omega]
        simp [fi, hb]
      · omega
  · have hge : ¬ i < (x1.length : Int) := by simpa using hge
    have : x1.drop i.toNat = [] := List.drop_of_length_le (by omega)
    rw [h2, this]
    exact Round.done (Evt.some _)
/- slices.ContainsFunc[impl.Cam,int16]{impl.ValidCam$1} -/
theorem e98 (l : List Int) (hl : (l.length : Int) ≤ 140737488351232) : Evt (fun n => call T C n 98 (l, ((), ()), ())) ((l.any (fun v => !okV v), ()), ()) := by
  refine Evt.next (Evt.bind (e120 l hl) ((Evt.some _).of_eq fun n => ?_)) (fun n => r98 n l ((), ()))
  simp only [fi_any _ l 0 (Int.le_refl _)]
  rfl
/- impl.ValidCam -/
theorem e59 (l : List Int) (hl : (l.length : Int) ≤ 140737488351232) : Evt (fun n => call T C n 59 (l, ())) ((okC l, ()), ()) := by
  refine Evt.next (Evt.bind (e62 l) (Evt.bind (e97 _) ?_)) (fun n => r59 n l)
  refine Evt.ite (fun h => ?_) (fun h => ?_)
  · refine Evt.bind (e98 l hl) ((Evt.some _).of_eq fun n => ?_)
    have h : inR (l.length : Int) 8 360 = true := h
    have : okC l = !l.any (fun v => !okV v) := by simp [okC, h, List.any_eq_not_all_not]
    rw [this]
    rfl
  · refine (Evt.some _).of_eq fun n => ?_
    have h : inR (l.length : Int) 8 360 = false := by simpa using h
    simp [okC, h]
    rfl
/- impl.codeIf -/
theorem e58 (c : Bool) (v : Int) : Evt (fun n => call T C n 58 (c, v, ())) (((if c = true then v else 0), ()), ()) := by
  refine Evt.next ?_ (fun n => r58 n c v)
  cases c with
  | true => exact Evt.yes rfl (Evt.some _)
  | false => exact Evt.no (by simp) (Evt.some _)
/- impl.firstCode -/
theorem e57 (l : List Int) (hl : (l.length : Int) ≤ 140737488351232) : Evt (fun n => call T C n 57 (l, ())) ((fst0 l, ()), ()) := by
  refine Evt.next ?_ (fun n => r57 n l)
  refine loop_evt (fun (x : List Int × Int × Int × Unit) => x.1 = l ∧ x.2.1 = (l.length : Int) ∧ 0 ≤ x.2.2.1 ∧ x.2.2.1 ≤ (l.length : Int) ∧ fst0 l = fst0 (l.drop x.2.2.1.toNat)) (fun (x : List Int × Int × Int × Unit) => ((l.length : Int) - x.2.2.1).toNat) (x := (l, (l.length : Int), 0, ())) ⟨rfl, rfl, Int.le_refl _, by simp, by simp⟩ ?_
  rintro ⟨x1, m, i, _⟩ ⟨h', hm, h0, h1, h2⟩
  simp only at h' hm h0 h1 h2
  subst h'; subst hm
  refine Round.ite (fun hlt => ?_) (fun hge => ?_)
  · have hlt : i < (x1.length : Int) := of_decide_eq_true hlt
    obtain ⟨v, hv, hv'⟩ := idx_at h0 hlt
    have hd := drop_cons hv'
    refine Round.at hv (Round.ite (fun hb => ?_) (fun hb => ?_))
    · have hb : v ≠ 0 := by simpa using hb
      have h3 : fst0 x1 = v := by rw [h2, hd]; simp [fst0, hb]
      rw [h3]
      exact Round.done (Evt.some _)
    · have hb : v = 0 := by simpa using hb
      have hw : wr .i64 (i + 1) = i + 1 := wrap_id (by omega) (by omega)
      refine Round.again _ ⟨⟨rfl, rfl, ?_, ?_, ?_⟩, ?_⟩ <;> simp only [hw]
      · omega
      · omega
      · rw [h2, hd, show (i + 1).toNat = i.toNat + 1 by omega]
        simp [fst0, hb]
      · omega
  · have hge : ¬ i < (x1.length : Int) := by simpa using hge
    have : x1.drop i.toNat = [] := List.drop_of_length_le (by omega)
    rw [h2, this]
    exact Round.done (Evt.some _)
/- slices.Clone[impl.Cam,int16] -/
theorem e61 (l : List Int) (h0 : l.length ≠ 0) (hl : (l.length : Int) ≤ 1000000) : Evt (fun n => call T C n 61 (l, ())) ((l, ()), ()) :=
  Evt.next (Evt.yes (decide_eq_true h0) (Evt.chk (by simp; omega) (Evt.some _))) (fun n => r61 n l)
/- impl.floorDiv -/
theorem e102 {a b : Int} (hb : 0 < b) (h1 : -4500000000000000000 ≤ a) (h2 : a ≤ 4500000000000000000) : Evt (fun n => call T C n 102 (a, b, ())) ((a / b, ()), ()) := by
  have hbd := ediv_bd hb h1 h2 (by omega)
  have he := floorDiv_eq (a := a) hb
  refine Evt.next (Evt.chk (bne_pos hb) (Evt.chk (bne_pos hb) (Evt.ite (fun h => ?_) (fun h => ?_)))) (fun n => r102 n a b)
  · have h : Int.tmod a b < 0 := of_decide_eq_true h
    rw [if_pos h] at he
    refine (Evt.some _).of_eq fun n => ?_
    rw [wrap_id (x := Int.tdiv a b) (by omega) (by omega), wrap_id (by omega) (by omega), he]
    rfl
  · have h : ¬ Int.tmod a b < 0 := by simpa using h
    rw [if_neg h] at he
    refine (Evt.some _).of_eq fun n => ?_
    rw [wrap_id (x := Int.tdiv a b) (by omega) (by omega), he]
    rfl
/- impl.mod -/
theorem e65 {a b : Int} (hb : 0 < b) (hb' : b ≤ 1000000000000) (h1 : -1000000000000 ≤ a) (h2 : a ≤ 1000000000000) : Evt (fun n => call T C n 65 (a, b, ())) ((a % b, ()), ()) := by
  have hd := Int.emod_def a b
  have h3 := Int.emod_nonneg a (show b ≠ 0 by omega)
  have h4 := Int.emod_lt_of_pos a hb
  refine Evt.next (Evt.bind (e102 hb (by omega) (by omega)) ((Evt.some _).of_eq fun n => ?_)) (fun n => r65 n a b)
  simp only
  rw [wrap_id (x := b * (a / b)) (by omega) (by omega), ← hd, wrap_id (by omega) (by omega)]
  rfl
/- (impl.Cam).at -/
theorem e118 {l : List Int} (hr : Rng l) (h0 : 0 < (l.length : Int)) (h1 : (l.length : Int) ≤ 1000000) {x : Int} (hx : -4000000 ≤ x) (hx' : x ≤ 4000000) : Evt (fun n => call T C n 118 (l, x, ())) ((cAt l x, ()), ()) := by
  have hp := Int.emod_nonneg x (show (l.length : Int) ≠ 0 by omega)
  have hq := Int.emod_lt_of_pos x h0
  have hv := g_idx (l := l) hp hq
  refine Evt.next (Evt.bind (e62 l) (Evt.bind (e65 (a := x) h0 (by omega) (by omega) (by omega)) (Evt.at hv.idx ((Evt.some _).of_eq fun n => ?_)))) (fun n => r118 n l x)
  rw [hr.id hv.mem]
  rfl
/- (impl.Cam).change -/
theorem e101 {c : List Int} (hr : Rng c) (h0 : 0 < c.length) (h1 : c.length ≤ 1000) {x : Int} (x0 : -1000000 ≤ x) (x1 : x ≤ 1000000) : Evt (fun n => call T C n 101 (c, x, ())) ((cAt c (x + 1) - cAt c x, ()), ()) := by
  have b1 := hr.el _ (cAt_mem h0 (x + 1))
  have b2 := hr.el _ (cAt_mem h0 x)
  refine Evt.next ?_ (fun n => r101 n c x)
  rw [wrap_id (x := x + 1) (by omega) (by omega)]
  refine Evt.bind (e118 hr (by omega) (by omega) (by omega) (by omega)) (Evt.bind (e118 hr (by omega) (by omega) (by omega) (by omega)) ((Evt.some _).of_eq fun n => ?_))
  show some ((wr .i64 (cAt c (x + 1) - cAt c x), ()), ()) = _
  rw [wrap_id (x := cAt c (x + 1) - cAt c x) (by omega) (by omega)]
  rfl
/- (impl.Cam).bend -/
theorem e64 {c : List Int} (hr : Rng c) (h0 : 0 < c.length) (h1 : c.length ≤ 1000) {x : Int} (x0 : -100000 ≤ x) (x1 : x ≤ 100000) : Evt (fun n => call T C n 64 (c, x, ())) ((bendP c x, ()), ()) := by
  have b1 := hr.el _ (cAt_mem h0 (x + 1))
  have b2 := hr.el _ (cAt_mem h0 x)
  have b3 := hr.el _ (cAt_mem h0 (x - 1))
  refine Evt.next ?_ (fun n => r64 n c x)
  rw [wrap_id (x := x - 1) (by omega) (by omega)]
  refine Evt.bind (e101 hr h0 h1 (by omega) (by omega)) (Evt.bind (e101 hr h0 h1 (by omega) (by omega)) ((Evt.some _).of_eq fun n => ?_))
  show some ((wr .i64 (cAt c (x + 1) - cAt c x - (cAt c (x - 1 + 1) - cAt c (x - 1))), ()), ()) = _
  rw [show x - 1 + 1 = x by omega, wrap_id (by omega) (by omega), show cAt c (x + 1) - cAt c x - (cAt c x - cAt c (x - 1)) = bendP c x by unfold bendP; omega]
  rfl
/- impl.abs -/
theorem e63 {a : Int} (h1 : -1000000000000 ≤ a) (h2 : a ≤ 1000000000000) : Evt (fun n => call T C n 63 (a, ())) ((siz a, ()), ()) := by
  refine Evt.next ((Evt.some _).of_eq fun n => ?_) (fun n => r63 n a)
  rw [wrap_id (x := 0 - a) (by omega) (by omega)]
  unfold siz
  have : (if 0 - a > a then 0 - a else a) = if a < 0 then -a else a := by split <;> split <;> omega
  rw [this]
  rfl
/- impl.isPlace -/
theorem e88 (a b : Int) : Evt (fun n => call T C n 88 (a, b, ())) ((inR a 0 (wr .i64 (b - 1)), ()), ()) := Evt.next (Evt.bind (e60 _ _ _) (Evt.some _)) (fun n => r88 n a b)
/- (impl.stretch).height -/
theorem e89 {c : List Int} (hr : Rng c) (h0 : 0 < (c.length : Int)) (h1 : (c.length : Int) ≤ 1000000) (f m lo : Int) (l0 : 0 ≤ lo) (l1 : lo ≤ 9937) {s : Int} (s0 : -4000000 ≤ s) (s1 : s ≤ 4000000) : Evt (fun n => call T C n 89 ((c, (f, (m, (lo, ())))), s, ())) ((hgt c lo s, ()), ()) := by
  have b1 := hr.el _ (cAt_mem (by omega) s)
  refine Evt.next (Evt.bind (e118 hr h0 h1 s0 s1) ((Evt.some _).of_eq fun n => ?_)) (fun n => r89 n _ s)
  show some ((wr .i64 (cAt c s - lo), ()), ()) = _
  rw [wrap_id (x := cAt c s - lo) (by omega) (by omega)]
  rfl
/- (impl.stretch).code -/
theorem e46 {c : List Int} (hr : Rng c) (f m lo b : Int) : Evt (fun n => call T C n 46 ((c, (f, (m, (lo, ())))), b, ())) ((askP c f m lo b, ()), ()) := by
  have hl := hr.len'
  refine Evt.next (Evt.bind (e62 c) (Evt.bind (e59 c (by omega)) (Evt.bind (e58 _ _) (Evt.bind (e88 _ _) ?_)))) (fun n => r46 n _ b)
  unfold askP
  have bad : ∀ (v : Int) (X : Nat → Option ((Int × Unit) × Unit)), Evt (fun n => (call T C n 57 (([(if (!okC c) = true then (1 : Int) else 0), v] : List Int), ())).bind fun r => if (r.1.1 != (0 : Int)) = true then some ((r.1.1, ()), ()) else X n) ((fst0 [(if (!okC c) = true then (1 : Int) else 0), v], ()), ()) ∨ fst0 [(if (!okC c) = true then (1 : Int) else 0), v] = 0 := by
    intro v X
    by_cases h : fst0 [(if (!okC c) = true then (1 : Int) else 0), v] = 0
    · exact .inr h
    · exact .inl (Evt.bind (e57 _ (by simp)) (Evt.yes (by simpa using h) (Evt.some _)))
  cases hc : okC c with
  | false =>
    have h1 : ∀ v : Int, fst0 [(if (!false) = true then (1 : Int) else 0), v] = 1 := fun v => rfl
    have bad1 : ∀ (v : Int) (X : Nat → Option ((Int × Unit) × Unit)), Evt (fun n => (call T C n 57 (([(if (!false) = true then (1 : Int) else 0), v] : List Int), ())).bind fun r => if (r.1.1 != (0 : Int)) = true then some ((r.1.1, ()), ()) else X n) ((1, ()), ()) := fun v X => Evt.bind (e57 _ (by simp)) (Evt.yes rfl (Evt.some _))
    refine Evt.ite (fun _ => Evt.bind (e58 _ _) (bad1 _ _)) (fun _ => Evt.bind (e60 _ _ _) (Evt.ite (fun _ => Evt.bind (e58 _ _) (bad1 _ _)) (fun _ => Evt.bind (e60 _ _ _) (Evt.ite (fun _ => Evt.bind (e58 _ _) (bad1 _ _)) (fun _ => Evt.bind (e60 _ _ _) (Evt.bind (e58 _ _) (bad1 _ _)))))))
  | true =>
  have hlen := okC_len hc
  have bad2 : ∀ (X : Nat → Option ((Int × Unit) × Unit)), Evt (fun n => (call T C n 57 (([(if (!true) = true then (1 : Int) else 0), (if true = true then (2 : Int) else 0)] : List Int), ())).bind fun r => if (r.1.1 != (0 : Int)) = true then some ((r.1.1, ()), ()) else X n) ((2, ()), ()) := fun X => Evt.bind (e57 _ (by simp)) (Evt.yes rfl (Evt.some _))
  have hmin : (if wr .i64 ((c.length : Int) - 4) < (40 : Int) then wr .i64 ((c.length : Int) - 4) else (40 : Int)) = min 40 ((c.length : Int) - 4) := by
    rw [wrap_id (x := (c.length : Int) - 4) (by omega) (by omega)]; split <;> omega
  rw [wrap_id (x := (c.length : Int) - 1) (by omega) (by omega)]
  rw [hmin]
  cases h1 : inR f 0 ((c.length : Int) - 1) with
  | false => exact Evt.yes rfl (Evt.bind (e58 _ _) (bad2 _))
  | true =>
  refine Evt.no (by simp) (Evt.bind (e60 _ _ _) ?_)
  cases h2 : inR m 1 (min 40 ((c.length : Int) - 4)) with
  | false => exact Evt.yes rfl (Evt.bind (e58 _ _) (bad2 _))
  | true =>
  refine Evt.no (by simp) (Evt.bind (e60 _ _ _) ?_)
  cases h3 : inR lo 0 9937 with
  | false => exact Evt.yes rfl (Evt.bind (e58 _ _) (bad2 _))
  | true =>
  refine Evt.no (by simp) (Evt.bind (e60 _ _ _) (Evt.bind (e58 _ _) ?_))
  cases h4 : inR b 0 40000 with
  | false => exact bad2 _
  | true =>
  refine Evt.bind (e57 _ (by simp)) (Evt.no (by decide) ?_)
  have g1 := inR_iff.1 h1
  have g2 := inR_iff.1 h2
  have g3 := inR_iff.1 h3
  rw [wrap_id (x := f - 2) (by omega) (by omega), wrap_id (x := f - 1) (by omega) (by omega), wrap_id (x := f + m) (by omega) (by omega), wrap_id (x := f + m + 1) (by omega) (by omega)]
  refine Evt.at (x := 0) rfl (Evt.at (x := 0) rfl (Evt.at (x := 0) rfl (Evt.at (x := 0) rfl ?_)))
  refine for_evt' 0 4 (fun i (_ : Unit) => ((c, (f, (m, (lo, ())))), [f - 2, f - 1, f + m, f + m + 1], i, ())) (fun i _ => (0 < i → inR (hgt c lo (f - 2)) 0 63 = true) ∧ (1 < i → inR (hgt c lo (f - 1)) 0 63 = true) ∧ (2 < i → inR (hgt c lo (f + m)) 0 63 = true) ∧ (3 < i → inR (hgt c lo (f + m + 1)) 0 63 = true)) (b0 := ()) rfl (by omega) ⟨by omega, by omega, by omega, by omega⟩ ?_ ?_
  · intro i _ i0 i1 hp
    obtain ⟨s, s0, s1, hs, hbad, hgood⟩ : ∃ s : Int, -4000000 ≤ s ∧ s ≤ 4000000 ∧ idx [f - 2, f - 1, f + m, f + m + 1] i = some s ∧ (inR (hgt c lo s) 0 63 = false → (inR (hgt c lo (f - 2)) 0 63 && inR (hgt c lo (f - 1)) 0 63 && inR (hgt c lo (f + m)) 0 63 && inR (hgt c lo (f + m + 1)) 0 63) = false) ∧ (inR (hgt c lo s) 0 63 = true → (0 < i + 1 → inR (hgt c lo (f - 2)) 0 63 = true) ∧ (1 < i + 1 → inR (hgt c lo (f - 1)) 0 63 = true) ∧ (2 < i + 1 → inR (hgt c lo (f + m)) 0 63 = true) ∧ (3 < i + 1 → inR (hgt c lo (f + m + 1)) 0 63 = true)) := by
      rcases (show i = 0 ∨ i = 1 ∨ i = 2 ∨ i = 3 by omega) with e | e | e | e <;> subst e
      · exact ⟨f - 2, by omega, by omega, rfl, fun h => by rw [h]; rfl, fun h => ⟨fun _ => h, by omega, by omega, by omega⟩⟩
      · exact ⟨f - 1, by omega, by omega, rfl, fun h => by rw [h]; simp, fun h => ⟨fun _ => hp.1 (by omega), fun _ => h, by omega, by omega⟩⟩
      · exact ⟨f + m, by omega, by omega, rfl, fun h => by rw [h]; simp, fun h => ⟨fun _ => hp.1 (by omega), fun _ => hp.2.1 (by omega), fun _ => h, by omega⟩⟩
      · exact ⟨f + m + 1, by omega, by omega, rfl, fun h => by rw [h]; simp, fun h => ⟨fun _ => hp.1 (by omega), fun _ => hp.2.1 (by omega), fun _ => hp.2.2.1 (by omega), fun _ => h⟩⟩
    refine Round.yes (decide_eq_true i1) (Round.at hs (Round.bind (e89 hr (by omega) (by omega) f m lo (by omega) (by omega) s0 s1) (Round.bind (e60 _ _ _) (Round.ite (fun h => ?_) (fun h => ?_)))))
    · have h : inR (hgt c lo s) 0 63 = false := by simpa using h
      rw [hbad h]
      exact Round.done (Evt.some _)
    · have h : inR (hgt c lo s) 0 63 = true := by simpa using h
      refine Round.again _ ⟨(), ?_, hgood h⟩
      rw [wrap_id (x := i + 1) (by omega) (by omega)]
  · intro _ hp
    rw [hp.1 (by omega), hp.2.1 (by omega), hp.2.2.1 (by omega), hp.2.2.2 (by omega)]
    exact Round.no (by simp) (Round.done (Evt.some _))
/- impl.span -/
theorem e119 {A B : Int} (a0 : -1000000 ≤ A) (a1 : A ≤ 1000000) (b0 : -1000000 ≤ B) (b1 : B ≤ 1000000) : Evt (fun n => call T C n 119 (A, B, ())) ((row fun z => decide (A ≤ z ∧ (z : Int) ≤ B), ()), ()) := by
  obtain ⟨A', hA'⟩ : ∃ A' : Int, A' = if (0 : Int) > A then 0 else A := ⟨_, rfl⟩
  obtain ⟨B', hB'⟩ : ∃ B' : Int, B' = if (63 : Int) < B then 63 else B := ⟨_, rfl⟩
  have ha : 0 ≤ A' ∧ A' ≤ 1000000 ∧ A ≤ A' ∧ (A' = A ∨ A' = 0) := by rw [hA']; split <;> omega
  have hb : B' ≤ 63 ∧ -1000000 ≤ B' ∧ B' ≤ B ∧ (B' = B ∨ B' = 63) := by rw [hB']; split <;> omega
  refine Evt.next ?_ (fun n => r119 n A B)
  rw [← hA', ← hB']
  have he : (row fun z => decide (A ≤ z ∧ (z : Int) ≤ B)) = row fun z => decide (A' ≤ z ∧ (z : Int) ≤ B') := row_congr fun z hz => by rw [Bool.eq_iff_iff, decide_eq_true_eq, decide_eq_true_eq]; omega
  rw [he]
  refine Evt.ite (fun h => ?_) (fun h => ?_)
  · have h : A' > B' := of_decide_eq_true h
    rw [row_none fun z hz => decide_eq_false (by omega)]
    exact Evt.some _
  · have h : ¬ A' > B' := by simpa using h
    refine Evt.chk (decide_eq_true ?_) (Evt.chk (decide_eq_true (by omega)) ((Evt.some _).of_eq fun n => ?_))
    · rw [wrap_id (x := 63 - B') (by omega) (by omega), wrap_id (by omega) (by omega)]; omega
    · rw [span_val (by omega) (by omega) h]
      rfl
/- impl.leads -/
theorem e94 {b : Int} (b0 : 0 ≤ b) (b1 : b ≤ 40000) {x y : Nat} (hx : x < 64) (hy : y < 64) : Evt (fun n => call T C n 94 ((x : Int), (y : Int), b, ())) ((row (sp b x y), ()), ()) := by
  refine Evt.next ?_ (fun n => r94 n x y b)
  rw [wrap_id (x := 2 * (y : Int)) (by omega) (by omega), wrap_id (x := 2 * (y : Int) - x) (by omega) (by omega), wrap_id (x := 2 * (y : Int) - x - b) (by omega) (by omega), wrap_id (x := 2 * (y : Int) - x + b) (by omega) (by omega)]
  exact Evt.bind (e119 (by omega) (by omega) (by omega) (by omega)) (Evt.some _)
/- (impl.stretch).allowed -/
theorem e76 {c : List Int} (hr : Rng c) {f m lo b : Int} (G : GoodS c f m lo b) {k : Nat} (hk : (k : Int) ≤ m + 1) : Evt (fun n => call T C n 76 ((c, (f, (m, (lo, ())))), (k : Int), ())) ((row (al c f m lo k), ()), ()) := by
  have hl := G.len; have hf := G.hf; have hlo := G.hlo; have hm := G.hm
  refine Evt.next ?_ (fun n => r76 n _ k)
  refine Evt.ite (fun h => ?_) (fun h => ?_)
  · have h : (k : Int) < m := of_decide_eq_true h
    have : row (al c f m lo k) = 18446744073709551615 := by
      rw [row_ones]; exact row_congr fun z hz => by unfold al; simp [h]
    rw [this]; exact Evt.some _
  · have h : ¬ (k : Int) < m := by simpa using h
    have hw := G.fix (k := k) h hk
    rw [wrap_id (x := f + (k : Int)) (by omega) (by omega)]
    refine Evt.bind (e89 hr (by omega) (by omega) f m lo (by omega) (by omega) (by omega) (by omega)) (Evt.chk (decide_eq_true hw.1) ((Evt.some _).of_eq fun n => ?_))
    obtain ⟨w, hw'⟩ : ∃ w : Nat, hgt c lo (f + k) = w := ⟨(hgt c lo (f + k)).toNat, by omega⟩
    have hw64 : w < 64 := by omega
    show some ((shl_ .u64 (1 : Int) (hgt c lo (f + k)), ()), ()) = _
    rw [hw', row_one hw64]
    have : row (fun z => z == w) = row (al c f m lo k) := row_congr fun z hz => by
      unfold al
      rw [hw', show decide ((k : Int) < m) = false from decide_eq_false h, Bool.eq_iff_iff]
      simp only [beq_iff_eq, Bool.false_or, decide_eq_true_eq]
      omega
    rw [this]
    rfl
/- (impl.stretch).behind -/
theorem e92 {c : List Int} (hr : Rng c) {f m lo b : Int} (G : GoodS c f m lo b) : Evt (fun n => call T C n 92 ((c, (f, (m, (lo, ())))), b, ())) ((tb (m.toNat + 3) (fun j => gR (can (qq c f m lo b) (m.toNat + 2 - j) j)), ()), ()) := by
  have hm := G.hm; have hb := G.hb
  obtain ⟨M, hM⟩ : ∃ M : Nat, (M : Int) = m := ⟨m.toNat, by omega⟩
  have hMm : m.toNat = M := by omega
  rw [hMm]
  obtain ⟨q, hq⟩ : ∃ q, q = qq c f m lo b := ⟨_, rfl⟩
  obtain ⟨tt, htt⟩ : ∃ tt : Nat → Nat → Nat → Bool, tt = fun j => can q (M + 2 - j) j := ⟨_, rfl⟩
  rw [← hq]
  have w1 : wr .i64 (m + 2) = ((M + 2 : Nat) : Int) := by rw [wrap_id (by omega) (by omega)]; omega
  have w2 : wr .i64 (((M + 2 : Nat) : Int) + 1) = ((M + 3 : Nat) : Int) := by rw [wrap_id (by omega) (by omega)]; omega
  have w3 : wr .i64 (((M + 2 : Nat) : Int) - 1) = ((M + 2 : Nat) : Int) - 1 := wrap_id (by omega) (by omega)
  refine Evt.next ?_ (fun n => r92 n _ b)
  dsimp only
  rw [w1, w2]
  refine Evt.chk (decide_eq_true ⟨rfl, by omega, by omega⟩) ?_
  have lastG : gR (tt (M + 2)) = gR fun _ _ => true := gR_ext fun x y _ _ => by rw [htt]; show can q (M + 2 - (M + 2)) (M + 2) x y = true; rw [Nat.sub_self]; rfl
  -- the grids behind, made from the last one on
  have main : Evt (fun n => loopK (fun (x7 : Int × ((List Int) × (Int × (Int × (Int × Unit)))) × (List (List Int)) × Int × Unit) again8 => 
    (if (decide (x7.2.2.2.1 ≥ (0 : Int))) = true then 
  loopK (fun (x11 : Int × ((List Int) × (Int × (Int × (Int × Unit)))) × (List (List Int)) × Int × Int × Unit) again12 => 
    (if (decide (x11.2.2.2.2.1 < (64 : Int))) = true then 
  loopK (fun (x15 : Int × ((List Int) × (Int × (Int × (Int × Unit)))) × (List (List Int)) × Int × Int × Int × Int × Unit) again16 => 
    (if (decide (x15.2.2.2.2.2.2.1 < (64 : Int))) = true then (
   call T C n 94 (x15.2.2.2.2.1, x15.2.2.2.2.2.2.1, x15.1, ())).bind fun r19 => (
   call T C n 76 (x15.2.1, x15.2.2.2.1, ())).bind fun r20 => chk (decide (0 ≤ (wr .i64 (x15.2.2.2.1 + (1 : Int))) ∧ (wr .i64 (x15.2.2.2.1 + (1 : Int))) < (x15.2.2.1.length : Int))) (chk (decide (0 ≤ x15.2.2.2.2.2.2.1 ∧ x15.2.2.2.2.2.2.1 < ((64 : Nat) : Int))) ((x15.2.2.1[(Int.toNat (wr .i64 (x15.2.2.2.1 + (1 : Int))))]?).bind fun v21 => (v21[(Int.toNat x15.2.2.2.2.2.2.1)]?).bind fun v22 => 
    (if ((bitsI .and .u64 (bitsI .and .u64 r19.1.1 r20.1.1) v22) != (0 : Int)) = true then chk (decide (0 ≤ x15.2.2.2.1 ∧ x15.2.2.2.1 < (x15.2.2.1.length : Int))) (chk (decide (0 ≤ x15.2.2.2.2.1 ∧ x15.2.2.2.2.1 < ((64 : Nat) : Int))) ((x15.2.2.1[(Int.toNat x15.2.2.2.1)]?).bind fun v23 => (v23[(Int.toNat x15.2.2.2.2.1)]?).bind fun v24 => chk (decide (0 ≤ x15.2.2.2.2.2.2.1)) (chk (decide (0 ≤ x15.2.2.2.1 ∧ x15.2.2.2.1 < (x15.2.2.1.length : Int))) (chk (decide (0 ≤ x15.2.2.2.2.1 ∧ x15.2.2.2.2.1 < ((64 : Nat) : Int))) ((x15.2.2.1[(Int.toNat x15.2.2.2.1)]?).bind fun v25 => (v25[(Int.toNat x15.2.2.2.2.1)]?).bind fun v26 => again16 (x15.1, x15.2.1, (x15.2.2.1.set (Int.toNat x15.2.2.2.1) (v25.set (Int.toNat x15.2.2.2.2.1) (bitsI .or .u64 v24 (shl_ .u64 (1 : Int) x15.2.2.2.2.2.2.1)))), x15.2.2.2.1, x15.2.2.2.2.1, x15.2.2.2.2.2.1, (wr .i64 (x15.2.2.2.2.2.2.1 + (1 : Int))), ())))))) else again16 (x15.1, x15.2.1, x15.2.2.1, x15.2.2.2.1, x15.2.2.2.2.1, x15.2.2.2.2.2.1, (wr .i64 (x15.2.2.2.2.2.2.1 + (1 : Int))), ())))) else again12 (x15.1, x15.2.1, x15.2.2.1, x15.2.2.2.1, (wr .i64 (x15.2.2.2.2.2.1 + (1 : Int))), ()))) n (x11.1, x11.2.1, x11.2.2.1, x11.2.2.2.1, x11.2.2.2.2.1, x11.2.2.2.2.1, (0 : Int), ()) else again8 (x11.1, x11.2.1, x11.2.2.1, (wr .i64 (x11.2.2.2.1 - (1 : Int))), ()))) n (x7.1, x7.2.1, x7.2.2.1, x7.2.2.2.1, (0 : Int), ()) else some ((x7.2.2.1, ()), (())))) n (b, (c, (f, (m, (lo, ())))), tb (M + 3) (fun j => if M + 2 ≤ j then gR (tt j) else List.replicate 64 (0 : Int)), ((M + 2 : Nat) : Int) - 1, ())) ((tb (M + 3) (fun j => gR (tt j)), ()), ()) := by
    refine for_evt' 0 ((M + 2 : Nat) : Int) (fun i (_ : Unit) => (b, (c, (f, (m, (lo, ())))), tb (M + 3) (fun j => if M + 2 - i.toNat ≤ j then gR (tt j) else List.replicate 64 (0 : Int)), ((M + 2 : Nat) : Int) - 1 - i, ())) (fun _ _ => True) (b0 := ()) (by simp) (by omega) trivial ?_ ?_
    · intro i _ i0 i1 _
      obtain ⟨k, hk⟩ : ∃ k : Nat, (k : Int) = ((M + 2 : Nat) : Int) - 1 - i := ⟨(((M + 2 : Nat) : Int) - 1 - i).toNat, by omega⟩
      have hk1 : (k : Int) ≤ m + 1 := by omega
      have hi : M + 2 - i.toNat = k + 1 := by omega
      have hi2 : M + 2 - (i + 1).toNat = k := by omega
      rw [hi, hi2, ← hk, show ((M + 2 : Nat) : Int) - 1 - (i + 1) = (k : Int) - 1 by omega]
      have w4 : wr .i64 ((k : Int) + 1) = ((k + 1 : Nat) : Int) := by rw [wrap_id (by omega) (by omega)]; omega
      have w5 : wr .i64 ((k : Int) - 1) = (k : Int) - 1 := wrap_id (by omega) (by omega)
      have tk : ∀ x y, tt k x y = (List.range 64).any fun z => q k x y z && tt (k + 1) y z := by
        intro x y
        rw [htt]
        show can q (M + 2 - k) k x y = _
        rw [show M + 2 - k = (M + 2 - (k + 1)) + 1 by omega]
        rfl
      refine Round.yes (decide_eq_true (show (k : Int) ≥ 0 by omega)) ?_
      dsimp only
      refine for_round' 0 64 (fun x (_ : Unit) => (b, (c, (f, (m, (lo, ())))), tb (M + 3) (fun j => if k + 1 ≤ j then gR (tt j) else if j = k then pg (tt k) x.toNat 0 else List.replicate 64 (0 : Int)), (k : Int), x, ())) (fun _ _ => True) (b0 := ()) ?_ (by omega) trivial ?_ ?_
      · rw [show tb (M + 3) (fun j => if k + 1 ≤ j then gR (tt j) else List.replicate 64 (0 : Int)) = tb (M + 3) (fun j => if k + 1 ≤ j then gR (tt j) else if j = k then pg (tt k) (0 : Int).toNat 0 else List.replicate 64 (0 : Int)) from tb_ext fun j _ => by
          split
          · rfl
          · split
            · exact (pg_zero _).symm
            · rfl]
      · intro x _ x0 x1 _
        obtain ⟨x, rfl⟩ : ∃ x' : Nat, x = x' := ⟨x.toNat, by omega⟩
        have hx : x < 64 := by omega
        rw [Int.toNat_natCast]
        refine Round.yes (decide_eq_true x1) ?_
        dsimp only
        refine for_round' 0 64 (fun y (_ : Unit) => (b, (c, (f, (m, (lo, ())))), tb (M + 3) (fun j => if k + 1 ≤ j then gR (tt j) else if j = k then pg (tt k) x y.toNat else List.replicate 64 (0 : Int)), (k : Int), (x : Int), (x : Int), y, ())) (fun _ _ => True) (b0 := ()) rfl (by omega) trivial ?_ ?_
        · intro y _ y0 y1 _
          obtain ⟨y, rfl⟩ : ∃ y' : Nat, y = y' := ⟨y.toNat, by omega⟩
          have hy : y < 64 := by omega
          rw [Int.toNat_natCast]
          dsimp only
          rw [w4]
          rw [tb_len]
          refine Round.yes (decide_eq_true y1) (Round.bind (e94 (by omega) (by omega) hx hy) (Round.bind (e76 hr G hk1) (Round.chk (decide_eq_true ⟨by omega, by omega⟩) (Round.chk (decide_eq_true ⟨by omega, Int.ofNat_lt.2 hy⟩) (Round.at (v := gR (tt (k + 1))) (by rw [Int.toNat_natCast, tb_get (by omega), if_pos (Nat.le_refl _)]) (Round.at (v := row (tt (k + 1) y)) (gR_get _ hy) ?_))))))
          dsimp only
          have hc : (bitsI .and .u64 (bitsI .and .u64 (row (sp b x y)) (row (al c f m lo k))) (row (tt (k + 1) y)) != (0 : Int)) = tt k x y := by
            rw [row_and, row_and, row_ne, tk, hq]
            rfl
          have hat : (tb (M + 3) (fun j => if k + 1 ≤ j then gR (tt j) else if j = k then pg (tt k) x y else List.replicate 64 (0 : Int)))[(Int.toNat (k : Int))]? = some (pg (tt k) x y) := by
            rw [Int.toNat_natCast, tb_get (by omega), if_neg (by omega), if_pos rfl]
          rw [hc, hat, wrap_id (x := (y : Int) + 1) (by omega) (by omega)]
          refine Round.ite (fun h => ?_) (fun h => ?_)
          · refine Round.chk (decide_eq_true ⟨by omega, by omega⟩) (Round.chk (decide_eq_true ⟨by omega, Int.ofNat_lt.2 hx⟩) (Round.at rfl (Round.at (pg_get _ hx) (Round.chk (decide_eq_true (by omega)) (Round.chk (decide_eq_true ⟨by omega, by omega⟩) (Round.chk (decide_eq_true ⟨by omega, Int.ofNat_lt.2 hx⟩) (Round.at rfl (Round.at (pg_get _ hx) (Round.inr _ ⟨(), ?_, trivial⟩)))))))))
            try simp only [Int.toNat_natCast]
            rw [pg_put hy h, tb_set, show ((y : Int) + 1).toNat = y + 1 by omega]
            rw [show tb (M + 3) (fun j => if j = k then pg (tt k) x (y + 1) else if k + 1 ≤ j then gR (tt j) else if j = k then pg (tt k) x y else List.replicate 64 (0 : Int)) = tb (M + 3) (fun j => if k + 1 ≤ j then gR (tt j) else if j = k then pg (tt k) x (y + 1) else List.replicate 64 (0 : Int)) from tb_ext fun j _ => by
              by_cases e : j = k
              · subst e; rw [if_pos rfl, if_neg (by omega), if_pos rfl]
              · rw [if_neg e, if_neg e, if_neg e]]
          · have h : tt k x y = false := by simpa using h
            refine Round.inr _ ⟨(), ?_, trivial⟩
            rw [show ((y : Int) + 1).toNat = y + 1 by omega, pg_skip h]
        · intro _ _
          refine Round.no (by simp) (Round.inl _ ⟨(), ?_, trivial⟩)
          dsimp only
          rw [wrap_id (x := (x : Int) + 1) (by omega) (by omega), show (64 : Int).toNat = 64 from rfl, pg_next, show ((x : Int) + 1).toNat = x + 1 by omega]
      · intro _ _
        refine Round.no (by simp) (Round.again _ ⟨(), ?_, trivial⟩)
        dsimp only
        rw [w5, show (64 : Int).toNat = 64 from rfl, pg_full]
        rw [show tb (M + 3) (fun j => if k + 1 ≤ j then gR (tt j) else if j = k then gR (tt k) else List.replicate 64 (0 : Int)) = tb (M + 3) (fun j => if k ≤ j then gR (tt j) else List.replicate 64 (0 : Int)) from tb_ext fun j _ => by
          by_cases e : j = k
          · subst e; rw [if_neg (by omega), if_pos rfl, if_pos (Nat.le_refl _)]
          · by_cases e2 : k ≤ j
            · rw [if_pos (by omega), if_pos e2]
            · rw [if_neg (by omega), if_neg e, if_neg e2]]
    · intro _ _
      refine Round.no (by simp; omega) (Round.done ?_)
      dsimp only
      rw [show tb (M + 3) (fun j => if M + 2 - ((M + 2 : Nat) : Int).toNat ≤ j then gR (tt j) else List.replicate 64 (0 : Int)) = tb (M + 3) (fun j => gR (tt j)) from tb_ext fun j _ => if_pos (by rw [Int.toNat_natCast]; omega)]
      exact Evt.some _
  refine for_evt' 0 64 (fun x (_ : Unit) => (b, (c, (f, (m, (lo, ())))), ((M + 2 : Nat) : Int), tb (M + 3) (fun j => if j = M + 2 then gR (fun x' _ => decide (x' < x.toNat)) else List.replicate 64 (0 : Int)), x, ())) (fun _ _ => True) (b0 := ()) ?_ (by omega) trivial ?_ ?_
  · rw [Int.toNat_natCast, tb_rep (M + 3)]
    rw [show tb (M + 3) (fun j => if j = M + 2 then gR (fun x' _ => decide (x' < (0 : Int).toNat)) else List.replicate 64 (0 : Int)) = tb (M + 3) (fun _ => List.replicate 64 (0 : Int)) from tb_ext fun j _ => by
      split
      · rw [gR_zero]; exact gR_ext fun _ _ _ _ => by simp
      · rfl]
  · intro x _ x0 x1 _
    obtain ⟨x, rfl⟩ : ∃ x' : Nat, x = x' := ⟨x.toNat, by omega⟩
    have hx : x < 64 := by omega
    dsimp only
    rw [tb_len, Int.toNat_natCast]
    refine Round.yes (decide_eq_true x1) (Round.chk (decide_eq_true ⟨by omega, by omega⟩) (Round.chk (decide_eq_true ⟨by omega, Int.ofNat_lt.2 hx⟩) (Round.at (by rw [Int.toNat_natCast, tb_get (by omega), if_pos rfl]) (Round.at (gR_get _ hx) (Round.again _ ⟨(), ?_, trivial⟩)))))
    try simp only [Int.toNat_natCast]
    rw [row_ones, gR_set, tb_set, wrap_id (x := (x : Int) + 1) (by omega) (by omega), show ((x : Int) + 1).toNat = x + 1 by omega]
    rw [show tb (M + 3) (fun j => if j = M + 2 then gR (fun x' y' => if x' = x then true else decide (x' < x)) else if j = M + 2 then gR (fun x' _ => decide (x' < x)) else List.replicate 64 (0 : Int)) = tb (M + 3) (fun j => if j = M + 2 then gR (fun x' _ => decide (x' < x + 1)) else List.replicate 64 (0 : Int)) from tb_ext fun j _ => by
      split
      · refine gR_ext fun x' _ _ _ => ?_
        by_cases e : x' = x
        · subst e; simp
        · rw [if_neg e, decide_eq_decide]; omega
      · rfl]
  · intro _ _
    refine Round.no (by simp) (Round.done ?_)
    dsimp only
    rw [w3]
    rw [show tb (M + 3) (fun j => if j = M + 2 then gR (fun x' _ => decide (x' < (64 : Int).toNat)) else List.replicate 64 (0 : Int)) = tb (M + 3) (fun j => if M + 2 ≤ j then gR (tt j) else List.replicate 64 (0 : Int)) from tb_ext fun j hj => by
      by_cases e : j = M + 2
      · subst e
        rw [if_pos rfl, if_pos (Nat.le_refl _), lastG]
        exact gR_ext fun x' _ hx' _ => decide_eq_true hx'
      · rw [if_neg e, if_neg (by omega)]]
    rw [htt] at main
    rw [htt]
    exact main
/- (impl.stretch).pair -/
theorem e74 {c : List Int} (hr : Rng c) {f m lo b : Int} (G : GoodS c f m lo b) : Evt (fun n => call T C n 74 ((c, (f, (m, (lo, ())))), ())) ((((px c f lo : Nat) : Int), ((py c f lo : Nat) : Int), ()), ()) := by
  have hl := G.len; have hf := G.hf; have hlo := G.hlo
  obtain ⟨ex, hx⟩ := G.px
  obtain ⟨ey, hy⟩ := G.py
  refine Evt.next (Evt.bind (e89 hr (by omega) (by omega) f m lo (by omega) (by omega) (s := wr .i64 (f - 2)) (by rw [wrap_id (by omega) (by omega)]; omega) (by rw [wrap_id (by omega) (by omega)]; omega)) (Evt.bind (e89 hr (by omega) (by omega) f m lo (by omega) (by omega) (s := wr .i64 (f - 1)) (by rw [wrap_id (by omega) (by omega)]; omega) (by rw [wrap_id (by omega) (by omega)]; omega)) ?_)) (fun n => r74 n _)
  rw [wrap_id (x := f - 2) (by omega) (by omega), wrap_id (x := f - 1) (by omega) (by omega), ex, ey]
  exact Evt.some _
/- impl.HasPair -/
theorem e93 (t : Nat → Nat → Bool) {x y : Nat} (hx : x < 64) (hy : y < 64) : Evt (fun n => call T C n 93 (gR t, (x : Int), (y : Int), ())) ((t x y, ()), ()) := by
  have h1 : ∀ z : Nat, z < 64 → inR (z : Int) 0 (wr .i64 (64 - 1)) = true := fun z hz => inR_iff.2 ⟨by omega, by rw [wrap_id (by omega) (by omega)]; omega⟩
  refine Evt.next (Evt.bind (e88 _ _) (Evt.yes (h1 x hx) (Evt.bind (e88 _ _) (Evt.yes (h1 y hy) (Evt.chk (decide_eq_true (by omega)) (Evt.at (x := row (t x)) (gR_get t hx) (Evt.chk (decide_eq_true (by omega)) ((Evt.some _).of_eq fun n => ?_)))))))) (fun n => r93 n _ x y)
  show some ((bif true then (bitsI .and .u64 (shr_ .u64 (row (t x)) (y : Int)) (1 : Int) == (1 : Int)) else false, ()), ()) = _
  rw [row_bit _ hy]
  rfl
/- bits.TrailingZeros64 -/
theorem e85 (p : Nat → Bool) : Evt (fun n => call T C n 85 (row p, ())) ((((fstZ p : Nat) : Int), ()), ()) := by
  refine Evt.next ?_ (fun n => r85 n (row p))
  have h : 0 ≤ row p ∧ row p < 18446744073709551616 := by have := row_lt p; unfold row; omega
  dsimp only
  rw [if_pos h, row_ctz]
  exact Evt.some _
/- (impl.stretch).fill -/
theorem e49 {c : List Int} (hr : Rng c) {f m lo b : Int} (G : GoodS c f m lo b) : Evt (fun n => call T C n 49 ((c, (f, (m, (lo, ())))), b, ())) (fillR c f m lo b, ()) := by
  have hm := G.hm; have hb := G.hb; have hlo := G.hlo
  obtain ⟨ex, hx⟩ := G.px
  obtain ⟨ey, hy⟩ := G.py
  obtain ⟨M, hM⟩ : ∃ M : Nat, (M : Int) = m := ⟨m.toNat, by omega⟩
  have hMm : m.toNat = M := by omega
  obtain ⟨q, hq⟩ : ∃ q, q = qq c f m lo b := ⟨_, rfl⟩
  obtain ⟨tt, htt⟩ : ∃ tt : Nat → Nat → Nat → Bool, tt = fun j => can q (M + 2 - j) j := ⟨_, rfl⟩
  have tk : ∀ k x y : Nat, (k : Int) ≤ m + 1 → tt k x y = (List.range 64).any fun z => q k x y z && tt (k + 1) y z := by
    intro k x y hk
    rw [htt]
    show can q (M + 2 - k) k x y = _
    rw [show M + 2 - k = (M + 2 - (k + 1)) + 1 by omega]
    rfl
  refine Evt.next (Evt.bind (e92 hr G) (Evt.bind (e74 hr G) ?_)) (fun n => r49 n _ b)
  rw [hMm, ← hq, show (fun j => gR (can q (M + 2 - j) j)) = fun j => gR (tt j) by rw [htt]]
  refine Evt.chk (decide_eq_true ⟨by omega, by dsimp only; rw [tb_len]; omega⟩) (Evt.at (x := gR (tt 0)) (tb_get (by omega)) (Evt.bind (e93 (tt 0) hx hy) ?_))
  dsimp only
  have hcq : cq c f m lo b = tt 0 (px c f lo) (py c f lo) := by unfold cq; rw [hMm, htt, ← hq]; rfl
  unfold fillR
  rw [hcq]
  refine Evt.ite (fun h => ?_) (fun h => ?_)
  · rw [if_neg (by simpa using h)]; exact Evt.some _
  have h : tt 0 (px c f lo) (py c f lo) = true := by simpa using h
  rw [if_pos h]
  have hfil : filP c f m lo b = fil q lo (M + 2) M 0 (px c f lo) (py c f lo) := by unfold filP; rw [hMm, hq]
  rw [hfil]
  refine for_evt' 0 m (fun k (s : Nat × Nat × List Int) => (b, (c, (f, (m, (lo, ())))), tb (M + 3) (fun j => gR (tt j)), (s.1 : Int), (s.2.1 : Int), s.2.2, m, k, ())) (fun k s => s.1 < 64 ∧ s.2.1 < 64 ∧ tt k.toNat s.1 s.2.1 = true ∧ s.2.2.length = k.toNat ∧ s.2.2 ++ fil q lo (M + 2) (M - k.toNat) k.toNat s.1 s.2.1 = fil q lo (M + 2) M 0 (px c f lo) (py c f lo)) (b0 := (px c f lo, py c f lo, [])) rfl (by omega) ⟨hx, hy, h, rfl, rfl⟩ ?_ ?_
  · rintro k ⟨x, y, out⟩ k0 k1 ⟨hx, hy, ht, hlen, hfil⟩
    obtain ⟨k, rfl⟩ : ∃ k' : Nat, k = k' := ⟨k.toNat, by omega⟩
    dsimp only at hx hy ht hlen hfil ⊢
    rw [Int.toNat_natCast] at ht hlen hfil
    have hw : wr .i64 ((k : Int) + 1) = ((k + 1 : Nat) : Int) := by rw [wrap_id (by omega) (by omega)]; omega
    rw [hw]
    have hat : idx (tb (M + 3) fun j => gR (tt j)) ((k + 1 : Nat) : Int) = some (gR (tt (k + 1))) := by
      unfold idx
      rw [if_pos (by omega), Int.toNat_natCast, tb_get (by omega)]
    have hat2 : idx (gR (tt (k + 1))) (y : Int) = some (row (tt (k + 1) y)) := by
      unfold idx
      rw [if_pos (by omega), Int.toNat_natCast]; exact gR_get _ hy
    have hz : fstZ (fun z => sp b x y z && tt (k + 1) y z) = fstZ fun z => q k x y z && tt (k + 1) y z := by
      congr 1
      funext z
      rw [hq]
      unfold qq al
      rw [decide_eq_true k1]; simp
    rw [tk k x y (by omega)] at ht
    obtain ⟨z1, z2, _⟩ := fstZ_some ht
    obtain ⟨z, hzz⟩ : ∃ z, z = fstZ fun z => q k x y z && tt (k + 1) y z := ⟨_, rfl⟩
    rw [← hzz] at z1 z2 hz
    simp only [Bool.and_eq_true] at z2
    refine Round.yes (decide_eq_true k1) (Round.bind (e94 (by omega) (by omega) hx hy) (Round.at hat (Round.at hat2 ?_)))
    dsimp only
    rw [row_and]
    refine Round.bind (e85 _) (Round.chk (decide_eq_true (by simp; omega)) (Round.again _ ⟨(y, z, out ++ [lo + (z : Int)]), ?_, hy, z1, ?_, ?_, ?_⟩))
    · dsimp only
      rw [hz, wrap_id (x := lo + (z : Int)) (by omega) (by omega)]
      rfl
    · dsimp only; rw [show ((k : Int) + 1).toNat = k + 1 by omega]; exact z2.2
    · dsimp only; rw [List.length_append, hlen, show ((k : Int) + 1).toNat = k + 1 by omega]; rfl
    · dsimp only
      rw [← hfil, show ((k : Int) + 1).toNat = k + 1 by omega, show M - k = (M - (k + 1)) + 1 by omega, List.append_assoc]
      congr 1
      have : (fstZ fun z => q k x y z && can q (M + 2 - (k + 1)) (k + 1) y z) = z := by rw [hzz, htt]
      show _ = (lo + (fstZ fun z => q k x y z && can q (M + 2 - (k + 1)) (k + 1) y z : Nat)) :: fil q lo (M + 2) (M - (k + 1)) (k + 1) y (fstZ fun z => q k x y z && can q (M + 2 - (k + 1)) (k + 1) y z)
      rw [this]
      rfl
  · rintro ⟨x, y, out⟩ ⟨hx, hy, ht, hlen, hfil⟩
    dsimp only at hfil ⊢
    rw [hMm, Nat.sub_self] at hfil
    rw [show ∀ k, fil q lo (M + 2) 0 k x y = [] from fun _ => rfl, List.append_nil] at hfil
    rw [hfil]
    exact Round.no (by simp) (Round.done (Evt.some _))
/- (impl.Cam).with -/
theorem e51 {c : List Int} (hr : Rng c) (h0 : 0 < c.length) (h1 : c.length ≤ 1000000) {f : Int} (f0 : 0 ≤ f) (f1 : f ≤ 1000000) (l : List Int) (hl : (l.length : Int) ≤ 1000000) : Evt (fun n => call T C n 51 (c, f, l, ())) ((putP c f l, ()), ()) := by
  refine Evt.next (Evt.bind (e61 c (by omega) (by omega)) ?_) (fun n => r51 n c f l)
  refine for_evt' 0 (l.length : Int) (fun i (_ : Unit) => (c, f, putP c f (l.take i.toNat), l, (l.length : Int), i, ())) (fun _ _ => True) (b0 := ()) (by simp [putP]) (by omega) trivial ?_ ?_
  · intro i _ i0 i1 _
    obtain ⟨v, hv⟩ := at_of (l := l) i0 i1
    have e0 := Int.emod_nonneg (f + i) (show (c.length : Int) ≠ 0 by omega)
    have e1 := Int.emod_lt_of_pos (f + i) (show 0 < (c.length : Int) by omega)
    have hlen := putP_len (l.take i.toNat) c f
    dsimp only
    rw [hlen, wrap_id (x := f + i) (by omega) (by omega), wrap_id (x := i + 1) (by omega) (by omega)]
    obtain ⟨u, hu⟩ := get_of_lt (b := putP c f (l.take i.toNat)) e0 (by rw [hlen]; exact e1)
    refine Round.yes (decide_eq_true i1) (Round.at hv.idx (Round.bind (e62 c) (Round.bind (e65 (a := f + i) (b := (c.length : Int)) (by omega) (by omega) (by omega) (by omega)) (Round.chk (decide_eq_true ⟨e0, e1⟩) (Round.at hu (Round.again _ ⟨(), ?_, trivial⟩))))))
    dsimp only
    rw [hv.take, putP_snoc]
    have : ((l.take i.toNat).length : Int) = i := by rw [List.length_take]; omega
    rw [this]
  · intro _ _
    dsimp only
    rw [take_all]
    exact Round.no (by simp) (Round.done (Evt.some _))
/- impl.RepairCam -/
theorem e23 {c : List Int} (hr : Rng c) (b lo : Int) : Evt (fun n => call T C n 23 (c, b, lo, ())) (rpR c b lo, ()) := by
  have hl := hr.len'
  refine Evt.next (Evt.bind (e59 c (by omega)) (Evt.bind (e58 _ _) (Evt.bind (e60 _ _ _) ?_))) (fun n => r23 n c b lo)
  unfold rpR
  cases hc : okC c with
  | false =>
    have bad1 : ∀ (v : Int) (X : Nat → Option ((List Int × (List Int × (Int × Unit))) × Unit)), Evt (fun n => (call T C n 57 (([(if (!false) = true then (1 : Int) else 0), v] : List Int), ())).bind fun r => if (r.1.1 != (0 : Int)) = true then some ((([] : List Int), ([] : List Int), r.1.1, ()), ()) else X n) (([], [], 1, ()), ()) := fun v X => Evt.bind (e57 _ (by simp)) (Evt.yes rfl (Evt.some _))
    refine Evt.ite (fun _ => Evt.bind (e58 _ _) (bad1 _ _)) (fun _ => Evt.bind (e60 _ _ _) (Evt.bind (e58 _ _) (bad1 _ _)))
  | true =>
  have hlen := okC_len hc
  have bad2 : ∀ (X : Nat → Option ((List Int × (List Int × (Int × Unit))) × Unit)), Evt (fun n => (call T C n 57 (([(if (!true) = true then (1 : Int) else 0), (if true = true then (2 : Int) else 0)] : List Int), ())).bind fun r => if (r.1.1 != (0 : Int)) = true then some ((([] : List Int), ([] : List Int), r.1.1, ()), ()) else X n) (([], [], 2, ()), ()) := fun X => Evt.bind (e57 _ (by simp)) (Evt.yes rfl (Evt.some _))
  cases h2 : inR b 0 40000 with
  | false => exact Evt.yes rfl (Evt.bind (e58 _ _) (bad2 _))
  | true =>
  refine Evt.no (by simp) (Evt.bind (e60 _ _ _) (Evt.bind (e58 _ _) ?_))
  cases h3 : inR lo 0 9937 with
  | false => exact bad2 _
  | true =>
  have g2 := inR_iff.1 h2
  have g3 := inR_iff.1 h3
  refine Evt.bind (e57 _ (by simp)) (Evt.no (by decide) (Evt.bind (e61 c (by omega) (by omega)) (Evt.bind (e62 c) ?_)))
  refine for_evt' 0 (c.length : Int) (fun i (_ : Unit) => (c, b, lo, (rp b lo c i.toNat).1, (rp b lo c i.toNat).2, (c.length : Int), i, ())) (fun _ _ => True) (b0 := ()) (by simp [rp]) (by omega) trivial ?_ ?_
  · intro i _ i0 i1 _
    obtain ⟨k, rfl⟩ : ∃ k : Nat, i = k := ⟨i.toNat, by omega⟩
    have G := rp_good hr hc (b := b) (lo := lo) g3.1 g3.2 k
    have hs : rp b lo c ((k : Int) + 1).toNat = rpS b lo (rp b lo c k) k := by rw [show ((k : Int) + 1).toNat = k + 1 by omega]; rfl
    rw [Int.toNat_natCast, hs]
    obtain ⟨s, hss⟩ : ∃ s, s = rp b lo c k := ⟨_, rfl⟩
    rw [← hss] at G ⊢
    have gl := G.len
    have gm := G.many
    have b1 := G.rng.el _ (cAt_mem (by omega) ((k : Int) + 1))
    have b2 := G.rng.el _ (cAt_mem (by omega) (k : Int))
    have b3 := G.rng.el _ (cAt_mem (by omega) ((k : Int) - 1))
    dsimp only
    rw [wrap_id (x := (k : Int) + 1) (by omega) (by omega), wrap_id (x := (k : Int) - 1) (by omega) (by omega)]
    refine Round.yes (decide_eq_true i1) (Round.bind (e64 G.rng (by omega) (by omega) (by omega) (by omega)) (Round.bind (e63 (a := bendP s.1 (k : Int)) (by unfold bendP; omega) (by unfold bendP; omega)) ?_))
    unfold rpS
    refine Round.ite (fun h => ?_) (fun h => ?_)
    · rw [if_pos (of_decide_eq_true h)]
      exact Round.again _ ⟨(), rfl, trivial⟩
    have h : ¬ siz (bendP s.1 k) ≤ b := by simpa using h
    rw [if_neg h]
    obtain ⟨nx, hnx⟩ : ∃ nx, nx = (if askP s.1 (((k : Int) - 1) % s.1.length) 3 lo b = 0 ∧ cq s.1 (((k : Int) - 1) % s.1.length) 3 lo b = true then (putP s.1 (((k : Int) - 1) % s.1.length) (filP s.1 (((k : Int) - 1) % s.1.length) 3 lo b), s.2 ++ [(k : Int)]) else s) := ⟨_, rfl⟩
    rw [← hnx]
    have hn1 : ∀ hh : (askP s.1 (((k : Int) - 1) % s.1.length) 3 lo b = 0 ∧ cq s.1 (((k : Int) - 1) % s.1.length) 3 lo b = true), nx = (putP s.1 (((k : Int) - 1) % s.1.length) (filP s.1 (((k : Int) - 1) % s.1.length) 3 lo b), s.2 ++ [(k : Int)]) := fun hh => by rw [hnx, if_pos hh]
    have hn2 : ∀ hh : ¬ (askP s.1 (((k : Int) - 1) % s.1.length) 3 lo b = 0 ∧ cq s.1 (((k : Int) - 1) % s.1.length) 3 lo b = true), nx = s := fun hh => by rw [hnx, if_neg hh]
    have hn : ((c.length : Int)) = (s.1.length : Int) := by omega
    have f0 := Int.emod_nonneg ((k : Int) - 1) (show (s.1.length : Int) ≠ 0 by omega)
    have f1 := Int.emod_lt_of_pos ((k : Int) - 1) (show 0 < (s.1.length : Int) by omega)
    refine Round.bind (e62 c) (Round.bind (e65 (a := (k : Int) - 1) (b := (c.length : Int)) (by omega) (by omega) (by omega) (by omega)) ?_)
    dsimp only
    rw [show ((k : Int) - 1) % (c.length : Int) = ((k : Int) - 1) % (s.1.length : Int) by rw [hn]]
    refine Round.bind (e46 G.rng _ 3 lo b) (Round.ite (fun h => ?_) (fun h => ?_))
    · have h : askP s.1 (((k : Int) - 1) % s.1.length) 3 lo b ≠ 0 := by simpa using h
      rw [hn2 fun hh => h hh.1]
      exact Round.again _ ⟨(), rfl, trivial⟩
    have h : askP s.1 (((k : Int) - 1) % s.1.length) 3 lo b = 0 := by simpa using h
    refine Round.bind (e49 G.rng (goodS h)) ?_
    unfold fillR
    by_cases hq : cq s.1 (((k : Int) - 1) % s.1.length) 3 lo b = true
    · rw [if_pos hq, hn1 ⟨h, hq⟩]
      have hfl : ((filP s.1 (((k : Int) - 1) % s.1.length) 3 lo b).length : Int) ≤ 1000000 := by unfold filP; rw [fil_len]; decide
      exact Round.yes rfl (Round.bind (e51 G.rng (by omega) (by omega) f0 (by omega) _ hfl) (Round.chk (decide_eq_true (by simp; omega)) (Round.again _ ⟨(), rfl, trivial⟩)))
    · rw [if_neg hq, hn2 fun hh => hq hh.2]
      exact Round.no (by simp) (Round.again _ ⟨(), rfl, trivial⟩)
  · intro _ _
    dsimp only
    rw [Int.toNat_natCast]
    exact Round.no (by simp) (Round.done (Evt.some _))
/- laws.eqCam -/
theorem e12 (l : List Int) (hl : (l.length : Int) ≤ 140737488351232) : Evt (fun n => call T C n 12 (l, l, ())) ((true, ()), ()) := by
  refine Evt.next (Evt.no (by simp) ?_) (fun n => r12 n l l)
  refine for_evt 0 (l.length : Int) (fun i (_ : Unit) => (l, l, i, ())) (fun _ _ => True) (b0 := ()) (by omega) trivial ?_ ?_
  · intro i _ h2 h3 _
    obtain ⟨v, hv⟩ := at_of h2 h3
    refine Round.yes (decide_eq_true h3) (Round.at hv.idx (Round.at hv.idx (Round.no (by simp) (Round.again _ ⟨(), ?_, trivial⟩))))
    rw [wr_succ h2 h3 (by omega)]
  · intro _ _
    exact Round.no (by simp) (Round.done (Evt.some _))
/- laws.eqInt64S -/
theorem e15 (l : List Int) (hl : (l.length : Int) ≤ 140737488351232) : Evt (fun n => call T C n 15 (l, l, ())) ((true, ()), ()) := by
  refine Evt.next (Evt.no (by simp) ?_) (fun n => r15 n l l)
  refine for_evt 0 (l.length : Int) (fun i (_ : Unit) => (l, l, i, ())) (fun _ _ => True) (b0 := ()) (by omega) trivial ?_ ?_
  · intro i _ h2 h3 _
    obtain ⟨v, hv⟩ := at_of h2 h3
    refine Round.yes (decide_eq_true h3) (Round.at hv.idx (Round.at hv.idx (Round.no (by simp) (Round.again _ ⟨(), ?_, trivial⟩))))
    rw [wr_succ h2 h3 (by omega)]
  · intro _ _
    exact Round.no (by simp) (Round.done (Evt.some _))
/- laws.markCam -/
theorem e16 (l : List Int) (k : Int) (h0 : 0 ≤ k) (h1 : k + l.length ≤ 4611686018427387904) : Evt (fun n => call T C n 16 (l, k, ())) ((k + l.length, ()), (mkL (wr .i16) l.length k, ())) := by
  refine Evt.next ?_ (fun n => r16 n l k)
  refine for_evt' 0 (l.length : Int) (fun i (b : List Int) => (b, k + i, i, ())) (fun i b => b.length = l.length ∧ b.take i.toNat = mkL (wr .i16) i.toNat k) (b0 := l) (by simp) (by omega) ⟨rfl, by simp [mkL]⟩ ?_ ?_
  · intro i b h2 h3 ⟨hb, ht⟩
    have hi : i < (b.length : Int) := by omega
    obtain ⟨u, hu⟩ := get_of_lt h2 hi
    refine Round.yes (decide_eq_true hi) (Round.chk (chk_at h2 hi) (Round.at hu (Round.again _ ⟨b.set i.toNat (wr .i16 (k + i)), ?_, by simpa using hb, ?_⟩)))
    · rw [wrap_id (x := k + i + 1) (by omega) (by omega), wrap_id (x := i + 1) (by omega) (by omega)]
      simp only [Int.add_assoc, id_eq]
    · rw [take_set_succ h2 hi, ht, show (i + 1).toNat = i.toNat + 1 by omega, mkL_succ, show ((i.toNat : Nat) : Int) = i by omega]
  · intro b ⟨hb, ht⟩
    have e : b = mkL (wr .i16) l.length k := by rw [← take_all b, hb, ht]; simp
    rw [← e]
    exact Round.no (by simp [hb]) (Round.done (Evt.some _))
/- laws.markInt64S -/
theorem e17 (l : List Int) (k : Int) (h0 : 0 ≤ k) (h1 : k + l.length ≤ 4611686018427387904) : Evt (fun n => call T C n 17 (l, k, ())) ((k + l.length, ()), (mkL id l.length k, ())) := by
  refine Evt.next ?_ (fun n => r17 n l k)
  refine for_evt' 0 (l.length : Int) (fun i (b : List Int) => (b, k + i, i, ())) (fun i b => b.length = l.length ∧ b.take i.toNat = mkL id i.toNat k) (b0 := l) (by simp) (by omega) ⟨rfl, by simp [mkL]⟩ ?_ ?_
  · intro i b h2 h3 ⟨hb, ht⟩
    have hi : i < (b.length : Int) := by omega
    obtain ⟨u, hu⟩ := get_of_lt h2 hi
    refine Round.yes (decide_eq_true hi) (Round.chk (chk_at h2 hi) (Round.at hu (Round.again _ ⟨b.set i.toNat (id (k + i)), ?_, by simpa using hb, ?_⟩)))
    · rw [wrap_id (x := k + i + 1) (by omega) (by omega), wrap_id (x := i + 1) (by omega) (by omega)]
      simp only [Int.add_assoc, id_eq]
    · rw [take_set_succ h2 hi, ht, show (i + 1).toNat = i.toNat + 1 by omega, mkL_succ, show ((i.toNat : Nat) : Int) = i by omega]
  · intro b ⟨hb, ht⟩
    have e : b = mkL id l.length k := by rw [← take_all b, hb, ht]; simp
    rw [← e]
    exact Round.no (by simp [hb]) (Round.done (Evt.some _))
/- laws.heldCam -/
theorem e21 (m : Nat) (k : Int) (h0 : 0 ≤ k) (h1 : k + m ≤ 4611686018427387904) : Evt (fun n => call T C n 21 (mkL (wr .i16) m k, k, ())) ((k + m, ()), ()) := by
  refine Evt.next ?_ (fun n => r21 n _ k)
  refine for_evt' 0 (m : Int) (fun i (_ : Unit) => (mkL (wr .i16) m k, k + i, i, ())) (fun _ _ => True) (b0 := ()) (by simp) (by omega) trivial ?_ ?_
  · intro i _ h2 h3 _
    obtain ⟨v, hv⟩ := at_of (l := mkL (wr .i16) m k) h2 (by rw [mkL_len]; exact h3)
    have e := mkL_at (wr .i16) m k hv h2
    refine Round.yes (by rw [mkL_len]; exact decide_eq_true h3) (Round.at hv.idx (Round.no (by simp [e]) (Round.again _ ⟨(), ?_, trivial⟩)))
    rw [wrap_id (x := k + i + 1) (by omega) (by omega), wrap_id (x := i + 1) (by omega) (by omega)]
    simp only [Int.add_assoc]
  · intro _ _
    exact Round.no (by simp [mkL_len]) (Round.done (Evt.some _))
/- laws.heldInt64S -/
theorem e18 (m : Nat) (k : Int) (h0 : 0 ≤ k) (h1 : k + m ≤ 4611686018427387904) : Evt (fun n => call T C n 18 (mkL id m k, k, ())) ((k + m, ()), ()) := by
  refine Evt.next ?_ (fun n => r18 n _ k)
  refine for_evt' 0 (m : Int) (fun i (_ : Unit) => (mkL id m k, k + i, i, ())) (fun _ _ => True) (b0 := ()) (by simp) (by omega) trivial ?_ ?_
  · intro i _ h2 h3 _
    obtain ⟨v, hv⟩ := at_of (l := mkL id m k) h2 (by rw [mkL_len]; exact h3)
    have e := mkL_at id m k hv h2
    refine Round.yes (by rw [mkL_len]; exact decide_eq_true h3) (Round.at hv.idx (Round.no (by simp [e]) (Round.again _ ⟨(), ?_, trivial⟩)))
    rw [wrap_id (x := k + i + 1) (by omega) (by omega), wrap_id (x := i + 1) (by omega) (by omega)]
    simp only [Int.add_assoc]
  · intro _ _
    exact Round.no (by simp [mkL_len]) (Round.done (Evt.some _))
/- laws.FnExactRepairCam -/
theorem e6 (c : List Int) (b lo : Int) (hd : DomA (C 6).params (c, b, lo, ())) : Evt (fun n => call T C n 6 (c, b, lo, ())) ((true, ()), ()) := by
  have hr : Rng c := rng_of hd.1
  have hl := hr.len'
  obtain ⟨hn, hn2⟩ := rpR_len hr b lo
  refine Evt.next ?_ (fun n => r6 n c b lo)
  have to := e10 c hr.len
  have eqn := e12 (rpR c b lo).1 (by omega)
  have eqn2 := e15 (rpR c b lo).2.1 (by omega)
  have held := e21 (rpR c b lo).1.length 1 (by omega) (by omega)
  have held2 := e18 (rpR c b lo).2.1.length (1 + (rpR c b lo).1.length) (by omega) (by omega)
  refine Evt.ite (fun _ => Evt.some _) (fun _ => Evt.bind to (Evt.bind (e22 hr b lo) (Evt.bind to (Evt.bind (e23 hr b lo) (Evt.bind eqn (Evt.no (by simp) (Evt.bind eqn2 (Evt.no (by simp) (Evt.no (by simp) (Evt.bind to (Evt.bind (e12 c (by omega)) (Evt.no (by simp) (Evt.bind (e16 c 1 (by omega) (by omega)) (Evt.no (by simp; omega) (Evt.bind eqn (Evt.no (by simp) (Evt.bind eqn2 (Evt.no (by simp) (Evt.no (by simp) (Evt.bind (e16 (rpR c b lo).1 1 (by omega) (by omega)) (Evt.bind (e17 (rpR c b lo).2.1 (1 + (rpR c b lo).1.length) (by omega) (by omega)) (Evt.bind held (Evt.no (by simp; omega) (Evt.bind held2 (Evt.no (by simp; omega) (Evt.no (by simp) (Evt.bind to (Evt.bind (e23 hr b lo) (Evt.bind eqn (Evt.no (by simp) (Evt.bind eqn2 (Evt.no (by simp) (Evt.no (by simp) (Evt.bind held (Evt.no (by simp; omega) (Evt.bind held2 (Evt.no (by simp; omega) (Evt.no (by simp) (Evt.some _)))))))))))))))))))))))))))))))))))))))

end Go.Cams.YteeciijmkmdplaaDoorLRepairCam
