/- What the functions that the law reaches come to. -/
import Derived.Test.YtpfgohcppijiiaaRFe
import Derived.Test.YtpfgohcppijiiaaPuAll
namespace Go.Cams.YtpfgohcppijiiaaLFe
open Go Go.Fw Go.Proofs Go.Proofs.Ytpfgohcppijiiaa.LFe
/- laws.toCam -/
theorem e6 (l : List Int) (hl : (l.length : Int) * 2 ≤ 140737488351232) : Evt (fun n => call T C n 6 (l, ())) ((l, ()), ()) := by
  refine Evt.next (Evt.chk (by simp; omega) ?_) (fun n => r6 n l)
  refine for_evt 0 (l.length : Int) (fun i (b : List Int) => (l, b, i, ())) (fun i b => b.length = l.length ∧ b.take i.toNat = l.take i.toNat) (b0 := List.replicate (Int.toNat (l.length : Int)) 0) (by omega) ⟨by simp, by simp⟩ ?_ ?_
  · intro i b h2 h3 ⟨hb, ht⟩
    have hi : i < (b.length : Int) := by omega
    obtain ⟨v, hv⟩ := at_of h2 h3
    obtain ⟨u, hu⟩ := get_of_lt h2 hi
    refine Round.yes (decide_eq_true h3) (Round.at hv.idx (Round.chk (chk_at h2 hi) (Round.at hu (Round.again _ ⟨b.set i.toNat v, ?_, by simpa using hb, ?_⟩))))
    · rw [wr_succ h2 h3 (by omega)]
    · rw [take_set_succ h2 hi, ht, hv.take]
  · intro b ⟨hb, ht⟩
    have e : b = l := by rw [← take_all b, hb, ht]; simp
    rw [e]
    exact Round.no (by simp) (Round.done (Evt.some _))
/- laws.toBoolS -/
theorem e7 (l : List Bool) (hl : (l.length : Int) ≤ 4000000) : Evt (fun n => call T C n 7 (l, ())) ((l, ()), ()) := by
  refine Evt.next (Evt.chk (by simp; omega) ?_) (fun n => r7 n l)
  refine for_evt 0 (l.length : Int) (fun i (b : List Bool) => (l, b, i, ())) (fun i b => b.length = l.length ∧ b.take i.toNat = l.take i.toNat) (b0 := List.replicate (Int.toNat (l.length : Int)) false) (by omega) ⟨by simp, by simp⟩ ?_ ?_
  · intro i b h2 h3 ⟨hb, ht⟩
    have hi : i < (b.length : Int) := by omega
    obtain ⟨v, hv⟩ := at_of h2 h3
    obtain ⟨u, hu⟩ := get_of_lt h2 hi
    refine Round.yes (decide_eq_true h3) (Round.at hv.idx (Round.chk (chk_at h2 hi) (Round.at hu (Round.again _ ⟨b.set i.toNat v, ?_, by simpa using hb, ?_⟩))))
    · rw [wr_succ h2 h3 (by omega)]
    · rw [take_set_succ h2 hi, ht, hv.take]
  · intro b ⟨hb, ht⟩
    have e : b = l := by rw [← take_all b, hb, ht]; simp
    rw [e]
    exact Round.no (by simp) (Round.done (Evt.some _))
/- spec.l00In -/
theorem e59 (a b c : Int) : Evt (fun n => call T C n 59 (a, b, c, ())) ((inR a b c, ()), ()) := by
  refine Evt.next ?_ (fun n => r59 n a b c)
  refine Evt.ite (fun h => ?_) (fun h => ?_)
  · refine (Evt.some _).of_eq fun n => ?_
    have h : b ≤ a := of_decide_eq_true h
    simp [inR, h]
    rfl
  · refine (Evt.some _).of_eq fun n => ?_
    have h : ¬ b ≤ a := by simpa using h
    simp [inR, h]
    rfl
/- spec.l01Steps -/
theorem e54 (a : Int) : Evt (fun n => call T C n 54 (a, ())) ((inR a 8 360, ()), ()) := Evt.next (Evt.bind (e59 a 8 360) (Evt.some _)) (fun n => r54 n a)
/- spec.l01Lift -/
theorem e73 (a : Int) : Evt (fun n => call T C n 73 (a, ())) ((inR a 0 10000, ()), ()) := Evt.next (Evt.bind (e59 a 0 10000) (Evt.some _)) (fun n => r73 n a)
/- spec.l01Ok -/
theorem e48 (l : List Int) (hl : (l.length : Int) ≤ 140737488351232) : Evt (fun n => call T C n 48 (l, ())) ((okC l, ()), ()) := by
  refine Evt.next ?_ (fun n => r48 n l)
  refine Evt.bind (e54 _) ?_
  refine Evt.ite (fun h => ?_) (fun h => ?_)
  · refine (Evt.some _).of_eq fun n => ?_
    have h : inR (l.length : Int) 8 360 = false := by simpa using h
    simp [okC, h]
    rfl
  · have h : inR (l.length : Int) 8 360 = true := by simpa using h
    have he : okC l = l.all okV := by simp [okC, h]
    rw [he]
    refine loop_evt (fun (x : List Int × Int × Unit) => x.1 = l ∧ 0 ≤ x.2.1 ∧ x.2.1 ≤ (l.length : Int) ∧ l.all okV = (l.drop x.2.1.toNat).all okV) (fun (x : List Int × Int × Unit) => ((l.length : Int) - x.2.1).toNat) (x := (l, 0, ())) ⟨rfl, Int.le_refl _, by simp, by simp⟩ ?_
    rintro ⟨x1, i, _⟩ ⟨h', h0, h1, h2⟩
    simp only at h' h0 h1 h2
    subst h'
    refine Round.ite (fun hlt => ?_) (fun hge => ?_)
    · have hlt : i < (x1.length : Int) := of_decide_eq_true hlt
      obtain ⟨v, hv, hv'⟩ := idx_at h0 hlt
      have hd := drop_cons hv'
      refine Round.at hv (Round.bind (e73 _) (Round.ite (fun hb => ?_) (fun hb => ?_)))
      · have hb : okV v = false := by simpa [okV] using hb
        have h3 : x1.all okV = false := by rw [h2, hd]; simp [hb]
        rw [h3]
        exact Round.done (Evt.some _)
      · have hb : okV v = true := by simpa [okV] using hb
        have hw : wr .i64 (i + 1) = i + 1 := wrap_id (by omega) (by omega)
        refine Round.again _ ⟨⟨rfl, ?_, ?_, ?_⟩, ?_⟩ <;> simp only [hw]
        · omega
        · omega
        · rw [h2, hd, show (i + 1).toNat = i.toNat + 1 by omega]
          simp [hb]
        · omega
    · have hge : ¬ i < (x1.length : Int) := by simpa using hge
      have : x1.drop i.toNat = [] := List.drop_of_length_le (by omega)
      rw [h2, this]
      exact Round.done (Evt.some _)
/- spec.l05Held -/
theorem e31 (c : List Int) (h : List Bool) (hl : (c.length : Int) ≤ 140737488351232) : Evt (fun n => call T C n 31 (c, h, ())) ((hcode c h, ()), ()) := by
  refine Evt.next (Evt.bind (e48 c hl) ?_) (fun n => r31 n c h)
  cases ho : okC c with
  | false =>
    have e : hcode c h = 1 := if_pos ho
    rw [e]
    exact Evt.yes (by simp) (Evt.some _)
  | true =>
    refine Evt.no (by simp) ?_
    have e1 : hcode c h = if h.length ≠ c.length then 2 else 0 := if_neg (by rw [ho]; simp)
    by_cases hn : h.length = c.length
    · have e2 : hcode c h = 0 := e1.trans (if_neg fun e => e hn)
      rw [e2]
      exact Evt.no (by simp [hn]) (Evt.some _)
    · have e2 : hcode c h = 2 := e1.trans (if_pos hn)
      rw [e2]
      exact Evt.yes (by simp; omega) (Evt.some _)
/- spec.l05Free -/
theorem e32 (h : List Bool) (h0 : 0 < h.length) (hl : (h.length : Int) ≤ 4000000) : Evt (fun n => call T C n 32 (h, ())) ((frA h, ()), ()) := by
  refine Evt.next ?_ (fun n => r32 n h)
  have hne : ((h.length : Int) != 0) = true := bne_iff_ne.2 (by omega)
  have hat : ∀ j : Nat, idx h ((j % h.length : Nat) : Int) = some (hF h j) := fun j => by
    have hm := Nat.mod_lt j h0
    unfold idx hF
    rw [if_pos (by omega), Int.toNat_natCast, List.getD_eq_getElem?_getD, List.getElem?_eq_getElem hm]
    rfl
  have hlen : ∀ s m, (frI h s m).length ≤ m := fun s m => frI_len h s m
  refine for_evt' 0 (h.length : Int) (fun i (_ : Unit) => (h, (h.length : Int), frI h 0 i.toNat, i, ())) (fun _ _ => True) (b0 := ()) rfl (by omega) trivial ?_ ?_
  · intro i _ i0 i1 _
    obtain ⟨i, rfl⟩ := Int.eq_ofNat_of_zero_le i0
    have hi : i < h.length := by omega
    have hws := wr_succ (i := (i : Int)) i0 i1 (by omega)
    have hai := hat i
    rw [Nat.mod_eq_of_lt hi] at hai
    have hone := frI_app h 0 i 1
    rw [frI_one, Nat.zero_add] at hone
    have hsl := hlen 0 i
    rw [Int.toNat_natCast]
    dsimp only
    refine Round.yes (decide_eq_true i1) (Round.at hai ?_)
    cases hh : hF h i with
    | true =>
      have hb : begF h i = false := by unfold begF; rw [hh]; rfl
      rw [hb, if_neg (by simp), List.append_nil] at hone
      refine Round.yes rfl (Round.again _ ⟨(), ?_, trivial⟩)
      rw [hws, show ((i : Int) + 1).toNat = i + 1 by omega, hone]
    | false =>
      have hap := hat (i + h.length - 1)
      have etm : Int.tmod (wr .i64 (wr .i64 ((i : Int) + h.length) - 1)) h.length = (((i + h.length - 1) % h.length : Nat) : Int) := by
        rw [wrap_id (x := (i : Int) + h.length) (by omega) (by omega), wrap_id (by omega) (by omega), Int.tmod_eq_emod_of_nonneg (by omega), Int.natCast_emod]
        congr 1
        omega
      refine Round.no (by simp) (Round.chk hne ?_)
      rw [etm]
      refine Round.at hap ?_
      cases hp : hF h (i + h.length - 1) with
      | false =>
        have hb : begF h i = false := by unfold begF; rw [hp]; simp
        rw [hb, if_neg (by simp), List.append_nil] at hone
        refine Round.yes rfl (Round.again _ ⟨(), ?_, trivial⟩)
        rw [hws, show ((i : Int) + 1).toNat = i + 1 by omega, hone]
      | true =>
        have hb : begF h i = true := by unfold begF; rw [hh, hp]; rfl
        rw [hb, if_pos rfl] at hone
        refine Round.no (by simp) ?_
        have hpr : ∀ k : Nat, frl h i h.length = k → [(i : Int), (k : Int)] = prF h i := fun k hk => by unfold prF; rw [Nat.mod_eq_of_lt hi, hk]
        have hchk : ∀ q : List Int, decide (((frI h 0 i).length + ([q] : List (List Int)).length) * 2 * 8 ≤ 140737488355328) = true := fun q => decide_eq_true (by simp only [List.length_singleton]; omega)
        refine for_round' 0 (h.length : Int) (fun k (_ : Unit) => (h, (h.length : Int), frI h 0 i, (i : Int), k, ())) (fun k _ => ∀ j, j < k.toNat → hF h (i + j) = false) (b0 := ()) rfl (by omega) (fun j hj => absurd hj (by omega)) ?_ ?_
        · intro k _ k0 k1 hf
          obtain ⟨k, rfl⟩ := Int.eq_ofNat_of_zero_le k0
          rw [Int.toNat_natCast] at hf
          have hks := wr_succ (i := (k : Int)) k0 k1 (by omega)
          have hak := hat (i + k)
          have etk : Int.tmod (wr .i64 ((i : Int) + k)) h.length = (((i + k) % h.length : Nat) : Int) := by
            rw [wrap_id (by omega) (by omega), Int.tmod_eq_emod_of_nonneg (by omega), Int.natCast_emod]
            congr 1
          dsimp only
          refine Round.yes (decide_eq_true k1) (Round.chk hne ?_)
          rw [etk]
          refine Round.at hak ?_
          cases hkk : hF h (i + k) with
          | false =>
            refine Round.yes rfl (Round.inr _ ⟨(), ?_, ?_⟩)
            · rw [hks]
            · intro j hj
              by_cases e : j = k
              · rw [e]; exact hkk
              · exact hf j (by omega)
          | true =>
            refine Round.no (by simp) (Round.at rfl (Round.at rfl (Round.chk (decide_eq_true (by simp only [List.length_singleton]; omega)) (Round.inl _ ⟨(), ?_, trivial⟩))))
            rw [hws, show ((i : Int) + 1).toNat = i + 1 by omega, hone, ← hpr k (frl_eq hf hkk (by omega))]
            rfl
        · intro _ hf
          rw [Int.toNat_natCast] at hf
          have hr : frl h i h.length = h.length := by
            apply Classical.byContradiction
            intro hn
            have h1 := frl_le h h.length i
            have h2 := frl_stop h h.length i (by omega)
            rw [hf _ (by omega)] at h2
            cases h2
          dsimp only
          refine Round.no (by simp) (Round.at rfl (Round.at rfl (Round.chk (decide_eq_true (by simp only [List.length_singleton]; omega)) (Round.inl _ ⟨(), ?_, trivial⟩))))
          rw [hws, show ((i : Int) + 1).toNat = i + 1 by omega, hone, ← hpr h.length hr]
          rfl
  · intro _ _
    rw [Int.toNat_natCast]
    dsimp only
    refine Round.no (by simp) ?_
    have ha0 := hat 0
    rw [Nat.zero_mod] at ha0
    by_cases ha : h.any (fun v => true == v) = true
    · have e : frA h = frI h 0 h.length := if_pos ha
      rw [e]
      refine Round.ite (fun hz => ?_) (fun _ => Round.done (Evt.some _))
      have hz : frI h 0 h.length = [] := by
        have : ((frI h 0 h.length).length : Int) = 0 := by simpa using hz
        exact List.length_eq_zero_iff.1 (by omega)
      obtain ⟨j, hj, hh⟩ := any_hF ha
      have hf := frI_first hj hh hz
      rw [hf] at ha0
      exact Round.at ha0 (Round.no (by simp) (Round.done (Evt.some _)))
    · have e : frA h = [[0, (h.length : Int)]] := if_neg ha
      have hz : frI h 0 h.length = [] := frI_none fun i _ _ => by unfold begF; rw [none_hF ha (i + h.length - 1)]; simp
      rw [none_hF ha 0] at ha0
      rw [e, hz]
      exact Round.yes rfl (Round.at ha0 (Round.yes rfl (Round.at rfl (Round.at rfl (Round.done (Evt.some _))))))
/- spec.l01At -/
theorem e33 {l : List Int} (hr : Rng l) (h0 : 0 < (l.length : Int)) (h1 : (l.length : Int) ≤ 1000000) {x : Int} (hx : -4000000 ≤ x) (hx' : x ≤ 4000000) : ∃ v, l[(x % l.length).toNat]? = some v ∧ v ∈ l ∧ Evt (fun n => call T C n 33 (l, x, ())) ((v, ()), ()) := by
  have hp := Int.emod_nonneg x (show (l.length : Int) ≠ 0 by omega)
  obtain ⟨v, hv⟩ := at_of (l := l) hp (Int.emod_lt_of_pos x h0)
  refine ⟨v, hv.get, hv.mem, ?_⟩
  refine Evt.next (Evt.chk (bne_pos h0) (Evt.chk (bne_pos h0) ?_)) (fun n => r33 n l x)
  rw [turn_at h0 h1 hx hx']
  refine Evt.at hv.idx ((Evt.some _).of_eq fun n => ?_)
  rw [hr.id hv.mem]
  rfl
theorem e33' {l : List Int} (hr : Rng l) (h0 : 0 < (l.length : Int)) (h1 : (l.length : Int) ≤ 1000000) {x : Int} (hx : -4000000 ≤ x) (hx' : x ≤ 4000000) : Evt (fun n => call T C n 33 (l, x, ())) ((cAt l x, ()), ()) := by
  obtain ⟨v, hv, hm, he⟩ := e33 hr h0 h1 hx hx'
  have : cAt l x = v := by unfold cAt g; rw [List.getD_eq_getElem?_getD, hv]; rfl
  rw [this]; exact he
/- spec.l01Near -/
theorem e34 {x n : Int} (hn : 0 < n) (hn' : n ≤ 10000000000000) (h1 : -2000000000000000000 ≤ x) (h2 : x ≤ 2000000000000000000) : Evt (fun m => call T C m 34 (x, n, ())) ((nr x n, ()), ()) := by
  have hbd := ediv_bd (a := 2 * x + n) (b := 2 * n) (M := 4500000000000000000) (by omega) (by omega) (by omega) (by omega)
  have he := floorDiv_eq (a := 2 * x + n) (b := 2 * n) (by omega)
  refine Evt.next ?_ (fun m => r34 m x n)
  rw [wrap_id (x := 2 * n) (by omega) (by omega), wrap_id (x := 2 * x) (by omega) (by omega), wrap_id (x := 2 * x + n) (by omega) (by omega)]
  refine Evt.chk (bne_pos (by omega)) (Evt.chk (bne_pos (by omega)) (Evt.ite (fun h => ?_) (fun h => ?_)))
  · have h : Int.tmod (2 * x + n) (2 * n) < 0 := of_decide_eq_true h
    rw [if_pos h] at he
    refine (Evt.some _).of_eq fun m => ?_
    rw [wrap_id (x := Int.tdiv (2 * x + n) (2 * n)) (by omega) (by omega), wrap_id (by omega) (by omega), he]
    rfl
  · have h : ¬ Int.tmod (2 * x + n) (2 * n) < 0 := by simpa using h
    rw [if_neg h] at he
    refine (Evt.some _).of_eq fun m => ?_
    rw [wrap_id (x := Int.tdiv (2 * x + n) (2 * n)) (by omega) (by omega), he]
    rfl
/- spec.FillEven -/
theorem e5 {c : List Int} (hr : Rng c) (h : List Bool) : Evt (fun n => call T C n 5 (c, h, ())) (feR c h, ()) := by
  have hl := hr.len'
  refine Evt.next (Evt.bind (e31 c h (by omega)) ?_) (fun n => r5 n c h)
  by_cases hc : hcode c h = 0
  case neg =>
    have e : feR c h = ([], hcode c h, ()) := if_pos hc
    rw [e]
    exact Evt.yes (by simpa using hc) (Evt.some _)
  have e : feR c h = if h.any (fun v => true == v) = true then (feA c (frA h), 0, ()) else ([], 4, ()) := if_neg (fun e => e hc)
  obtain ⟨ok, hn⟩ := hcode_zero hc
  have hln := okC_len ok
  refine Evt.no (by simp [hc]) (Evt.bind (e32 h (by omega) (by omega)) ?_)
  have hw := frA_whole (h := h) (by omega)
  have hLl := frA_len h
  have hmem : ∀ p ∈ frA h, ∃ i m : Nat, p = [(i : Int), (m : Int)] ∧ i < h.length ∧ 1 ≤ m ∧ m ≤ h.length := fun p hp => by
    obtain ⟨i, m, e, h1, h2, h3, _⟩ := frA_mem (by omega) hp
    exact ⟨i, m, e, h1, h2, h3⟩
  have hcb : ∀ x, 0 ≤ cAt c x ∧ cAt c x ≤ 10000 := fun x => okC_el ok hr _ (cAt_mem (by omega) x)
  dsimp only
  by_cases ha : h.any (fun v => true == v) = true
  case neg =>
    obtain ⟨hl1, p, hp, hg⟩ := hw.2 ha
    rw [e, if_neg ha]
    have hp2 : (frA h)[(Int.toNat (0 : Int))]? = some p := hp
    obtain ⟨i, m, rfl, _⟩ := hmem p (List.mem_of_getElem? hp)
    have hg : (m : Int) = h.length := hg
    refine Evt.yes (by rw [hl1]; rfl) (Evt.chk (by rw [hl1]; rfl) (Evt.chk rfl ?_))
    simp only [hp2, Option.bind_some]
    refine Evt.at (x := (m : Int)) rfl (Evt.yes ?_ (Evt.some _))
    rw [hg, hn]
    simp
  rw [e, if_pos ha]
  refine Evt.ite (fun h1 => ?_) (fun h1 => ?_)
  · have hl1 : (frA h).length = 1 := by
      have : ((frA h).length : Int) = 1 := by simpa using h1
      omega
    obtain ⟨p, hp⟩ : ∃ p, (frA h)[0]? = some p := ⟨_, List.getElem?_eq_getElem (by omega)⟩
    have hp2 : (frA h)[(Int.toNat (0 : Int))]? = some p := hp
    obtain ⟨i, m, rfl, _⟩ := hmem p (List.mem_of_getElem? hp)
    refine Evt.chk (by rw [hl1]; rfl) (Evt.chk rfl ?_)
    simp only [hp2, Option.bind_some]
    refine Evt.at (x := (m : Int)) rfl (Evt.no (fun hc => hw.1 ⟨hl1, _, hp, ?_⟩ ha) ?_)
    · have hc : (m : Int) = c.length := by simpa using hc
      show (m : Int) = _
      omega
    refine Evt.chk (decide_eq_true (by simp only [List.length_nil]; omega)) ?_
    refine for_evt' 0 ((frA h).length : Int) (fun i (_ : Unit) => (c, (c.length : Int), frA h, feA c ((frA h).take i.toNat), i, ())) (fun _ _ => True) (b0 := ()) rfl (by omega) trivial ?_ ?_
    · intro i _ i0 i1 _
      obtain ⟨i, rfl⟩ := Int.eq_ofNat_of_zero_le i0
      have hi : i < (frA h).length := by omega
      obtain ⟨p, hp⟩ : ∃ p, (frA h)[i]? = some p := ⟨_, List.getElem?_eq_getElem hi⟩
      have hat : idx (frA h) (i : Int) = some p := by
        unfold idx
        rw [if_pos (by omega), Int.toNat_natCast, hp]
      obtain ⟨f, m, rfl, f1, m1, m2⟩ := hmem p (List.mem_of_getElem? hp)
      have hws := wr_succ (i := (i : Int)) i0 i1 (by omega)
      have w1 : wr .i64 ((f : Int) - 1) = (f : Int) - 1 := wrap_id (by omega) (by omega)
      have w2 : wr .i64 ((f : Int) + m) = (f : Int) + m := wrap_id (by omega) (by omega)
      have w3 : wr .i64 ((m : Int) + 1) = (m : Int) + 1 := wrap_id (by omega) (by omega)
      have hA := e33' hr (by omega) (by omega) (x := (f : Int) - 1) (by omega) (by omega)
      have hB := e33' hr (by omega) (by omega) (x := (f : Int) + m) (by omega) (by omega)
      have ba := hcb ((f : Int) - 1)
      have bb := hcb ((f : Int) + m)
      have hsn : feA c ((frA h).take (i + 1)) = feS c f m (feA c ((frA h).take i)) m := by rw [List.take_add_one, hp]; exact feA_snoc c _ _
      have hfl : (feA c ((frA h).take i)).length = c.length := feA_len c _
      have hfv : ∀ k : Int, feV c f m k = wr .i16 (cAt c ((f : Int) - 1) + nr ((cAt c ((f : Int) + m) - cAt c ((f : Int) - 1)) * k) ((m : Int) + 1)) := fun k => by
        unfold feV
        rw [nr_mul _ _ (by omega)]
      rw [Int.toNat_natCast]
      generalize feA c ((frA h).take i) = o at *
      dsimp only
      refine Round.yes (decide_eq_true i1) (Round.at hat (Round.at (v := (f : Int)) rfl (Round.at hat (Round.at (v := (m : Int)) rfl ?_))))
      simp only [w1, w2]
      refine Round.bind hA (Round.bind hB ?_)
      generalize cAt c ((f : Int) - 1) = a at *
      generalize cAt c ((f : Int) + m) = b at *
      refine for_round' 1 ((m : Int) + 1) (fun k (_ : Unit) => (c, (c.length : Int), frA h, feS c f m o (k.toNat - 1), (i : Int), (f : Int), (m : Int), a, b, k, ())) (fun _ _ => True) (b0 := ()) rfl (by omega) trivial ?_ ?_
      · intro k _ k0 k1 _
        obtain ⟨q, rfl⟩ : ∃ q : Nat, k = ((q + 1 : Nat) : Int) := ⟨(k - 1).toNat, by omega⟩
        have hks : wr .i64 (((q + 1 : Nat) : Int) + 1) = ((q + 1 : Nat) : Int) + 1 := wrap_id (by omega) (by omega)
        have hmb := mulS_bd (x := b - a) (y := ((q + 1 : Nat) : Int)) (X := 10000) (Y := 1000) (by omega) (by omega) (by omega) (by omega) (by omega)
        have w4 : wr .i64 (wr .i64 (b - a) * ((q + 1 : Nat) : Int)) = (b - a) * ((q + 1 : Nat) : Int) := by rw [wrap_id (x := b - a) (by omega) (by omega), wrap_id (by omega) (by omega)]
        have hnb := nr_in (x := (b - a) * ((q + 1 : Nat) : Int)) (d := (m : Int) + 1) (lo := -10000000) (hi := 10000000) (by omega) (by omega) (by omega)
        have hN := e34 (x := (b - a) * ((q + 1 : Nat) : Int)) (n := (m : Int) + 1) (by omega) (by omega) (by omega) (by omega)
        have etm : Int.tmod (wr .i64 (wr .i64 ((f : Int) + ((q + 1 : Nat) : Int)) - 1)) (c.length : Int) = ((f : Int) + (q : Int)) % c.length := by
          rw [wrap_id (x := (f : Int) + ((q + 1 : Nat) : Int)) (by omega) (by omega), wrap_id (by omega) (by omega), Int.tmod_eq_emod_of_nonneg (by omega)]
          congr 1
          omega
        have hm0 := Int.emod_nonneg ((f : Int) + (q : Int)) (show (c.length : Int) ≠ 0 by omega)
        have hm1 := Int.emod_lt_of_pos ((f : Int) + (q : Int)) (show 0 < (c.length : Int) by omega)
        have hol := feS_len c f m o q
        have eq1 : ((q + 1 : Nat) : Int).toNat - 1 = q := by omega
        have hck : decide (0 ≤ ((f : Int) + (q : Int)) % (c.length : Int) ∧ ((f : Int) + (q : Int)) % (c.length : Int) < ((feS c f m o q).length : Int)) = true := decide_eq_true ⟨hm0, by omega⟩
        have eq2 : (((q + 1 : Nat) : Int) + 1).toNat - 1 = q + 1 := by omega
        have hcw : wr .i64 (a + nr ((b - a) * ((q + 1 : Nat) : Int)) ((m : Int) + 1)) = a + nr ((b - a) * ((q + 1 : Nat) : Int)) ((m : Int) + 1) := wrap_id (by omega) (by omega)
        have hfs : feS c f m o (q + 1) = (feS c f m o q).set ((((f : Int) + (q : Int)) % c.length)).toNat (feV c f m ((q + 1 : Nat) : Int)) := rfl
        dsimp only
        rw [eq1]
        refine Round.yes (decide_eq_true (by omega)) (Round.chk (bne_iff_ne.2 (by omega)) ?_)
        rw [w4, w3, etm]
        refine Round.bind hN (Round.chk (decide_eq_true (by omega)) ?_)
        obtain ⟨v, hv⟩ : ∃ v, (feS c f m o q)[(((f : Int) + (q : Int)) % c.length).toNat]? = some v := ⟨_, List.getElem?_eq_getElem (by omega)⟩
        simp only [hv, Option.bind_some]
        refine Round.inr _ ⟨(), ?_, trivial⟩
        rw [eq2, hks, hcw, hfs, hfv]
      · intro _ _
        have eq3 : ((m : Int) + 1).toNat - 1 = m := by omega
        dsimp only
        rw [eq3]
        refine Round.no (by simp; omega) (Round.inl _ ⟨(), ?_, trivial⟩)
        rw [hws, show ((i : Int) + 1).toNat = i + 1 by omega, hsn]
    · intro _ _
      rw [Int.toNat_natCast, List.take_length]
      dsimp only
      exact Round.no (by simp) (Round.done (Evt.some _))
  · skip
    refine Evt.chk (decide_eq_true (by simp only [List.length_nil]; omega)) ?_
    refine for_evt' 0 ((frA h).length : Int) (fun i (_ : Unit) => (c, (c.length : Int), frA h, feA c ((frA h).take i.toNat), i, ())) (fun _ _ => True) (b0 := ()) rfl (by omega) trivial ?_ ?_
    · intro i _ i0 i1 _
      obtain ⟨i, rfl⟩ := Int.eq_ofNat_of_zero_le i0
      have hi : i < (frA h).length := by omega
      obtain ⟨p, hp⟩ : ∃ p, (frA h)[i]? = some p := ⟨_, List.getElem?_eq_getElem hi⟩
      have hat : idx (frA h) (i : Int) = some p := by
        unfold idx
        rw [if_pos (by omega), Int.toNat_natCast, hp]
      obtain ⟨f, m, rfl, f1, m1, m2⟩ := hmem p (List.mem_of_getElem? hp)
      have hws := wr_succ (i := (i : Int)) i0 i1 (by omega)
      have w1 : wr .i64 ((f : Int) - 1) = (f : Int) - 1 := wrap_id (by omega) (by omega)
      have w2 : wr .i64 ((f : Int) + m) = (f : Int) + m := wrap_id (by omega) (by omega)
      have w3 : wr .i64 ((m : Int) + 1) = (m : Int) + 1 := wrap_id (by omega) (by omega)
      have hA := e33' hr (by omega) (by omega) (x := (f : Int) - 1) (by omega) (by omega)
      have hB := e33' hr (by omega) (by omega) (x := (f : Int) + m) (by omega) (by omega)
      have ba := hcb ((f : Int) - 1)
      have bb := hcb ((f : Int) + m)
      have hsn : feA c ((frA h).take (i + 1)) = feS c f m (feA c ((frA h).take i)) m := by rw [List.take_add_one, hp]; exact feA_snoc c _ _
      have hfl : (feA c ((frA h).take i)).length = c.length := feA_len c _
      have hfv : ∀ k : Int, feV c f m k = wr .i16 (cAt c ((f : Int) - 1) + nr ((cAt c ((f : Int) + m) - cAt c ((f : Int) - 1)) * k) ((m : Int) + 1)) := fun k => by
        unfold feV
        rw [nr_mul _ _ (by omega)]
      rw [Int.toNat_natCast]
      generalize feA c ((frA h).take i) = o at *
      dsimp only
      refine Round.yes (decide_eq_true i1) (Round.at hat (Round.at (v := (f : Int)) rfl (Round.at hat (Round.at (v := (m : Int)) rfl ?_))))
      simp only [w1, w2]
      refine Round.bind hA (Round.bind hB ?_)
      generalize cAt c ((f : Int) - 1) = a at *
      generalize cAt c ((f : Int) + m) = b at *
      refine for_round' 1 ((m : Int) + 1) (fun k (_ : Unit) => (c, (c.length : Int), frA h, feS c f m o (k.toNat - 1), (i : Int), (f : Int), (m : Int), a, b, k, ())) (fun _ _ => True) (b0 := ()) rfl (by omega) trivial ?_ ?_
      · intro k _ k0 k1 _
        obtain ⟨q, rfl⟩ : ∃ q : Nat, k = ((q + 1 : Nat) : Int) := ⟨(k - 1).toNat, by omega⟩
        have hks : wr .i64 (((q + 1 : Nat) : Int) + 1) = ((q + 1 : Nat) : Int) + 1 := wrap_id (by omega) (by omega)
        have hmb := mulS_bd (x := b - a) (y := ((q + 1 : Nat) : Int)) (X := 10000) (Y := 1000) (by omega) (by omega) (by omega) (by omega) (by omega)
        have w4 : wr .i64 (wr .i64 (b - a) * ((q + 1 : Nat) : Int)) = (b - a) * ((q + 1 : Nat) : Int) := by rw [wrap_id (x := b - a) (by omega) (by omega), wrap_id (by omega) (by omega)]
        have hnb := nr_in (x := (b - a) * ((q + 1 : Nat) : Int)) (d := (m : Int) + 1) (lo := -10000000) (hi := 10000000) (by omega) (by omega) (by omega)
        have hN := e34 (x := (b - a) * ((q + 1 : Nat) : Int)) (n := (m : Int) + 1) (by omega) (by omega) (by omega) (by omega)
        have etm : Int.tmod (wr .i64 (wr .i64 ((f : Int) + ((q + 1 : Nat) : Int)) - 1)) (c.length : Int) = ((f : Int) + (q : Int)) % c.length := by
          rw [wrap_id (x := (f : Int) + ((q + 1 : Nat) : Int)) (by omega) (by omega), wrap_id (by omega) (by omega), Int.tmod_eq_emod_of_nonneg (by omega)]
          congr 1
          omega
        have hm0 := Int.emod_nonneg ((f : Int) + (q : Int)) (show (c.length : Int) ≠ 0 by omega)
        have hm1 := Int.emod_lt_of_pos ((f : Int) + (q : Int)) (show 0 < (c.length : Int) by omega)
        have hol := feS_len c f m o q
        have eq1 : ((q + 1 : Nat) : Int).toNat - 1 = q := by omega
        have hck : decide (0 ≤ ((f : Int) + (q : Int)) % (c.length : Int) ∧ ((f : Int) + (q : Int)) % (c.length : Int) < ((feS c f m o q).length : Int)) = true := decide_eq_true ⟨hm0, by omega⟩
        have eq2 : (((q + 1 : Nat) : Int) + 1).toNat - 1 = q + 1 := by omega
        have hcw : wr .i64 (a + nr ((b - a) * ((q + 1 : Nat) : Int)) ((m : Int) + 1)) = a + nr ((b - a) * ((q + 1 : Nat) : Int)) ((m : Int) + 1) := wrap_id (by omega) (by omega)
        have hfs : feS c f m o (q + 1) = (feS c f m o q).set ((((f : Int) + (q : Int)) % c.length)).toNat (feV c f m ((q + 1 : Nat) : Int)) := rfl
        dsimp only
        rw [eq1]
        refine Round.yes (decide_eq_true (by omega)) (Round.chk (bne_iff_ne.2 (by omega)) ?_)
        rw [w4, w3, etm]
        refine Round.bind hN (Round.chk (decide_eq_true (by omega)) ?_)
        obtain ⟨v, hv⟩ : ∃ v, (feS c f m o q)[(((f : Int) + (q : Int)) % c.length).toNat]? = some v := ⟨_, List.getElem?_eq_getElem (by omega)⟩
        simp only [hv, Option.bind_some]
        refine Round.inr _ ⟨(), ?_, trivial⟩
        rw [eq2, hks, hcw, hfs, hfv]
      · intro _ _
        have eq3 : ((m : Int) + 1).toNat - 1 = m := by omega
        dsimp only
        rw [eq3]
        refine Round.no (by simp; omega) (Round.inl _ ⟨(), ?_, trivial⟩)
        rw [hws, show ((i : Int) + 1).toNat = i + 1 by omega, hsn]
    · intro _ _
      rw [Int.toNat_natCast, List.take_length]
      dsimp only
      exact Round.no (by simp) (Round.done (Evt.some _))
/- (impl.Cam).steps -/
theorem e44 (a : List Int) : Evt (fun n => call T C n 44 (a, ())) (((a.length : Int), ()), ()) := Evt.next (Evt.some _) (fun n => r44 n a)
/- impl.inRange -/
theorem e56 (a b c : Int) : Evt (fun n => call T C n 56 (a, b, c, ())) ((inR a b c, ()), ()) := by
  refine Evt.next ?_ (fun n => r56 n a b c)
  refine Evt.ite (fun h => ?_) (fun h => ?_)
  · refine (Evt.some _).of_eq fun n => ?_
    have h : b ≤ a := of_decide_eq_true h
    simp [inR, h]
    rfl
  · refine (Evt.some _).of_eq fun n => ?_
    have h : ¬ b ≤ a := by simpa using h
    simp [inR, h]
    rfl
/- impl.isSteps -/
theorem e53 (a : Int) : Evt (fun n => call T C n 53 (a, ())) ((inR a 8 360, ()), ()) := Evt.next (Evt.bind (e56 a 8 360) (Evt.some _)) (fun n => r53 n a)
/- impl.isLift -/
theorem e78 (a : Int) : Evt (fun n => call T C n 78 (a, ())) ((inR a 0 10000, ()), ()) := Evt.next (Evt.bind (e56 a 0 10000) (Evt.some _)) (fun n => r78 n a)
/- impl.ValidCam$1 -/
theorem e77 (v : Int) : Evt (fun n => call T C n 77 (v, ())) ((!okV v, ()), ()) := Evt.next (Evt.bind (e78 _) (Evt.some _)) (fun n => r77 n v)
/- slices.IndexFunc[impl.Cam,int16]{impl.ValidCam$1} -/
theorem e83 (l : List Int) (hl : (l.length : Int) ≤ 140737488351232) : Evt (fun n => call T C n 83 (l, ((), ()), ())) ((fi (fun v => !okV v) l 0, ()), ()) := by
  refine Evt.next ?_ (fun n => r83 n l ((), ()))
  refine loop_evt (fun (x : List Int × (Unit × Unit) × Int × Int × Unit) => x.1 = l ∧ x.2.2.1 = (l.length : Int) ∧ 0 ≤ x.2.2.2.1 ∧ x.2.2.2.1 ≤ (l.length : Int) ∧ fi (fun v => !okV v) l 0 = fi (fun v => !okV v) (l.drop x.2.2.2.1.toNat) x.2.2.2.1) (fun (x : List Int × (Unit × Unit) × Int × Int × Unit) => ((l.length : Int) - x.2.2.2.1).toNat) (x := (l, ((), ()), (l.length : Int), 0, ())) ⟨rfl, rfl, Int.le_refl _, by simp, by simp⟩ ?_
  rintro ⟨x1, u, m, i, _⟩ ⟨h', hm, h0, h1, h2⟩
  simp only at h' hm h0 h1 h2
  subst h'; subst hm
  refine Round.ite (fun hlt => ?_) (fun hge => ?_)
  · have hlt : i < (x1.length : Int) := of_decide_eq_true hlt
    obtain ⟨v, hv, hv'⟩ := idx_at h0 hlt
    have hd := drop_cons hv'
    refine Round.at hv (Round.bind (e77 _) (Round.ite (fun hb => ?_) (fun hb => ?_)))
    · have hb : okV v = false := by simpa using hb
      have h3 : fi (fun v => !okV v) x1 0 = i := by rw [h2, hd]; simp [fi, hb]
      rw [h3]
      exact Round.done (Evt.some _)
    · have hb : okV v = true := by simpa using hb
      have hw : wr .i64 (i + 1) = i + 1 := wrap_id (by omega) (by omega)
      refine Round.again _ ⟨⟨rfl, rfl, ?_, ?_, ?_⟩, ?_⟩ <;> simp only [hw]
      · omega
      · omega
      · rw [h2, hd, show (i + 1).toNat = i.toNat + 1 by omega]
        simp [fi, hb]
      · omega
  · have hge : ¬ i < (x1.length : Int) := by simpa using hge
    have : x1.drop i.toNat = [] := List.drop_of_length_le (by omega)
    rw [h2, this]
    exact Round.done (Evt.some _)
/- slices.ContainsFunc[impl.Cam,int16]{impl.ValidCam$1} -/
theorem e76 (l : List Int) (hl : (l.length : Int) ≤ 140737488351232) : Evt (fun n => call T C n 76 (l, ((), ()), ())) ((l.any (fun v => !okV v), ()), ()) := by
  refine Evt.next (Evt.bind (e83 l hl) ((Evt.some _).of_eq fun n => ?_)) (fun n => r76 n l ((), ()))
  simp only [fi_any _ l 0 (Int.le_refl _)]
  rfl
/- impl.ValidCam -/
theorem e55 (l : List Int) (hl : (l.length : Int) ≤ 140737488351232) : Evt (fun n => call T C n 55 (l, ())) ((okC l, ()), ()) := by
  refine Evt.next (Evt.bind (e44 l) (Evt.bind (e53 _) ?_)) (fun n => r55 n l)
  refine Evt.ite (fun h => ?_) (fun h => ?_)
  · refine Evt.bind (e76 l hl) ((Evt.some _).of_eq fun n => ?_)
    have h : inR (l.length : Int) 8 360 = true := h
    have : okC l = !l.any (fun v => !okV v) := by simp [okC, h, List.any_eq_not_all_not]
    rw [this]
    rfl
  · refine (Evt.some _).of_eq fun n => ?_
    have h : inR (l.length : Int) 8 360 = false := by simpa using h
    simp [okC, h]
    rfl
/- impl.codeIf -/
theorem e37 (c : Bool) (v : Int) : Evt (fun n => call T C n 37 (c, v, ())) (((if c = true then v else 0), ()), ()) := by
  refine Evt.next ?_ (fun n => r37 n c v)
  cases c with
  | true => exact Evt.yes rfl (Evt.some _)
  | false => exact Evt.no (by simp) (Evt.some _)
/- impl.firstCode -/
theorem e35 (l : List Int) (hl : (l.length : Int) ≤ 140737488351232) : Evt (fun n => call T C n 35 (l, ())) ((fst0 l, ()), ()) := by
  refine Evt.next ?_ (fun n => r35 n l)
  refine loop_evt (fun (x : List Int × Int × Int × Unit) => x.1 = l ∧ x.2.1 = (l.length : Int) ∧ 0 ≤ x.2.2.1 ∧ x.2.2.1 ≤ (l.length : Int) ∧ fst0 l = fst0 (l.drop x.2.2.1.toNat)) (fun (x : List Int × Int × Int × Unit) => ((l.length : Int) - x.2.2.1).toNat) (x := (l, (l.length : Int), 0, ())) ⟨rfl, rfl, Int.le_refl _, by simp, by simp⟩ ?_
  rintro ⟨x1, m, i, _⟩ ⟨h', hm, h0, h1, h2⟩
  simp only at h' hm h0 h1 h2
  subst h'; subst hm
  refine Round.ite (fun hlt => ?_) (fun hge => ?_)
  · have hlt : i < (x1.length : Int) := of_decide_eq_true hlt
    obtain ⟨v, hv, hv'⟩ := idx_at h0 hlt
    have hd := drop_cons hv'
    refine Round.at hv (Round.ite (fun hb => ?_) (fun hb => ?_))
    · have hb : v ≠ 0 := by simpa using hb
      have h3 : fst0 x1 = v := by rw [h2, hd]; simp [fst0, hb]
      rw [h3]
      exact Round.done (Evt.some _)
    · have hb : v = 0 := by simpa using hb
      have hw : wr .i64 (i + 1) = i + 1 := wrap_id (by omega) (by omega)
      refine Round.again _ ⟨⟨rfl, rfl, ?_, ?_, ?_⟩, ?_⟩ <;> simp only [hw]
      · omega
      · omega
      · rw [h2, hd, show (i + 1).toNat = i.toNat + 1 by omega]
        simp [fst0, hb]
      · omega
  · have hge : ¬ i < (x1.length : Int) := by simpa using hge
    have : x1.drop i.toNat = [] := List.drop_of_length_le (by omega)
    rw [h2, this]
    exact Round.done (Evt.some _)
/- impl.heldCode -/
theorem e36 (c : List Int) (h : List Bool) (hl : (c.length : Int) ≤ 140737488351232) : Evt (fun n => call T C n 36 (c, h, ())) ((hcode c h, ()), ()) := by
  refine Evt.next (Evt.bind (e55 c hl) (Evt.bind (e37 _ _) (Evt.bind (e37 _ _) (Evt.bind (e35 _ (by simp)) ?_)))) (fun n => r36 n c h)
  have e : fst0 [if (!okC c) = true then (1 : Int) else 0, if ((h.length : Int) != (c.length : Int)) = true then (2 : Int) else 0] = hcode c h := by
    unfold hcode
    cases ho : okC c with
    | false => simp [fst0]
    | true =>
      by_cases hn : h.length = c.length
      · simp [fst0, hn]
      · have h2 : ¬ (h.length : Int) = c.length := by omega
        simp [fst0, hn, h2]
  dsimp only
  rw [e]
  exact Evt.some _
/- slices.Index[[]bool,bool] -/
theorem e66 (l : List Bool) (x : Bool) (hl : (l.length : Int) ≤ 4000000) : Evt (fun n => call T C n 66 (l, x, ())) ((fi (fun v => x == v) l 0, ()), ()) := by
  refine Evt.next ?_ (fun n => r66 n l x)
  refine for_evt' 0 (l.length : Int) (fun i (_ : Unit) => (l, x, (l.length : Int), i, ())) (fun i _ => fi (fun v => x == v) l 0 = fi (fun v => x == v) (l.drop i.toNat) i) (b0 := ()) rfl (by omega) (by simp) ?_ ?_
  · intro i _ h2 h3 hp
    obtain ⟨v, hv⟩ := at_of h2 h3
    rw [hv.drop] at hp
    simp only [fi] at hp
    refine Round.yes (decide_eq_true h3) (Round.at hv.idx ?_)
    cases hb : x == v with
    | true =>
      simp only [hb, if_true] at hp
      rw [hp]
      exact Round.yes rfl (Round.done (Evt.some _))
    | false =>
      simp only [hb, Bool.false_eq_true, if_false] at hp
      exact Round.no (by simp) (Round.again _ ⟨(), by rw [wr_succ h2 h3 (by omega)], hp⟩)
  · intro _ hp
    rw [drop_all] at hp
    rw [hp]
    exact Round.no (by simp) (Round.done (Evt.some _))
/- slices.Contains[[]bool,bool] -/
theorem e38 (l : List Bool) (x : Bool) (hl : (l.length : Int) ≤ 4000000) : Evt (fun n => call T C n 38 (l, x, ())) ((l.any (fun v => x == v), ()), ()) := by
  refine Evt.next (Evt.bind (e66 l x hl) ((Evt.some _).of_eq fun n => ?_)) (fun n => r38 n l x)
  simp only [fi_any _ l 0 (Int.le_refl _)]
  rfl
/- slices.Clone[impl.Cam,int16] -/
theorem e39 (l : List Int) (h0 : l.length ≠ 0) (hl : (l.length : Int) ≤ 1000000) : Evt (fun n => call T C n 39 (l, ())) ((l, ()), ()) :=
  Evt.next (Evt.yes (decide_eq_true h0) (Evt.chk (by simp; omega) (Evt.some _))) (fun n => r39 n l)
/- slices.SortFunc[[][2]int64,[2]int64]{impl.freeStretches$1} -/
theorem e67 {l : List (List Int)} (h : sortOk l = true) : Evt (fun n => call T C n 67 (l, ((), ()), ())) ((), (sortK l, ())) := by
  refine Evt.next ?_ (fun n => r67 n l ((), ()))
  dsimp only
  rw [if_pos h]
  exact Evt.some _
/- impl.freeStretches -/
theorem e40 (h : List Bool) (h0 : 0 < h.length) (hl : (h.length : Int) ≤ 1000000) : Evt (fun n => call T C n 40 (h, ())) ((frA h, ()), ()) := by
  refine Evt.next (Evt.bind (e66 h true (by omega)) ?_) (fun n => r40 n h)
  have hne : ((h.length : Int) != 0) = true := bne_iff_ne.2 (by omega)
  have hat : ∀ j : Nat, idx h ((j % h.length : Nat) : Int) = some (hF h j) := fun j => by
    have hm := Nat.mod_lt j h0
    unfold idx hF
    rw [if_pos (by omega), Int.toNat_natCast, List.getD_eq_getElem?_getD, List.getElem?_eq_getElem hm]
    rfl
  dsimp only
  by_cases ha : h.any (fun v => true == v) = true
  case neg =>
    have hn := fi_none (p := fun v => true == v) (l := h) fun v hv => by
      apply Classical.byContradiction
      intro hc
      exact ha (List.any_eq_true.2 ⟨v, hv, by simpa using hc⟩)
    have e : frA h = [[0, (h.length : Int)]] := if_neg ha
    rw [e]
    exact Evt.yes (decide_eq_true hn) (Evt.some _)
  obtain ⟨v, hv, ev⟩ := List.any_eq_true.1 ha
  obtain ⟨j, hj, rfl⟩ := List.getElem_of_mem hv
  obtain ⟨s, hs1, hs2, w, hw, ew⟩ := fi_first (p := fun v => true == v) (l := h) (i := 0) (j := j) (Int.le_refl _) ⟨_, List.getElem?_eq_getElem hj, ev⟩
  have hs : s < h.length := (List.getElem?_eq_some_iff.1 hw).1
  have hHs : hF h s = true := by
    unfold hF
    rw [Nat.mod_eq_of_lt hs, List.getD_eq_getElem?_getD, hw]
    have : w = true := by simpa using ew
    rw [this]; rfl
  rw [hs2, Int.zero_add]
  have eA : frA h = sortK (frI h s h.length) := by rw [frI_sort hs]; exact if_pos ha
  have hok := frI_ok hs (by omega)
  have hend : wr .i64 ((s : Int) + h.length) = (s : Int) + h.length := wrap_id (by omega) (by omega)
  have hlen : ∀ s m, (frI h s m).length ≤ m := fun s m => frI_len h s m
  refine Evt.no (by simp) ?_
  refine loop_evt (fun x => ∃ k : Nat, k ≤ h.length + 1 ∧ x = (h, (h.length : Int), frI h s k, (s : Int), ((s + k : Nat) : Int), ()) ∧ (k = 0 ∨ hF h (s + k - 1) = true)) (fun x => (2 * (s : Int) + 2 * h.length + 5 - x.2.2.2.2.1).toNat) ⟨0, by omega, rfl, .inl rfl⟩ ?_
  rintro x ⟨k, hk, rfl, hp⟩
  dsimp only
  rw [hend]
  by_cases hlt : k < h.length
  case neg =>
    refine Round.no (by simp; omega) ?_
    have e : frI h s k = frI h s h.length := by
      by_cases e : k = h.length
      · rw [e]
      · have e2 : k = h.length + 1 := by omega
        rw [e2, frI_app, frI_one]
        have hb : begF h (s + h.length) = false := by unfold begF; rw [hF_per, hHs]; rfl
        rw [hb, if_neg (by simp), List.append_nil]
    rw [e, eA]
    exact Round.bind (e67 hok) (Round.done (Evt.some _))
  refine Round.yes (decide_eq_true (by omega)) ?_
  have hkl := hlen s k
  refine for_round' ((s + k : Nat) : Int) ((s : Int) + h.length) (fun t (_ : Unit) => (h, (h.length : Int), frI h s k, (s : Int), ((s + k : Nat) : Int), t, ())) (fun t _ => ∀ j : Nat, (j : Int) < t - ((s + k : Nat) : Int) → hF h (s + k + j) = false) (b0 := ()) rfl (by omega) (fun j hj => absurd hj (by omega)) ?_ ?_
  · intro t _ t0 t1 hf
    obtain ⟨m, rfl⟩ : ∃ m : Nat, t = ((s + k + m : Nat) : Int) := ⟨(t - ((s + k : Nat) : Int)).toNat, by omega⟩
    have hf : ∀ j, j < m → hF h (s + k + j) = false := fun j hj => hf j (by omega)
    have hts := wr_succ (i := ((s + k + m : Nat) : Int)) (n := (s : Int) + h.length) (by omega) t1 (by omega)
    have hak := hat (s + k + m)
    have etk : Int.tmod ((s + k + m : Nat) : Int) h.length = (((s + k + m) % h.length : Nat) : Int) := by
      rw [Int.tmod_eq_emod_of_nonneg (by omega), Int.natCast_emod]
    dsimp only
    rw [hend]
    refine Round.yes (decide_eq_true t1) (Round.chk hne ?_)
    rw [etk]
    refine Round.at hak ?_
    cases hkk : hF h (s + k + m) with
    | false =>
      refine Round.yes rfl (Round.inr _ ⟨(), ?_, ?_⟩)
      · rw [hts]
      · intro j hj
        by_cases e : j = m
        · rw [e]; exact hkk
        · exact hf j (by omega)
    | true =>
      have hrun := frI_run (h := h) (s := s + k) (k := m) (by
        by_cases hm : m = 0
        · exact .inr hm
        · refine .inl ?_
          rcases hp with e | e
          · subst e
            have := hf 0 (by omega)
            simp only [Nat.add_zero, hHs] at this
            cases this
          · by_cases hz : s + k = 0
            · have ek : k = 0 := by omega
              have := hf 0 (by omega)
              simp only [ek, Nat.add_zero, hHs] at this
              cases this
            · omega) (by
        rcases hp with e | e
        · subst e
          refine .inl ?_
          apply Classical.byContradiction
          intro hm
          have := hf 0 (by omega)
          simp only [Nat.add_zero, hHs] at this
          cases this
        · exact .inr e) hf hkk
      have happ := frI_app h s k (m + 1)
      rw [hrun] at happ
      refine Round.no (by simp) ?_
      have hws : wr .i64 (((s + k + m : Nat) : Int) + 1) = ((s + (k + (m + 1)) : Nat) : Int) := by rw [hts]; omega
      by_cases hm : 0 < m
      · have etp : Int.tmod ((s + k : Nat) : Int) h.length = (((s + k) % h.length : Nat) : Int) := by
          rw [Int.tmod_eq_emod_of_nonneg (by omega), Int.natCast_emod]
        have ewd : wr .i64 (((s + k + m : Nat) : Int) - ((s + k : Nat) : Int)) = (m : Int) := by rw [wrap_id (by omega) (by omega)]; omega
        rw [if_pos hm] at happ
        refine Round.yes (decide_eq_true (by omega)) (Round.chk hne (Round.at rfl (Round.at rfl (Round.chk (decide_eq_true (by simp only [List.length_singleton]; omega)) (Round.inl _ ⟨⟨k + (m + 1), by omega, ?_, .inr ?_⟩, ?_⟩)))))
        · rw [hws, happ, etp, ewd, ← frl_eq hf hkk (show m ≤ h.length by omega)]
          rfl
        · rw [show s + (k + (m + 1)) - 1 = s + k + m by omega]; exact hkk
        · rw [hws]; dsimp only; omega
      · have em : m = 0 := by omega
        rw [if_neg hm, List.append_nil] at happ
        refine Round.no (by simp; omega) (Round.inl _ ⟨⟨k + (m + 1), by omega, ?_, .inr ?_⟩, ?_⟩)
        · rw [hws, happ]
        · rw [show s + (k + (m + 1)) - 1 = s + k + m by omega]; exact hkk
        · rw [hws]; dsimp only; omega
  · intro _ hf
    -- the first held step is reached again
    have hf : ∀ j, j < h.length - k → hF h (s + k + j) = false := fun j hj => hf j (by omega)
    have hkk : hF h (s + k + (h.length - k)) = true := by rw [show s + k + (h.length - k) = s + h.length by omega, hF_per]; exact hHs
    have hk0 : k ≠ 0 := fun e => by
      have := hf 0 (by omega)
      simp only [e, Nat.add_zero, hHs] at this
      cases this
    have hrun := frI_run (h := h) (s := s + k) (k := h.length - k) (.inl (by omega)) (.inr (hp.resolve_left hk0)) hf hkk
    have happ := frI_app h s k (h.length - k + 1)
    rw [hrun, if_pos (by omega)] at happ
    have hws : wr .i64 ((s : Int) + h.length + 1) = ((s + (k + (h.length - k + 1)) : Nat) : Int) := by rw [wrap_id (by omega) (by omega)]; omega
    have etp : Int.tmod ((s + k : Nat) : Int) h.length = (((s + k) % h.length : Nat) : Int) := by
      rw [Int.tmod_eq_emod_of_nonneg (by omega), Int.natCast_emod]
    have ewd : wr .i64 ((s : Int) + h.length - ((s + k : Nat) : Int)) = ((h.length - k : Nat) : Int) := by rw [wrap_id (by omega) (by omega)]; omega
    dsimp only
    rw [hend]
    refine Round.no (by simp) (Round.yes (decide_eq_true (by omega)) (Round.chk hne (Round.at rfl (Round.at rfl (Round.chk (decide_eq_true (by simp only [List.length_singleton]; omega)) (Round.inl _ ⟨⟨k + (h.length - k + 1), by omega, ?_, .inr ?_⟩, ?_⟩))))))
    · rw [hws, happ, etp, ewd, ← frl_eq hf hkk (show h.length - k ≤ h.length by omega)]
      rfl
    · rw [show s + (k + (h.length - k + 1)) - 1 = s + k + (h.length - k) by omega]; exact hkk
    · rw [hws]; dsimp only; omega
/- impl.floorDiv -/
theorem e69 {a b : Int} (hb : 0 < b) (h1 : -4500000000000000000 ≤ a) (h2 : a ≤ 4500000000000000000) : Evt (fun n => call T C n 69 (a, b, ())) ((a / b, ()), ()) := by
  have hbd := ediv_bd hb h1 h2 (by omega)
  have he := floorDiv_eq (a := a) hb
  refine Evt.next (Evt.chk (bne_pos hb) (Evt.chk (bne_pos hb) (Evt.ite (fun h => ?_) (fun h => ?_)))) (fun n => r69 n a b)
  · have h : Int.tmod a b < 0 := of_decide_eq_true h
    rw [if_pos h] at he
    refine (Evt.some _).of_eq fun n => ?_
    rw [wrap_id (x := Int.tdiv a b) (by omega) (by omega), wrap_id (by omega) (by omega), he]
    rfl
  · have h : ¬ Int.tmod a b < 0 := by simpa using h
    rw [if_neg h] at he
    refine (Evt.some _).of_eq fun n => ?_
    rw [wrap_id (x := Int.tdiv a b) (by omega) (by omega), he]
    rfl
/- impl.mod -/
theorem e43 {a b : Int} (hb : 0 < b) (hb' : b ≤ 1000000000000) (h1 : -1000000000000 ≤ a) (h2 : a ≤ 1000000000000) : Evt (fun n => call T C n 43 (a, b, ())) ((a % b, ()), ()) := by
  have hd := Int.emod_def a b
  have h3 := Int.emod_nonneg a (show b ≠ 0 by omega)
  have h4 := Int.emod_lt_of_pos a hb
  refine Evt.next (Evt.bind (e69 hb (by omega) (by omega)) ((Evt.some _).of_eq fun n => ?_)) (fun n => r43 n a b)
  simp only
  rw [wrap_id (x := b * (a / b)) (by omega) (by omega), ← hd, wrap_id (by omega) (by omega)]
  rfl
/- (impl.Cam).at -/
theorem e41 {l : List Int} (hr : Rng l) (h0 : 0 < (l.length : Int)) (h1 : (l.length : Int) ≤ 1000000) {x : Int} (hx : -4000000 ≤ x) (hx' : x ≤ 4000000) : Evt (fun n => call T C n 41 (l, x, ())) ((cAt l x, ()), ()) := by
  have hp := Int.emod_nonneg x (show (l.length : Int) ≠ 0 by omega)
  have hq := Int.emod_lt_of_pos x h0
  have hv := g_idx (l := l) hp hq
  refine Evt.next (Evt.bind (e44 l) (Evt.bind (e43 (a := x) h0 (by omega) (by omega) (by omega)) (Evt.at hv.idx ((Evt.some _).of_eq fun n => ?_)))) (fun n => r41 n l x)
  rw [hr.id hv.mem]
  rfl
/- impl.nearest -/
theorem e42 {x n : Int} (hn : 0 < n) (hn' : n ≤ 10000000000000) (h1 : -2000000000000000000 ≤ x) (h2 : x ≤ 2000000000000000000) : Evt (fun m => call T C m 42 (x, n, ())) ((nr x n, ()), ()) := by
  refine Evt.next ?_ (fun m => r42 m x n)
  rw [wrap_id (x := 2 * n) (by omega) (by omega), wrap_id (x := 2 * x) (by omega) (by omega), wrap_id (x := 2 * x + n) (by omega) (by omega)]
  exact Evt.bind (e69 (by omega) (by omega) (by omega)) (Evt.some _)
/- impl.FillEven -/
theorem e8 {c : List Int} (hr : Rng c) (h : List Bool) (hh : (h.length : Int) ≤ 4000000) : Evt (fun n => call T C n 8 (c, h, ())) (feR c h, ()) := by
  have hl := hr.len'
  refine Evt.next (Evt.bind (e36 c h (by omega)) (Evt.bind (e38 h true hh) (Evt.bind (e37 _ _) (Evt.bind (e35 _ (by simp)) ?_)))) (fun n => r8 n c h)
  dsimp only
  have ef : fst0 [hcode c h, if (!h.any (fun v => true == v)) = true then (4 : Int) else 0] = if hcode c h ≠ 0 then hcode c h else if h.any (fun v => true == v) = true then 0 else 4 := by
    by_cases hc : hcode c h = 0
    · cases ha : h.any (fun v => true == v) <;> simp [fst0, hc]
    · simp [fst0, hc]
  rw [ef]
  by_cases hc : hcode c h = 0
  case neg =>
    have e : feR c h = ([], hcode c h, ()) := if_pos hc
    rw [e, if_pos hc]
    exact Evt.yes (by simpa using hc) (Evt.some _)
  have e : feR c h = if h.any (fun v => true == v) = true then (feA c (frA h), 0, ()) else ([], 4, ()) := if_neg (fun e => e hc)
  obtain ⟨ok, hn⟩ := hcode_zero hc
  have hln := okC_len ok
  rw [if_neg (fun e => e hc), e]
  by_cases ha : h.any (fun v => true == v) = true
  case neg =>
    rw [if_neg ha, if_neg ha]
    exact Evt.yes (by simp) (Evt.some _)
  rw [if_pos ha, if_pos ha]
  have hLl := frA_len h
  have hmem : ∀ p ∈ frA h, ∃ i m : Nat, p = [(i : Int), (m : Int)] ∧ i < h.length ∧ 1 ≤ m ∧ m ≤ h.length := fun p hp => by
    obtain ⟨i, m, e, h1, h2, h3, _⟩ := frA_mem (by omega) hp
    exact ⟨i, m, e, h1, h2, h3⟩
  have hcb : ∀ x, 0 ≤ cAt c x ∧ cAt c x ≤ 10000 := fun x => okC_el ok hr _ (cAt_mem (by omega) x)
  refine Evt.no (by simp) (Evt.bind (e39 c (by omega) (by omega)) (Evt.bind (e40 h (by omega) (by omega)) ?_))
  dsimp only
  refine for_evt' 0 ((frA h).length : Int) (fun i (_ : Unit) => (c, feA c ((frA h).take i.toNat), frA h, ((frA h).length : Int), i, ())) (fun _ _ => True) (b0 := ()) rfl (by omega) trivial ?_ ?_
  · intro i _ i0 i1 _
    obtain ⟨i, rfl⟩ := Int.eq_ofNat_of_zero_le i0
    have hi : i < (frA h).length := by omega
    obtain ⟨p, hp⟩ : ∃ p, (frA h)[i]? = some p := ⟨_, List.getElem?_eq_getElem hi⟩
    have hat : idx (frA h) (i : Int) = some p := by
      unfold idx
      rw [if_pos (by omega), Int.toNat_natCast, hp]
    obtain ⟨f, m, rfl, f1, m1, m2⟩ := hmem p (List.mem_of_getElem? hp)
    have hws := wr_succ (i := (i : Int)) i0 i1 (by omega)
    have w1 : wr .i64 ((f : Int) - 1) = (f : Int) - 1 := wrap_id (by omega) (by omega)
    have w2 : wr .i64 ((f : Int) + m) = (f : Int) + m := wrap_id (by omega) (by omega)
    have w3 : wr .i64 ((m : Int) + 1) = (m : Int) + 1 := wrap_id (by omega) (by omega)
    have hA := e41 hr (by omega) (by omega) (x := (f : Int) - 1) (by omega) (by omega)
    have hB := e41 hr (by omega) (by omega) (x := (f : Int) + m) (by omega) (by omega)
    have ba := hcb ((f : Int) - 1)
    have bb := hcb ((f : Int) + m)
    have hsn : feA c ((frA h).take (i + 1)) = feS c f m (feA c ((frA h).take i)) m := by rw [List.take_add_one, hp]; exact feA_snoc c _ _
    have hfl : (feA c ((frA h).take i)).length = c.length := feA_len c _
    have hfv : ∀ k : Int, feV c f m k = wr .i16 (nr (cAt c ((f : Int) - 1) * ((m : Int) + 1) + (cAt c ((f : Int) + m) - cAt c ((f : Int) - 1)) * k) ((m : Int) + 1)) := fun k => rfl
    rw [Int.toNat_natCast]
    generalize feA c ((frA h).take i) = o at *
    dsimp only
    refine Round.yes (decide_eq_true i1) (Round.at hat (Round.chk rfl (Round.at (v := (f : Int)) rfl (Round.chk rfl (Round.at (v := (m : Int)) rfl ?_)))))
    simp only [w1, w2]
    refine Round.bind hA (Round.bind hB ?_)
    generalize cAt c ((f : Int) - 1) = a at *
    generalize cAt c ((f : Int) + m) = b at *
    refine for_round' 1 ((m : Int) + 1) (fun k (_ : Unit) => (c, feS c f m o (k.toNat - 1), (f : Int), (m : Int), a, b, k, frA h, ((frA h).length : Int), (i : Int), ())) (fun _ _ => True) (b0 := ()) rfl (by omega) trivial ?_ ?_
    · intro k _ k0 k1 _
      obtain ⟨q, rfl⟩ : ∃ q : Nat, k = ((q + 1 : Nat) : Int) := ⟨(k - 1).toNat, by omega⟩
      have hks : wr .i64 (((q + 1 : Nat) : Int) + 1) = ((q + 1 : Nat) : Int) + 1 := wrap_id (by omega) (by omega)
      have hmb := mulS_bd (x := b - a) (y := ((q + 1 : Nat) : Int)) (X := 10000) (Y := 1000) (by omega) (by omega) (by omega) (by omega) (by omega)
      have hma := mulS_bd (x := a) (y := (m : Int) + 1) (X := 10000) (Y := 1000) (by omega) (by omega) (by omega) (by omega) (by omega)
      have w4 : wr .i64 (wr .i64 (b - a) * ((q + 1 : Nat) : Int)) = (b - a) * ((q + 1 : Nat) : Int) := by rw [wrap_id (x := b - a) (by omega) (by omega), wrap_id (by omega) (by omega)]
      have w5 : wr .i64 (a * ((m : Int) + 1)) = a * ((m : Int) + 1) := wrap_id (by omega) (by omega)
      have w6 : wr .i64 (a * ((m : Int) + 1) + (b - a) * ((q + 1 : Nat) : Int)) = a * ((m : Int) + 1) + (b - a) * ((q + 1 : Nat) : Int) := wrap_id (by omega) (by omega)
      have hN := e42 (x := a * ((m : Int) + 1) + (b - a) * ((q + 1 : Nat) : Int)) (n := (m : Int) + 1) (by omega) (by omega) (by omega) (by omega)
      have etm : wr .i64 (wr .i64 ((f : Int) + ((q + 1 : Nat) : Int)) - 1) = (f : Int) + (q : Int) := by
        rw [wrap_id (x := (f : Int) + ((q + 1 : Nat) : Int)) (by omega) (by omega), wrap_id (by omega) (by omega)]
        omega
      have hMo := e43 (a := (f : Int) + (q : Int)) (b := (c.length : Int)) (by omega) (by omega) (by omega) (by omega)
      have hm0 := Int.emod_nonneg ((f : Int) + (q : Int)) (show (c.length : Int) ≠ 0 by omega)
      have hm1 := Int.emod_lt_of_pos ((f : Int) + (q : Int)) (show 0 < (c.length : Int) by omega)
      have hol := feS_len c f m o q
      have eq1 : ((q + 1 : Nat) : Int).toNat - 1 = q := by omega
      have hck : decide (0 ≤ ((f : Int) + (q : Int)) % (c.length : Int) ∧ ((f : Int) + (q : Int)) % (c.length : Int) < ((feS c f m o q).length : Int)) = true := decide_eq_true ⟨hm0, by omega⟩
      have eq2 : (((q + 1 : Nat) : Int) + 1).toNat - 1 = q + 1 := by omega
      have hfs : feS c f m o (q + 1) = (feS c f m o q).set ((((f : Int) + (q : Int)) % c.length)).toNat (feV c f m ((q + 1 : Nat) : Int)) := rfl
      dsimp only
      rw [eq1]
      refine Round.yes (decide_eq_true (by omega)) (Round.bind (e44 c) ?_)
      rw [etm, w4, w3, w5, w6]
      refine Round.bind hMo (Round.bind hN (Round.chk hck ?_))
      obtain ⟨v, hv⟩ : ∃ v, (feS c f m o q)[(((f : Int) + (q : Int)) % c.length).toNat]? = some v := ⟨_, List.getElem?_eq_getElem (by omega)⟩
      simp only [hv, Option.bind_some]
      refine Round.inr _ ⟨(), ?_, trivial⟩
      rw [eq2, hks, hfs, hfv]
    · intro _ _
      have eq3 : ((m : Int) + 1).toNat - 1 = m := by omega
      dsimp only
      rw [eq3]
      refine Round.no (by simp; omega) (Round.inl _ ⟨(), ?_, trivial⟩)
      rw [hws, show ((i : Int) + 1).toNat = i + 1 by omega, hsn]
  · intro _ _
    rw [Int.toNat_natCast, List.take_length]
    dsimp only
    exact Round.no (by simp) (Round.done (Evt.some _))
/- laws.eqCam -/
theorem e9 (l : List Int) (hl : (l.length : Int) ≤ 140737488351232) : Evt (fun n => call T C n 9 (l, l, ())) ((true, ()), ()) := by
  refine Evt.next (Evt.no (by simp) ?_) (fun n => r9 n l l)
  refine for_evt 0 (l.length : Int) (fun i (_ : Unit) => (l, l, i, ())) (fun _ _ => True) (b0 := ()) (by omega) trivial ?_ ?_
  · intro i _ h2 h3 _
    obtain ⟨v, hv⟩ := at_of h2 h3
    refine Round.yes (decide_eq_true h3) (Round.at hv.idx (Round.at hv.idx (Round.no (by simp) (Round.again _ ⟨(), ?_, trivial⟩))))
    rw [wr_succ h2 h3 (by omega)]
  · intro _ _
    exact Round.no (by simp) (Round.done (Evt.some _))
/- laws.eqBoolS -/
theorem e10 (l : List Bool) (hl : (l.length : Int) ≤ 4000000) : Evt (fun n => call T C n 10 (l, l, ())) ((true, ()), ()) := by
  refine Evt.next (Evt.no (by simp) ?_) (fun n => r10 n l l)
  refine for_evt 0 (l.length : Int) (fun i (_ : Unit) => (l, l, i, ())) (fun _ _ => True) (b0 := ()) (by omega) trivial ?_ ?_
  · intro i _ h2 h3 _
    obtain ⟨v, hv⟩ := at_of h2 h3
    refine Round.yes (decide_eq_true h3) (Round.at hv.idx (Round.at hv.idx (Round.no (by simp) (Round.again _ ⟨(), ?_, trivial⟩))))
    rw [wr_succ h2 h3 (by omega)]
  · intro _ _
    exact Round.no (by simp) (Round.done (Evt.some _))
/- laws.markCam -/
theorem e11 (l : List Int) (k : Int) (h0 : 0 ≤ k) (h1 : k + l.length ≤ 4611686018427387904) : Evt (fun n => call T C n 11 (l, k, ())) ((k + l.length, ()), (mkL (wr .i16) l.length k, ())) := by
  refine Evt.next ?_ (fun n => r11 n l k)
  refine for_evt' 0 (l.length : Int) (fun i (b : List Int) => (b, k + i, i, ())) (fun i b => b.length = l.length ∧ b.take i.toNat = mkL (wr .i16) i.toNat k) (b0 := l) (by simp) (by omega) ⟨rfl, by simp [mkL]⟩ ?_ ?_
  · intro i b h2 h3 ⟨hb, ht⟩
    have hi : i < (b.length : Int) := by omega
    obtain ⟨u, hu⟩ := get_of_lt h2 hi
    refine Round.yes (decide_eq_true hi) (Round.chk (chk_at h2 hi) (Round.at hu (Round.again _ ⟨b.set i.toNat (wr .i16 (k + i)), ?_, by simpa using hb, ?_⟩)))
    · rw [wrap_id (x := k + i + 1) (by omega) (by omega), wrap_id (x := i + 1) (by omega) (by omega)]
      simp only [Int.add_assoc, id_eq]
    · rw [take_set_succ h2 hi, ht, show (i + 1).toNat = i.toNat + 1 by omega, mkL_succ, show ((i.toNat : Nat) : Int) = i by omega]
  · intro b ⟨hb, ht⟩
    have e : b = mkL (wr .i16) l.length k := by rw [← take_all b, hb, ht]; simp
    rw [← e]
    exact Round.no (by simp [hb]) (Round.done (Evt.some _))
/- laws.markBoolS -/
theorem e12 (l : List Bool) (k : Int) (h0 : 0 ≤ k) (h1 : k + l.length ≤ 4611686018427387904) (hl : (l.length : Int) ≤ 4000000) : Evt (fun n => call T C n 12 (l, k, ())) ((k + l.length, ()), (mkB l.length k, ())) := by
  refine Evt.next ?_ (fun n => r12 n l k)
  refine for_evt' 0 (l.length : Int) (fun i (b : List Bool) => (b, k + i, i, ())) (fun i b => b.length = l.length ∧ b.take i.toNat = mkB i.toNat k) (b0 := l) (by simp) (by omega) ⟨rfl, by simp [mkB]⟩ ?_ ?_
  · intro i b h2 h3 ⟨hb, ht⟩
    have hi : i < (b.length : Int) := by omega
    obtain ⟨u, hu⟩ := get_of_lt h2 hi
    refine Round.yes (decide_eq_true hi) (Round.chk (by decide) (Round.chk (chk_at h2 hi) (Round.at hu (Round.again _ ⟨b.set i.toNat (Int.tmod (k + i) 3 == 0), ?_, by simpa using hb, ?_⟩))))
    · rw [wrap_id (x := k + i + 1) (by omega) (by omega), wrap_id (x := i + 1) (by omega) (by omega)]
      simp only [Int.add_assoc]
    · rw [take_set_succ h2 hi, ht, show (i + 1).toNat = i.toNat + 1 by omega, mkB_succ, show ((i.toNat : Nat) : Int) = i by omega]
  · intro b ⟨hb, ht⟩
    have e : b = mkB l.length k := by rw [← take_all b, hb, ht]; simp
    rw [← e]
    exact Round.no (by simp [hb]) (Round.done (Evt.some _))
/- laws.heldCam -/
theorem e13 (m : Nat) (k : Int) (h0 : 0 ≤ k) (h1 : k + m ≤ 4611686018427387904) : Evt (fun n => call T C n 13 (mkL (wr .i16) m k, k, ())) ((k + m, ()), ()) := by
  refine Evt.next ?_ (fun n => r13 n _ k)
  refine for_evt' 0 (m : Int) (fun i (_ : Unit) => (mkL (wr .i16) m k, k + i, i, ())) (fun _ _ => True) (b0 := ()) (by simp) (by omega) trivial ?_ ?_
  · intro i _ h2 h3 _
    obtain ⟨v, hv⟩ := at_of (l := mkL (wr .i16) m k) h2 (by rw [mkL_len]; exact h3)
    have e := mkL_at (wr .i16) m k hv h2
    refine Round.yes (by rw [mkL_len]; exact decide_eq_true h3) (Round.at hv.idx (Round.no (by simp [e]) (Round.again _ ⟨(), ?_, trivial⟩)))
    rw [wrap_id (x := k + i + 1) (by omega) (by omega), wrap_id (x := i + 1) (by omega) (by omega)]
    simp only [Int.add_assoc]
  · intro _ _
    exact Round.no (by simp [mkL_len]) (Round.done (Evt.some _))
/- laws.FnExactFillEven -/
theorem e3 (c : List Int) (h : List Bool) (hd : DomA (C 3).params (c, h, ())) : Evt (fun n => call T C n 3 (c, h, ())) ((true, ()), ()) := by
  have hr : Rng c := rng_of hd.1
  have hl := hr.len'
  have hn := feR_len c h
  refine Evt.next ?_ (fun n => r3 n c h)
  refine Evt.ite (fun _ => Evt.some _) (fun _ => Evt.ite (fun _ => Evt.some _) (fun hh => ?_))
  have hh : (h.length : Int) ≤ 1048576 := by simpa using hh
  have to := e6 c hr.len
  have to2 := e7 h (by omega)
  have eqn := e9 (feR c h).1 (by omega)
  have held := e13 (feR c h).1.length 1 (by omega) (by omega)
  refine Evt.bind to (Evt.bind to2 (Evt.bind (e5 hr h) (Evt.bind to (Evt.bind to2 (Evt.bind (e8 hr h (by omega)) (Evt.bind eqn (Evt.no (by simp) (Evt.no (by simp) (Evt.bind to (Evt.bind (e9 c (by omega)) (Evt.no (by simp) (Evt.bind to2 (Evt.bind (e10 h (by omega)) (Evt.no (by simp) ?_))))))))))))))
  refine Evt.bind (e11 c 1 (by omega) (by omega)) (Evt.bind (e12 h (1 + c.length) (by omega) (by omega) (by omega)) (Evt.no (by simp; omega) (Evt.bind eqn (Evt.no (by simp) (Evt.no (by simp) (Evt.bind (e11 (feR c h).1 1 (by omega) (by omega)) (Evt.bind held (Evt.no (by simp; omega) (Evt.no (by simp) ?_)))))))))
  exact Evt.bind to (Evt.bind to2 (Evt.bind (e8 hr h (by omega)) (Evt.bind eqn (Evt.no (by simp) (Evt.no (by simp) (Evt.bind held (Evt.no (by simp; omega) (Evt.no (by simp) (Evt.some _)))))))))

end Go.Cams.YtpfgohcppijiiaaLFe
