/- Stops that are planned, in plain terms. -/
import Derived.Test.YtdhgdfofgeccgaaPu13
namespace Go.Cams
open Go Go.Fw
abbrev Stk : Type := List Mk
def gM (L : List Mk) (i : Nat) : Mk := L.getD i []
theorem gM_idx {L : List Mk} {i : Int} (h0 : 0 ≤ i) (h1 : i < L.length) : At L i (gM L i.toNat) := by
  obtain ⟨v, hv⟩ := at_of (l := L) h0 h1
  have : gM L i.toNat = v := getD_at hv
  rw [this]; exact hv
theorem lineM_get {a b : Mk} (hn : far a b ≠ 0) {i : Nat} (h : i < (far a b + 1).toNat) : gM (lineM a b) i = ptM a b (i : Nat) := by
  unfold gM lineM
  rw [if_neg hn, List.getD_eq_getElem?_getD, List.getElem?_map, List.getElem?_range h]
  rfl
theorem lineM_length {a b : Mk} (ha : OnP a) (hb : OnP b) : ((lineM a b).length : Int) = far a b + 1 := by
  obtain ⟨f0, _, _⟩ := far_bd ha hb
  unfold lineM
  split
  · rename_i h; rw [h]; rfl
  · simp; omega
theorem far_zero {a b : Mk} (ha : OnP a) (hb : OnP b) (h : far a b = 0) : a = b := by
  obtain ⟨_, _, f2⟩ := far_bd ha hb
  have h0 := f2 0 (.inl rfl)
  have h1 := f2 1 (.inr rfl)
  rw [ha.eq, hb.eq]
  rw [show g a 0 = g b 0 by omega, show g a 1 = g b 1 by omega]
theorem nr_full {d n : Int} (hn : 0 < n) (k : Int) (hd : d = n ∨ d = -n) : nr (k * d) n = if d = n then k else -k := by
  unfold nr
  rcases hd with rfl | rfl
  · rw [if_pos rfl, show 2 * (k * d) + d = d + (2 * d) * k by rw [Int.mul_assoc, Int.mul_comm d k]; omega, Int.add_mul_ediv_left _ _ (by omega), Int.ediv_eq_zero_of_lt (by omega) (by omega)]; omega
  · rw [if_neg (by omega), show 2 * (k * -n) + n = n + (2 * n) * (-k) by rw [Int.mul_neg k n, Int.mul_neg 2 (k * n), Int.mul_neg (2 * n) k, Int.mul_assoc, Int.mul_comm n k]; omega, Int.add_mul_ediv_left _ _ (by omega), Int.ediv_eq_zero_of_lt (by omega) (by omega)]; omega
theorem nr_end {d n : Int} (hn : 0 < n) : nr (n * d) n = d := by
  unfold nr
  rw [show 2 * (n * d) + n = n + (2 * n) * d by rw [Int.mul_assoc]; omega, Int.add_mul_ediv_left _ _ (by omega), Int.ediv_eq_zero_of_lt (by omega) (by omega)]; omega
theorem nr_step {d n k : Int} (hn : 0 < n) (h1 : -n ≤ d) (h2 : d ≤ n) : -1 ≤ nr ((k + 1) * d) n - nr (k * d) n ∧ nr ((k + 1) * d) n - nr (k * d) n ≤ 1 := by
  unfold nr
  rw [Int.add_mul, Int.one_mul]
  obtain ⟨e, he⟩ : ∃ e, e = k * d := ⟨_, rfl⟩
  rw [← he]
  have a := Int.ediv_le_ediv (c := 2 * n) (by omega) (show 2 * (e + d) + n ≤ (2 * e + n) + 2 * n * 1 by omega)
  rw [Int.add_mul_ediv_left _ _ (by omega)] at a
  have b := Int.ediv_le_ediv (c := 2 * n) (by omega) (show (2 * e + n) + 2 * n * (-1) ≤ 2 * (e + d) + n by omega)
  rw [Int.add_mul_ediv_left _ _ (by omega)] at b
  omega
theorem ptM_end {a b : Mk} (ha : OnP a) (hb : OnP b) (hn : far a b ≠ 0) : ptM a b (far a b) = b := by
  obtain ⟨f0, _, _⟩ := far_bd ha hb
  have h : ∀ i, pt a b (far a b) i = g b i := fun i => by
    unfold pt
    rw [nr_end (by omega)]; omega
  unfold ptM
  rw [h, h]
  exact hb.eq.symm
theorem lineM_one {a b : Mk} (ha : OnP a) (hb : OnP b) (h : far a b = 1) : lineM a b = [a, b] := by
  have h0 := ptM_zero ha hb (by omega)
  have h1 := ptM_end ha hb (by omega)
  rw [h] at h1
  unfold lineM
  rw [if_neg (by omega), h]
  show [ptM a b ((0 : Nat) : Int), ptM a b ((1 : Nat) : Int)] = _
  rw [show ((0 : Nat) : Int) = 0 from rfl, show ((1 : Nat) : Int) = 1 from rfl, h0, h1]
theorem line_step {a b : Mk} (ha : OnP a) (hb : OnP b) {i : Nat} (h : (i : Int) < far a b) : lineM (gM (lineM a b) i) (gM (lineM a b) (i + 1)) = [gM (lineM a b) i, gM (lineM a b) (i + 1)] := by
  obtain ⟨f0, f1, f2⟩ := far_bd ha hb
  have hn : far a b ≠ 0 := by omega
  rw [lineM_get hn (by omega), lineM_get hn (by omega)]
  have p0 := onP_pair (pt_bd ha hb hn (k := (i : Nat)) (by omega) (by omega) (.inl rfl)) (pt_bd ha hb hn (k := (i : Nat)) (by omega) (by omega) (.inr rfl))
  have p1 := onP_pair (pt_bd ha hb hn (k := ((i + 1 : Nat) : Int)) (by omega) (by omega) (.inl rfl)) (pt_bd ha hb hn (k := ((i + 1 : Nat) : Int)) (by omega) (by omega) (.inr rfl))
  refine lineM_one p0 p1 ?_
  have s0 := nr_step (k := (i : Int)) (show 0 < far a b by omega) (f2 0 (.inl rfl)).1 (f2 0 (.inl rfl)).2
  have s1 := nr_step (k := (i : Int)) (show 0 < far a b by omega) (f2 1 (.inr rfl)).1 (f2 1 (.inr rfl)).2
  have e0 : pt a b ((i + 1 : Nat) : Int) 0 - pt a b (i : Int) 0 = nr (((i : Int) + 1) * (g b 0 - g a 0)) (far a b) - nr ((i : Int) * (g b 0 - g a 0)) (far a b) := by
    unfold pt
    rw [show ((i + 1 : Nat) : Int) = (i : Int) + 1 by omega]; omega
  have e1 : pt a b ((i + 1 : Nat) : Int) 1 - pt a b (i : Int) 1 = nr (((i : Int) + 1) * (g b 1 - g a 1)) (far a b) - nr ((i : Int) * (g b 1 - g a 1)) (far a b) := by
    unfold pt
    rw [show ((i + 1 : Nat) : Int) = (i : Int) + 1 by omega]; omega
  have full : ∀ d, d = far a b ∨ d = -far a b → nr (((i : Int) + 1) * d) (far a b) - nr ((i : Int) * d) (far a b) = 1 ∨ nr (((i : Int) + 1) * d) (far a b) - nr ((i : Int) * d) (far a b) = -1 := fun d hd => by
    rw [nr_full (by omega) _ hd, nr_full (by omega) _ hd]
    split <;> omega
  have ef : far a b = max (siz (g a 0 - g b 0)) (siz (g a 1 - g b 1)) := rfl
  have d0 : siz (g a 0 - g b 0) = if g a 0 - g b 0 < 0 then -(g a 0 - g b 0) else g a 0 - g b 0 := rfl
  have d1 : siz (g a 1 - g b 1) = if g a 1 - g b 1 < 0 then -(g a 1 - g b 1) else g a 1 - g b 1 := rfl
  show max (siz (pt a b (i : Int) 0 - pt a b ((i + 1 : Nat) : Int) 0)) (siz (pt a b (i : Int) 1 - pt a b ((i + 1 : Nat) : Int) 1)) = 1
  have h3 : ∀ x, siz x = if x < 0 then -x else x := fun _ => rfl
  rw [h3, h3]
  have hor : g b 0 - g a 0 = far a b ∨ g b 0 - g a 0 = -far a b ∨ g b 1 - g a 1 = far a b ∨ g b 1 - g a 1 = -far a b := by
    split at d0 <;> split at d1 <;> omega
  rcases hor with hh | hh | hh | hh
  · have := full _ (.inl hh)
    split <;> split <;> omega
  · have := full _ (.inr hh)
    split <;> split <;> omega
  · have := full _ (.inl hh)
    split <;> split <;> omega
  · have := full _ (.inr hh)
    split <;> split <;> omega
theorem seg_two {L : List Mk} {i : Nat} (h : i + 1 < L.length) : (L.take (i + 2)).drop i = [gM L i, gM L (i + 1)] := by
  have e0 : L[i]? = some (gM L i) := by unfold gM; rw [List.getD_eq_getElem?_getD, List.getElem?_eq_getElem (by omega)]; rfl
  have e1 : L[i + 1]? = some (gM L (i + 1)) := by unfold gM; rw [List.getD_eq_getElem?_getD, List.getElem?_eq_getElem (by omega)]; rfl
  rw [List.take_add_one, List.take_add_one, e0, e1]
  simp only [Option.toList_some, List.append_assoc]
  rw [List.drop_append_of_le_length (by simp; omega), List.drop_of_length_le (by simp; omega)]
  rfl
/-- The place to go to: as far as the line is the same. -/
def bkJ (L : List Mk) (i : Nat) : Nat → Nat
  | 0 => 0
  | j + 1 => if lineM (gM L i) (gM L (j + 1)) = (L.take (j + 2)).drop i then j + 1 else bkJ L i j
theorem bkJ_le (L : List Mk) (i : Nat) : ∀ j, bkJ L i j ≤ j
  | 0 => Nat.le_refl _
  | j + 1 => by
    unfold bkJ
    split
    · exact Nat.le_refl _
    · have := bkJ_le L i j; omega
theorem bkJ_gt {a b : Mk} (ha : OnP a) (hb : OnP b) {i : Nat} (h : (i : Int) < far a b) : ∀ j, i < j → j < (lineM a b).length → i < bkJ (lineM a b) i j
  | 0, hj, _ => by omega
  | j + 1, hj, hl => by
    unfold bkJ
    split
    · exact hj
    · rename_i hc
      by_cases e : i = j
      · subst e
        exact absurd (by rw [line_step ha hb h, seg_two hl]) hc
      · exact bkJ_gt ha hb h j (by omega) (by omega)
def toJ (most : Nat) (down : Bool) (L : List Mk) (i : Nat) : Nat := if down = true then bkJ L i (min (i + most) (L.length - 1)) else min (i + most) (L.length - 1)
def goF (most : Nat) (down : Bool) (L : List Mk) : Nat → Nat → List Stp
  | 0, _ => []
  | f + 1, i => if i < L.length - 1 then (gM L (toJ most down L i), down, ()) :: goF most down L f (toJ most down L i) else []
theorem goF_len (most : Nat) (down : Bool) (L : List Mk) : ∀ f i, (goF most down L f i).length ≤ f
  | 0, _ => Nat.le_refl _
  | f + 1, i => by
    unfold goF
    split
    · have := goF_len most down L f (toJ most down L i)
      rw [List.length_cons]; omega
    · simp
theorem toJ_bd {most : Nat} (hm : 1 ≤ most) (down : Bool) {a b : Mk} (ha : OnP a) (hb : OnP b) {i : Nat} (h : i < (lineM a b).length - 1) : i < toJ most down (lineM a b) i ∧ toJ most down (lineM a b) i ≤ (lineM a b).length - 1 := by
  have hl := lineM_length ha hb
  unfold toJ
  split
  · have h1 := bkJ_gt ha hb (i := i) (by omega) (min (i + most) ((lineM a b).length - 1)) (by omega) (by omega)
    have h2 := bkJ_le (lineM a b) i (min (i + most) ((lineM a b).length - 1))
    omega
  · omega
def goL (most : Nat) (down : Bool) (a b : Mk) : List Stp := goF most down (lineM a b) 64 0
theorem goL_len (most : Nat) (down : Bool) (a b : Mk) : (goL most down a b).length ≤ 64 := goF_len _ _ _ _ _
theorem goF_last (most : Nat) (down : Bool) (L : List Mk) (f : Nat) {i : Nat} (h : ¬ i < L.length - 1) : goF most down L f i = [] := by
  cases f with
  | zero => rfl
  | succ f => unfold goF; rw [if_neg h]
theorem line_last {a b : Mk} (ha : OnP a) (hb : OnP b) : gM (lineM a b) ((lineM a b).length - 1) = b := by
  have hl := lineM_length ha hb
  obtain ⟨f0, _, _⟩ := far_bd ha hb
  by_cases hn : far a b = 0
  · have := far_zero ha hb hn
    subst this
    rw [lineM_same]; rfl
  · rw [lineM_get hn (by omega), show (((lineM a b).length - 1 : Nat) : Int) = far a b by omega, ptM_end ha hb hn]
/-! ### Strokes -/
structure RngT (K : List Stk) : Prop where
  len : (K.length : Int) * 24 ≤ 140737488351232
  el : ∀ s ∈ K, (s.length : Int) * 4 ≤ 140737488351232 ∧ ∀ m ∈ s, m.length = 2 ∧ ∀ v ∈ m, -32768 ≤ v ∧ v ≤ 32767
def okMk (m : Mk) : Bool := inR (wr .i64 (g m 0)) 0 63 && inR (wr .i64 (g m 1)) 0 63
def okSk (s : Stk) : Bool := inR (s.length : Int) 1 60 && s.all okMk
def skCode (K : List Stk) : Int := if K.all okSk = false then 1 else if (K.length : Int) > 20 then 3 else 0
theorem okMk_on {m : Mk} (h2 : m.length = 2) (hr : ∀ v ∈ m, -32768 ≤ v ∧ v ≤ 32767) (h : okMk m = true) : OnP m := by
  simp only [okMk, Bool.and_eq_true, inR_iff] at h
  have a := hr _ (g_mem (l := m) (i := 0) (by omega))
  have b := hr _ (g_mem (l := m) (i := 1) (by omega))
  rw [wrap_id (by omega) (by omega), wrap_id (by omega) (by omega)] at h
  exact ⟨h2, h.1, h.2⟩
structure GoodT (K : List Stk) : Prop where
  len : (K.length : Int) ≤ 20
  el : ∀ s ∈ K, (1 ≤ (s.length : Int) ∧ (s.length : Int) ≤ 60) ∧ ∀ m ∈ s, OnP m
theorem goodT {K : List Stk} (hr : RngT K) (h : skCode K = 0) : GoodT K := by
  unfold skCode at h
  split at h
  · exact absurd h (by decide)
  · rename_i h1
    split at h
    · exact absurd h (by decide)
    · rename_i h2
      have h1 : K.all okSk = true := by simpa using h1
      refine ⟨by omega, fun s hs => ?_⟩
      have := List.all_eq_true.1 h1 s hs
      simp only [okSk, Bool.and_eq_true, inR_iff, List.all_eq_true] at this
      exact ⟨this.1, fun m hm => okMk_on ((hr.el s hs).2 m hm).1 ((hr.el s hs).2 m hm).2 (this.2 m hm)⟩
def drF (most : Nat) (st : Mk × List Stp) (m : Mk) : Mk × List Stp := (m, st.2 ++ goL most true st.1 m)
def stF (most : Nat) (st : Mk × List Stp) (s : Stk) : Mk × List Stp := (s.drop 1).foldl (drF most) (gM s 0, st.2 ++ goL most false st.1 (gM s 0) ++ [(gM s 0, true, ())])
def o0 : Mk := List.replicate 2 0
theorem o0_on : OnP o0 := ⟨rfl, ⟨by decide, by decide⟩, ⟨by decide, by decide⟩⟩
def plF (most : Nat) (K : List Stk) : Mk × List Stp := K.foldl (stF most) (o0, [])
def plP (most : Nat) (K : List Stk) : List Stp := (plF most K).2 ++ goL most false (plF most K).1 o0
theorem drF_on {most : Nat} {l : List Mk} (h : ∀ m ∈ l, OnP m) : ∀ {st : Mk × List Stp}, OnP st.1 → OnP (l.foldl (drF most) st).1 ∧ (l.foldl (drF most) st).2.length ≤ st.2.length + 64 * l.length := by
  induction l with
  | nil => intro st hs; exact ⟨hs, by simp⟩
  | cons m l ih =>
    intro st hs
    have hm := h m List.mem_cons_self
    obtain ⟨a, b⟩ := ih (fun x hx => h x (List.mem_cons_of_mem _ hx)) (st := drF most st m) hm
    refine ⟨a, ?_⟩
    have := goL_len most true st.1 m
    simp only [List.foldl_cons, drF, List.length_append, List.length_cons] at b ⊢
    omega
theorem stF_on {most : Nat} {s : Stk} (h1 : 1 ≤ (s.length : Int)) (h60 : (s.length : Int) ≤ 60) (h : ∀ m ∈ s, OnP m) {st : Mk × List Stp} (hs : OnP st.1) : OnP (stF most st s).1 ∧ (stF most st s).2.length ≤ st.2.length + 4000 := by
  have h0 : OnP (gM s 0) := h _ (gM_idx (L := s) (i := 0) (Int.le_refl _) (by omega)).mem
  obtain ⟨a, b⟩ := drF_on (most := most) (l := s.drop 1) (fun m hm => h m (List.mem_of_mem_drop hm)) (st := (gM s 0, st.2 ++ goL most false st.1 (gM s 0) ++ [(gM s 0, true, ())])) h0
  refine ⟨a, ?_⟩
  have := goL_len most false st.1 (gM s 0)
  have e : (stF most st s) = (s.drop 1).foldl (drF most) (gM s 0, st.2 ++ goL most false st.1 (gM s 0) ++ [(gM s 0, true, ())]) := rfl
  rw [e]
  simp only [List.length_append, List.length_cons, List.length_nil, List.length_drop] at b
  omega
theorem plF_on {most : Nat} {K : List Stk} (G : ∀ s ∈ K, (1 ≤ (s.length : Int) ∧ (s.length : Int) ≤ 60) ∧ ∀ m ∈ s, OnP m) : OnP (plF most K).1 ∧ (plF most K).2.length ≤ 4000 * K.length := by
  have : ∀ (l : List Stk) (st : Mk × List Stp), (∀ s ∈ l, (1 ≤ (s.length : Int) ∧ (s.length : Int) ≤ 60) ∧ ∀ m ∈ s, OnP m) → OnP st.1 → OnP (l.foldl (stF most) st).1 ∧ (l.foldl (stF most) st).2.length ≤ st.2.length + 4000 * l.length := by
    intro l
    induction l with
    | nil => intro st _ h; exact ⟨h, by simp⟩
    | cons s l ih =>
      intro st hl h
      obtain ⟨a, b⟩ := hl s List.mem_cons_self
      obtain ⟨c, d⟩ := stF_on (most := most) a.1 a.2 b h
      obtain ⟨e, f⟩ := ih (stF most st s) (fun x hx => hl x (List.mem_cons_of_mem _ hx)) c
      refine ⟨e, ?_⟩
      simp only [List.foldl_cons, List.length_cons]
      omega
  obtain ⟨a, b⟩ := this K (o0, []) G o0_on
  exact ⟨a, by show (K.foldl (stF most) (o0, [])).2.length ≤ _; simpa using b⟩
abbrev R4' : Type := List Stp × (Int × Unit)
def psR (K : List Stk) (most : Int) : R4' := if skCode K ≠ 0 then ([], skCode K, ()) else if inR most 1 63 = false then ([], 2, ()) else if ((plP most.toNat K).length : Int) > 360 then ([], 4, ()) else (plP most.toNat K, 0, ())
theorem psR_len (K : List Stk) (most : Int) : ((psR K most).1.length : Int) ≤ 360 := by
  unfold psR
  split
  · simp
  split
  · simp
  split
  · simp
  · rename_i h
    show ((plP most.toNat K).length : Int) ≤ 360
    omega
theorem goF_el {most : Nat} (hm : 1 ≤ most) (down : Bool) {a b : Mk} (ha : OnP a) (hb : OnP b) : ∀ f i, ∀ v ∈ goF most down (lineM a b) f i, v.1.length = 2
  | 0, _, v, hv => by cases hv
  | f + 1, i, v, hv => by
    unfold goF at hv
    split at hv
    · rename_i h
      have hj := toJ_bd hm down ha hb h
      rcases List.mem_cons.1 hv with rfl | hv
      · exact (lineM_on ha hb _ (gM_idx (L := lineM a b) (i := ((toJ most down (lineM a b) i : Nat) : Int)) (by omega) (by omega)).mem).len
      · exact goF_el hm down ha hb f _ v hv
    · cases hv
theorem plP_el {most : Nat} (hm : 1 ≤ most) {K : List Stk} (G : ∀ s ∈ K, (1 ≤ (s.length : Int) ∧ (s.length : Int) ≤ 60) ∧ ∀ m ∈ s, OnP m) : ∀ v ∈ plP most K, v.1.length = 2 := by
  have h1 : ∀ (l : List Mk) (st : Mk × List Stp), (∀ m ∈ l, OnP m) → OnP st.1 → (∀ v ∈ st.2, v.1.length = 2) → ∀ v ∈ (l.foldl (drF most) st).2, v.1.length = 2 := by
    intro l
    induction l with
    | nil => intro st _ _ h; exact h
    | cons m l ih =>
      intro st hl hs h
      have hmm := hl m List.mem_cons_self
      refine ih (drF most st m) (fun x hx => hl x (List.mem_cons_of_mem _ hx)) hmm (fun v hv => ?_)
      rcases List.mem_append.1 hv with hv | hv
      · exact h v hv
      · exact goF_el hm true hs hmm 64 0 v hv
  have h2 : ∀ (l : List Stk) (st : Mk × List Stp), (∀ s ∈ l, (1 ≤ (s.length : Int) ∧ (s.length : Int) ≤ 60) ∧ ∀ m ∈ s, OnP m) → OnP st.1 → (∀ v ∈ st.2, v.1.length = 2) → ∀ v ∈ (l.foldl (stF most) st).2, v.1.length = 2 := by
    intro l
    induction l with
    | nil => intro st _ _ h; exact h
    | cons s l ih =>
      intro st hl hs h
      obtain ⟨a, b⟩ := hl s List.mem_cons_self
      have h0 : OnP (gM s 0) := b _ (gM_idx (L := s) (i := 0) (Int.le_refl _) (by omega)).mem
      refine ih (stF most st s) (fun x hx => hl x (List.mem_cons_of_mem _ hx)) (stF_on a.1 a.2 b hs).1 (h1 _ _ (fun m hm => b m (List.mem_of_mem_drop hm)) h0 (fun v hv => ?_))
      rcases List.mem_append.1 hv with hv | hv
      · rcases List.mem_append.1 hv with hv | hv
        · exact h v hv
        · exact goF_el hm false hs h0 64 0 v hv
      · have : v = (gM s 0, true, ()) := by simpa using hv
        rw [this]; exact h0.len
  intro v hv
  rcases List.mem_append.1 hv with hv | hv
  · exact h2 K (o0, []) G o0_on (fun v hv => by cases hv) v hv
  · exact goF_el hm false (plF_on G).1 o0_on 64 0 v hv
theorem psR_el {K : List Stk} (hr : RngT K) (most : Int) : ∀ v ∈ (psR K most).1, v.1.length = 2 := by
  unfold psR
  split
  · intro v hv; cases hv
  rename_i hc
  split
  · intro v hv; cases hv
  rename_i hm
  split
  · intro v hv; cases hv
  · have hm : inR most 1 63 = true := by simpa using hm
    have hm := inR_iff.1 hm
    have hc : skCode K = 0 := by simpa using hc
    exact plP_el (by omega) (goodT hr hc).el
/-! ### Sizes and marks -/
def shad (s : Stk) : List Int := s.map fun _ => 0
theorem shad_len (s : Stk) : (shad s).length = s.length := by simp [shad]
theorem rngT_of {K : List Stk} (h : Dom (.slc (.slc (.arr 2 (.int .i16)))) K) : RngT K := by
  refine ⟨Int.ofNat_le.2 h.1, fun s hs => ?_⟩
  have h2 := h.2 s hs
  refine ⟨Int.ofNat_le.2 h2.1, fun m hm => ?_⟩
  have h3 := h2.2 m hm
  exact ⟨h3.1, fun v hv => h3.2 v hv⟩
theorem RngT.len' {K : List Stk} (h : RngT K) : (K.length : Int) ≤ 5864062014635 := by have := h.len; omega
theorem RngT.shad {K : List Stk} (h : RngT K) : RngS (K.map shad) := by
  refine ⟨by rw [List.length_map]; exact h.len, fun k hk => ?_⟩
  obtain ⟨s, hs, rfl⟩ := List.mem_map.1 hk
  have := (h.el s hs).1
  refine ⟨by rw [shad_len]; omega, fun v hv => ?_⟩
  simp only [Cams.shad, List.mem_map] at hv
  obtain ⟨_, _, rfl⟩ := hv
  omega
def totT (K : List Stk) : Int := totL (K.map shad)
theorem totT_snoc (K : List Stk) (s : Stk) : totT (K ++ [s]) = totT K + s.length := by
  unfold totT
  rw [List.map_append, totL_append]
  simp [totL, shad_len]
theorem totT_take (K : List Stk) (i : Nat) : totT (K.take i) ≤ totT K := by
  unfold totT
  have := totL_take (K.map shad) i
  have h2 := totL_nonneg ((K.map shad).drop i)
  rw [List.map_take]
  omega
theorem totT_nonneg (K : List Stk) : 0 ≤ totT K := totL_nonneg _
def mkSk (n : Nat) (k : Int) : Stk := (List.range n).map fun i => [wr .i16 (k + 2 * (i : Nat)), wr .i16 (k + 2 * (i : Nat) + 1)]
theorem mkSk_succ (n : Nat) (k : Int) : mkSk (n + 1) k = mkSk n k ++ [[wr .i16 (k + 2 * (n : Nat)), wr .i16 (k + 2 * (n : Nat) + 1)]] := by simp [mkSk, List.range_succ]
def mkTs : List Stk → Int → List Stk
  | [], _ => []
  | s :: l, k => mkSk s.length k :: mkTs l (k + 2 * s.length)
theorem mkTs_snoc : ∀ (l : List Stk) (v : Stk) (k : Int), mkTs (l ++ [v]) k = mkTs l k ++ [mkSk v.length (k + 2 * totT l)]
  | [], v, k => by simp [mkTs, totT, totL]
  | r :: l, v, k => by
    have := mkTs_snoc l v (k + 2 * r.length)
    have e : totT (r :: l) = r.length + totT l := by unfold totT; rw [List.map_cons, totL_cons, shad_len]
    simp only [List.cons_append, mkTs, this, e, Int.mul_add, Int.add_assoc]
def mkSp (n : Nat) (k : Int) : List Stp := (List.range n).map fun i => ([wr .i16 (k + 3 * (i : Nat)), wr .i16 (k + 3 * (i : Nat) + 1)], (Int.tmod (k + 3 * (i : Nat) + 1 + 1) 3 == 0), ())
theorem mkSp_len (n : Nat) (k : Int) : (mkSp n k).length = n := by simp [mkSp]
theorem mkSp_succ (n : Nat) (k : Int) : mkSp (n + 1) k = mkSp n k ++ [([wr .i16 (k + 3 * (n : Nat)), wr .i16 (k + 3 * (n : Nat) + 1)], (Int.tmod (k + 3 * (n : Nat) + 1 + 1) 3 == 0), ())] := by simp [mkSp, List.range_succ]
theorem mkSp_at (n : Nat) (k : Int) {i : Int} {v : Stp} (h : At (mkSp n k) i v) (h0 : 0 ≤ i) : v = ([wr .i16 (k + 3 * i), wr .i16 (k + 3 * i + 1)], (Int.tmod (k + 3 * i + 1 + 1) 3 == 0), ()) := by
  have := h.get
  unfold mkSp at this
  rw [List.getElem?_map] at this
  cases hr : (List.range n)[i.toNat]? with
  | none => rw [hr] at this; cases this
  | some j =>
    rw [hr] at this
    simp only [Option.map_some, Option.some.injEq] at this
    have hj : j = i.toNat := by
      rw [List.getElem?_eq_some_iff] at hr
      obtain ⟨hl, e⟩ := hr
      rw [List.getElem_range] at e
      exact e.symm
    rw [← this, hj, show ((i.toNat : Nat) : Int) = i by omega]
theorem len2 {m : Mk} (h : m.length = 2) : m = [g m 0, g m 1] := by
  match m, h with
  | [x, y], _ => rfl
end Go.Cams
