/- What the functions compute, in plain terms: definitions and laws of lists and numbers, no program in sight. -/
import Derived.Test.YtjeakogmccogmaaDoorPuAlla
import Derived.Lib.ItoaLen
import Derived.Lib.ItoaMem
import Derived.Lib.Join
/- Fillings that are put into cams, and repairs, in plain terms. -/
namespace Go.Cams
open Go Go.Fw
/-- Lifts that are put into a cam from a step on. -/
def putP : List Int → Int → List Int → List Int
  | c, _, [] => c
  | c, f, v :: r => putP (c.set (f % c.length).toNat (wr .i16 v)) (f + 1) r
theorem putP_len : ∀ (l : List Int) (c : List Int) (f : Int), (putP c f l).length = c.length
  | [], c, f => rfl
  | v :: r, c, f => by
    show (putP (c.set (f % c.length).toNat (wr .i16 v)) (f + 1) r).length = _
    rw [putP_len r, List.length_set]
theorem putP_all {Q : Int → Prop} : ∀ (l : List Int) (c : List Int) (f : Int), (∀ v ∈ c, Q v) → (∀ v ∈ l, Q (wr .i16 v)) → ∀ v ∈ putP c f l, Q v
  | [], c, f, hc, _ => hc
  | a :: r, c, f, hc, hl => by
    show ∀ v ∈ putP (c.set (f % c.length).toNat (wr .i16 a)) (f + 1) r, Q v
    refine putP_all r _ _ (fun v hv => ?_) fun v hv => hl v (by simp [hv])
    rcases List.mem_or_eq_of_mem_set hv with h | h
    · exact hc v h
    · rw [h]; exact hl a (by simp)
theorem putP_snoc : ∀ (l : List Int) (c : List Int) (f v : Int), putP c f (l ++ [v]) = (putP c f l).set ((f + l.length) % c.length).toNat (wr .i16 v)
  | [], c, f, v => by show c.set _ _ = _; rw [show (f + (([] : List Int).length : Int)) = f by simp]; rfl
  | a :: r, c, f, v => by
    show putP (c.set (f % c.length).toNat (wr .i16 a)) (f + 1) (r ++ [v]) = (putP (c.set (f % c.length).toNat (wr .i16 a)) (f + 1) r).set _ _
    rw [putP_snoc r, List.length_set, show f + 1 + (r.length : Int) = f + ((a :: r).length : Int) by simp only [List.length_cons]; omega]
theorem wr16_in (v : Int) : -32768 ≤ wr .i16 v ∧ wr .i16 v ≤ 32767 := by
  show -32768 ≤ IntKind.i16.wrap v ∧ IntKind.i16.wrap v ≤ 32767
  simp [IntKind.wrap, IntKind.bits, IntKind.signed]
  omega
theorem putP_rng {c : List Int} (h : Rng c) (f : Int) (l : List Int) : Rng (putP c f l) :=
  ⟨by rw [putP_len]; exact h.len, putP_all (Q := fun v => -32768 ≤ v ∧ v ≤ 32767) l c f h.el fun v _ => wr16_in v⟩
abbrev RLI3 : Type := List Int × (Int × (Int × Unit))
def ssR (c : List Int) (f m lo : Int) : RLI3 := if askP c f m lo 0 ≠ 0 then ([], 0, askP c f m lo 0, ()) else (putP c f (fillR c f m lo (lbV c f m lo)).1, lbV c f m lo, 0, ())
theorem ssR_len {c : List Int} (hr : Rng c) (f m lo : Int) : ((ssR c f m lo).1.length : Int) ≤ c.length := by
  unfold ssR
  split
  · simp
  · show ((putP c f _).length : Int) ≤ _
    rw [putP_len]; omega
/-- The bend at a step. -/
def bendP (c : List Int) (i : Int) : Int := cAt c (i + 1) - 2 * cAt c i + cAt c (i - 1)
/-- A step of a repair. -/
def rpS (b lo : Int) (s : List Int × List Int) (i : Nat) : List Int × List Int :=
  if siz (bendP s.1 i) ≤ b then s
  else if askP s.1 (((i : Int) - 1) % s.1.length) 3 lo b = 0 ∧ cq s.1 (((i : Int) - 1) % s.1.length) 3 lo b = true then (putP s.1 (((i : Int) - 1) % s.1.length) (filP s.1 (((i : Int) - 1) % s.1.length) 3 lo b), s.2 ++ [(i : Int)]) else s
def rp (b lo : Int) (c : List Int) : Nat → List Int × List Int
  | 0 => (c, [])
  | k + 1 => rpS b lo (rp b lo c k) k
theorem fil_el {q : Nat → Nat → Nat → Nat → Bool} {lo : Int} {M : Nat} : ∀ (d k x y : Nat), d + k ≤ M → can q (M - k) k x y = true → ∀ v ∈ fil q lo M d k x y, lo ≤ v ∧ v ≤ lo + 63
  | 0, _, _, _, _, _, v, hv => by cases hv
  | d + 1, k, x, y, hM, hc, v, hv => by
    rw [show M - k = (M - (k + 1)) + 1 by omega] at hc
    obtain ⟨z1, z2, _⟩ := fstZ_some (p := fun z => q k x y z && can q (M - (k + 1)) (k + 1) y z) hc
    simp only [Bool.and_eq_true] at z2
    rcases List.mem_cons.1 hv with h | h
    · rw [h]; omega
    · exact fil_el d (k + 1) y _ (by omega) z2.2 v h
theorem filP_el {c : List Int} {f m lo b : Int} (h : cq c f m lo b = true) : ∀ v ∈ filP c f m lo b, lo ≤ v ∧ v ≤ lo + 63 := fil_el _ 0 _ _ (by omega) h
theorem okC_put {c : List Int} (hr : Rng c) (h : okC c = true) {f lo : Int} {l : List Int} (l0 : 0 ≤ lo) (l1 : lo ≤ 9937) (hl : ∀ v ∈ l, lo ≤ v ∧ v ≤ lo + 63) : okC (putP c f l) = true := by
  have h1 := okC_len h
  have h2 := okC_el h hr
  simp only [okC, Bool.and_eq_true, inR_iff, List.all_eq_true, okV]
  rw [putP_len]
  refine ⟨h1, putP_all (Q := fun v => 0 ≤ wr .i64 v ∧ wr .i64 v ≤ 10000) l c f (fun v hv => ?_) fun v hv => ?_⟩
  · rw [hr.id hv]; exact h2 v hv
  · have := hl v hv
    rw [wrap16 (by omega) (by omega), wrap_id (by omega) (by omega)]
    omega
structure GoodR (c : List Int) (s : List Int × List Int) (k : Nat) : Prop where
  ok : okC s.1 = true
  rng : Rng s.1
  len : s.1.length = c.length
  many : s.2.length ≤ k
theorem rp_good {c : List Int} (hr : Rng c) (h : okC c = true) {b lo : Int} (l0 : 0 ≤ lo) (l1 : lo ≤ 9937) : ∀ k, GoodR c (rp b lo c k) k
  | 0 => ⟨h, hr, rfl, Nat.le_refl _⟩
  | k + 1 => by
    have G := rp_good hr h (b := b) l0 l1 k
    show GoodR c (rpS b lo (rp b lo c k) k) (k + 1)
    unfold rpS
    split
    · exact ⟨G.ok, G.rng, G.len, by have := G.many; omega⟩
    · split
      · rename_i h2
        exact ⟨okC_put G.rng G.ok l0 l1 (filP_el h2.2), putP_rng G.rng _ _, by show (putP _ _ _).length = _; rw [putP_len]; exact G.len, by show ((rp b lo c k).2 ++ [(k : Int)]).length ≤ _; rw [List.length_append]; have := G.many; simp only [List.length_cons, List.length_nil]; omega⟩
      · exact ⟨G.ok, G.rng, G.len, by have := G.many; omega⟩
abbrev RLLI : Type := List Int × (List Int × (Int × Unit))
def rpR (c : List Int) (b lo : Int) : RLLI := if okC c = false then ([], [], 1, ()) else if (inR b 0 40000 && inR lo 0 9937) = false then ([], [], 2, ()) else ((rp b lo c c.length).1, (rp b lo c c.length).2, 0, ())
theorem rpR_len {c : List Int} (hr : Rng c) (b lo : Int) : ((rpR c b lo).1.length : Int) ≤ 360 ∧ ((rpR c b lo).2.1.length : Int) ≤ 360 := by
  unfold rpR
  split
  · simp
  · rename_i h
    have h : okC c = true := by simpa using h
    have := okC_len h
    split
    · simp
    · rename_i h2
      simp only [Bool.not_eq_false, Bool.and_eq_true, inR_iff] at h2
      have G := rp_good hr h (b := b) (lo := lo) h2.2.1 h2.2.2 c.length
      have h3 := G.len
      have h4 := G.many
      show (((rp b lo c c.length).1.length : Nat) : Int) ≤ 360 ∧ (((rp b lo c c.length).2.length : Nat) : Int) ≤ 360
      omega
end Go.Cams
namespace Go.Cams
open Go Go.Fw
theorem fillR_len {c : List Int} {f m lo b : Int} (G : GoodS c f m lo b) {b' : Int} : ((fillR c f m lo b').1.length : Int) ≤ 40 := by
  have := G.hm
  unfold fillR
  split
  · show ((filP c f m lo b').length : Int) ≤ 40
    unfold filP
    rw [fil_len]; omega
  · simp
theorem fwR_zero (c : List Int) (f m lo b : Int) : ((fwR c f m lo b).2.1 == (0 : Int)) = true ↔ askP c f m lo b = 0 ∧ cq c f m lo b = true := by
  unfold fwR
  by_cases h : askP c f m lo b = 0
  · rw [if_neg (by simp [h])]
    cases hc : cq c f m lo b with
    | false => rw [if_neg (by simp)]; exact ⟨fun h => absurd h (by decide), fun h => absurd h.2 (by simp)⟩
    | true => rw [if_pos rfl]; exact ⟨fun _ => ⟨h, rfl⟩, fun _ => rfl⟩
  · rw [if_pos h]
    exact ⟨fun hh => absurd (by simpa using hh) h, fun hh => absurd hh.1 h⟩
end Go.Cams

/- Cuts that are done one behind another, in plain terms. -/
namespace Go.Cams
open Go Go.Fw
structure GoodL (m : Nat) (K : List (List Int)) (L : List Ct) : Prop where
  m0 : 0 < m
  m1 : m ≤ 1000
  hk : okKs K = true
  n : 1 ≤ (K.length : Int) ∧ (K.length : Int) ≤ 8
  l : (L.length : Int) ≤ 400
  el : ∀ v ∈ L, (0 ≤ v.1 ∧ v.1 < (m : Int)) ∧ (0 ≤ v.2.1 ∧ v.2.1 ≤ 10000) ∧ (0 ≤ v.2.2.1 ∧ v.2.2.1 < (K.length : Int))
theorem GoodG.toL {c : List Int} {K : List (List Int)} {L : List Ct} (G : GoodG c K L) : GoodL c.length K L := by
  have := okC_len G.hc
  exact ⟨by omega, by omega, G.hk, G.n, G.l, G.el⟩
theorem goodL {m : Int} {K : List (List Int)} {L : List Ct} (hr : RngC L) (h : okCuts L K = true) (h8 : inR m 8 360 = true) (h3 : onCt L m = true) : GoodL m.toNat K L := by
  simp only [okCuts, okCt, Bool.and_eq_true, inR_iff, decide_eq_true_eq, List.all_eq_true] at h h8
  obtain ⟨⟨a, b⟩, d, e⟩ := h
  refine ⟨by omega, by omega, b, a, d, fun v hv => ?_⟩
  have e1 := e v hv
  simp only [ctOk, Bool.and_eq_true, inR_iff] at e1
  rw [hr.i1 hv, hr.i2 hv, hr.i3 hv, wrap_id (by omega) (by omega)] at e1
  have e2 := List.all_eq_true.1 h3 v hv
  rw [hr.i1 hv] at e2
  have e2 : ¬ v.1 ≥ m := by simpa using e2
  omega
def kOf (K : List (List Int)) (v : Ct) : List Int := K.getD v.2.2.1.toNat []
def cut1 (K : List (List Int)) (v : Ct) (o : List Int) : List Int × Int := cutTo (kOf K v) v.1 v.2.1 o (kOf K v).length
def doS (K : List (List Int)) (q : List Int × Int) (v : Ct) : List Int × Int := ((cut1 K v q.1).1, q.2 + (cut1 K v q.1).2)
def doF (K : List (List Int)) (l : List Ct) (o : List Int) : List Int × Int := l.foldl (doS K) (o, 0)
theorem doF_snoc (K : List (List Int)) (a : List Ct) (v : Ct) (o : List Int) : doF K (a ++ [v]) o = ((cut1 K v (doF K a o).1).1, (doF K a o).2 + (cut1 K v (doF K a o).1).2) := by simp [doF, List.foldl_append, doS]
def idS (K : List (List Int)) (q : List Int × List Int × Int) (v : Ct) : List Int × List Int × Int := ((cut1 K v q.1).1, (if (cut1 K v q.1).2 = 0 then q.2.1 ++ [q.2.2] else q.2.1), q.2.2 + 1)
def idF (K : List (List Int)) (l : List Ct) (o : List Int) : List Int × List Int × Int := l.foldl (idS K) (o, [], 0)
theorem idF_snoc (K : List (List Int)) (a : List Ct) (v : Ct) (o : List Int) : idF K (a ++ [v]) o = idS K (idF K a o) v := by simp [idF, List.foldl_append]
structure Surf (m : Nat) (o : List Int) : Prop where
  len : o.length = m
  el : ∀ v ∈ o, 0 ≤ v ∧ v ≤ 10000
theorem cut1_surf {m : Nat} {K : List (List Int)} {L : List Ct} (hr : RngS K) (G : GoodL m K L) {v : Ct} (hv : v ∈ L) {o : List Int} (S : Surf m o) :
    Surf m (cut1 K v o).1 ∧ 0 ≤ (cut1 K v o).2 ∧ (cut1 K v o).2 ≤ 310000 ∧ ∀ p, p < m → g (cut1 K v o).1 p ≤ g o p := by
  obtain ⟨g1, g2, g3⟩ := G.el v hv
  obtain ⟨k, hk'⟩ := at_of (l := K) g3.1 g3.2
  have e : kOf K v = k := getD_at hk'
  have GK := (goodKs hr G.hk).el k hk'.mem
  have hhi := GK.hi
  have m0 := G.m0
  have hl := S.len
  unfold cut1
  rw [e]
  obtain ⟨b1, b2, b3⟩ := cutTo_bd k v.1 (tp := v.2.1) (o := o) (by omega) g2.1 (fun i hi => (GK.el i hi).1) S.el k.length (Nat.le_refl _)
  exact ⟨⟨by rw [cutTo_len, hl], b1⟩, b2, by omega, fun p hp => (cutTo_el k v.1 v.2.1 (o := o) (by omega) p (by omega) k.length).1⟩
theorem doS_surf {m : Nat} {K : List (List Int)} {L : List Ct} (hr : RngS K) (G : GoodL m K L) : ∀ (l : List Ct) (q : List Int × Int), (∀ v ∈ l, v ∈ L) → Surf m q.1 → 0 ≤ q.2 →
    Surf m (l.foldl (doS K) q).1 ∧ 0 ≤ (l.foldl (doS K) q).2 ∧ (l.foldl (doS K) q).2 ≤ q.2 + 310000 * l.length ∧ ∀ p, p < m → g (l.foldl (doS K) q).1 p ≤ g q.1 p
  | [], q, _, S, h => ⟨S, h, by simp, fun _ _ => Int.le_refl _⟩
  | v :: l, q, hl, S, h => by
    obtain ⟨a1, a2, a3, a4⟩ := cut1_surf hr G (hl v (by simp)) S
    obtain ⟨b1, b2, b3, b4⟩ := doS_surf hr G l (doS K q v) (fun u hu => hl u (by simp [hu])) a1 (by simp only [doS]; omega)
    simp only [doS] at b3
    refine ⟨b1, b2, ?_, fun p hp => Int.le_trans (b4 p hp) (a4 p hp)⟩
    simp only [List.foldl_cons, List.length_cons]
    simp only [doS] at b3 ⊢
    omega
theorem doF_surf {m : Nat} {K : List (List Int)} {L : List Ct} (hr : RngS K) (G : GoodL m K L) {o : List Int} (S : Surf m o) (i : Nat) :
    Surf m (doF K (L.take i) o).1 ∧ 0 ≤ (doF K (L.take i) o).2 ∧ (doF K (L.take i) o).2 ≤ 124000000 ∧ ∀ p, p < m → g (doF K (L.take i) o).1 p ≤ g o p := by
  obtain ⟨a, b, c, d⟩ := doS_surf hr G (L.take i) (o, 0) (fun v hv => List.mem_of_mem_take hv) S (Int.le_refl _)
  have := G.l
  have h2 : ((L.take i).length : Int) ≤ 400 := by rw [List.length_take]; omega
  exact ⟨a, b, by unfold doF; simp only at c; omega, d⟩
theorem idS_surf {m : Nat} {K : List (List Int)} {L : List Ct} (hr : RngS K) (G : GoodL m K L) : ∀ (l : List Ct) (q : List Int × List Int × Int), (∀ v ∈ l, v ∈ L) → Surf m q.1 →
    Surf m (l.foldl (idS K) q).1 ∧ ((l.foldl (idS K) q).2.1.length : Int) ≤ q.2.1.length + l.length ∧ (l.foldl (idS K) q).2.2 = q.2.2 + l.length
  | [], q, _, S => ⟨S, by simp, by simp⟩
  | v :: l, q, hl, S => by
    obtain ⟨a1, a2, a3, a4⟩ := cut1_surf hr G (hl v (by simp)) S
    obtain ⟨b1, b2, b3⟩ := idS_surf hr G l (idS K q v) (fun u hu => hl u (by simp [hu])) a1
    refine ⟨b1, ?_, ?_⟩
    · have : ((idS K q v).2.1.length : Int) ≤ q.2.1.length + 1 := by
        simp only [idS]
        split
        · simp
        · omega
      simp only [List.foldl_cons, List.length_cons]
      omega
    · simp only [List.foldl_cons, List.length_cons]
      rw [b3]
      simp only [idS]
      omega
theorem idF_surf {m : Nat} {K : List (List Int)} {L : List Ct} (hr : RngS K) (G : GoodL m K L) {o : List Int} (S : Surf m o) {i : Nat} (hi : i ≤ L.length) :
    Surf m (idF K (L.take i) o).1 ∧ ((idF K (L.take i) o).2.1.length : Int) ≤ i ∧ (idF K (L.take i) o).2.2 = i := by
  obtain ⟨a, b, c⟩ := idS_surf hr G (L.take i) (o, [], 0) (fun v hv => List.mem_of_mem_take hv) S
  have e : (L.take i).length = i := by rw [List.length_take]; omega
  rw [e] at b c
  exact ⟨a, by unfold idF; simpa using b, by unfold idF; simpa using c⟩
theorem flat_surf {m : Nat} {x : Int} (h : inR x 0 10000 = true) : Surf m (List.replicate m x) := ⟨by simp, fun v hv => by rw [(List.mem_replicate.1 hv).2]; exact inR_iff.1 h⟩
theorem okC_surf {c : List Int} (hr : Rng c) (h : okC c = true) : Surf c.length c := ⟨rfl, okC_el h hr⟩
abbrev DoR : Type := List Int × (Int × (Int × Unit))
def doR (c : List Int) (K : List (List Int)) (L : List Ct) : DoR := if gvCode c K L ≠ 0 then ([], 0, gvCode c K L, ()) else ((doF K L c).1, (doF K L c).2, 0, ())
theorem doR_len {c : List Int} {K : List (List Int)} {L : List Ct} (hc : Rng c) (hk : RngS K) (hr : RngC L) : ((doR c K L).1.length : Int) ≤ 360 := by
  unfold doR
  split
  · simp
  · rename_i h
    have G := goodG hr (by simpa using h)
    obtain ⟨S, _⟩ := doF_surf hk G.toL (okC_surf hc G.hc) L.length
    rw [List.take_length] at S
    have := okC_len G.hc
    rw [S.len]; omega
def idR (x n : Int) (K : List (List Int)) (L : List Ct) : List Int × (Int × Unit) := if okCuts L K = true then (if (inR n 8 360 && inR x 0 10000 && onCt L n) = true then ((idF K L (List.replicate n.toNat x)).2.1, 0, ()) else ([], 2, ())) else ([], 1, ())
theorem idR_len {x n : Int} {K : List (List Int)} {L : List Ct} (hk : RngS K) (hr : RngC L) : ((idR x n K L).1.length : Int) ≤ 400 := by
  unfold idR
  split
  · rename_i h1
    split
    · rename_i h2
      simp only [Bool.and_eq_true] at h2
      have G := goodL hr h1 h2.1.1 h2.2
      obtain ⟨_, h, _⟩ := idF_surf hk G (flat_surf h2.1.2) (Nat.le_refl L.length)
      rw [List.take_length] at h
      have := G.l
      simp only
      omega
    · simp
  · simp
def notOver (d l : List Int) : Bool := allTo (fun i => !decide (g d i > g l i)) d.length
def cpCode (c : List Int) (x : Int) (K : List (List Int)) (L : List Ct) : Int := if gvCode c K L ≠ 0 then gvCode c K L else if inR x 0 10000 = true then (if mxL c > x then 4 else 0) else 2
def cpR (c : List Int) (x : Int) (K : List (List Int)) (L : List Ct) : Bool × (Int × Unit) :=
  if cpCode c x K L ≠ 0 then (false, cpCode c x K L, ()) else if fi (deepF c K) L 0 ≥ 0 then (false, 0, ()) else (notOver (doF K L (List.replicate c.length x)).1 (leftL c (K.getD (bkTo c K K.length).1.toNat [])), 0, ())
theorem bkTo_in (c : List Int) (K : List (List Int)) : ∀ i, 0 < i → 0 ≤ (bkTo c K i).1 ∧ (bkTo c K i).1 < (i : Int)
  | 0, h => absurd h (by omega)
  | i + 1, _ => by
    rw [bkTo_succ]
    split
    · simp only; omega
    · rename_i h
      by_cases h0 : i = 0
      · subst h0
        simp [bkTo] at h ⊢
        try omega
      · have := bkTo_in c K i (by omega)
        omega
theorem mxL_bd {c : List Int} (hr : Rng c) (h : okC c = true) : 0 ≤ mxL c ∧ mxL c ≤ 10000 := by
  have hl := okC_len h
  have hm := okC_el h hr
  obtain ⟨v0, hv0⟩ := at_of (l := c) (Int.le_refl 0) (by omega)
  have hv := hm v0 hv0.mem
  have l1 := (mxF_ge c v0).1
  have l2 := mxF_le c v0 10000 hv.2 (fun v hv => (hm v hv).2)
  have e : mxL c = mxF c v0 := by unfold mxL; rw [(head_at hv0).1]
  rw [e]; omega
theorem leftL_bd {c k : List Int} (hc : 0 < c.length) (hC : ∀ v ∈ c, 0 ≤ v ∧ v ≤ 10000) (G : GoodK k) : ∀ v ∈ leftL c k, 0 ≤ v ∧ v ≤ 10000 := leftTo_bd hc hC G _
theorem g_flat (m : Nat) (x : Int) {p : Nat} (h : p < m) : g (List.replicate m x) p = x := by
  unfold g
  rw [List.getD_eq_getElem?_getD, List.getElem?_replicate, if_pos h]; rfl
def cpT (c : List Int) (x : Int) (K : List (List Int)) (L : List Ct) : Bool × (Int × Unit) := if fi (deepF c K) L 0 ≥ 0 then (false, 0, ()) else (notOver (doF K L (List.replicate c.length x)).1 (leftL c (K.getD (bkTo c K K.length).1.toNat [])), 0, ())
theorem cpR_ok {c : List Int} {x : Int} {K : List (List Int)} {L : List Ct} (h : cpCode c x K L = 0) : cpR c x K L = cpT c x K L := by
  unfold cpR cpT
  rw [h]
  rfl
theorem cpR_bad {c : List Int} {x : Int} {K : List (List Int)} {L : List Ct} {r : Int} (h : cpCode c x K L = r) (hr : r ≠ 0) : cpR c x K L = (false, r, ()) := by
  unfold cpR
  rw [h, if_pos hr]
end Go.Cams

/- The number of bits of a word, in plain terms. -/
namespace Go.Cams
open Go Go.Fw
/-- The set bits among the first k. -/
def bct (x : Nat) : Nat → Nat
  | 0 => 0
  | k + 1 => bct x k + x / 2 ^ k % 2
theorem bct_le (x : Nat) : ∀ k, bct x k ≤ k
  | 0 => Nat.le_refl _
  | k + 1 => by have := bct_le x k; have := Nat.mod_lt (x / 2 ^ k) (show 0 < 2 by omega); simp only [bct]; omega
theorem bct_split (x : Nat) : ∀ k, bct x (8 + k) = bct (x % 256) 8 + bct (x / 256) k
  | 0 => by simp only [bct, Nat.add_zero]; omega
  | k + 1 => by
    have h := bct_split x k
    have e : x / 256 / 2 ^ k = x / 2 ^ (8 + k) := by rw [Nat.div_div_eq_div_mul, Nat.pow_add]
    show bct x (8 + k) + x / 2 ^ (8 + k) % 2 = bct (x % 256) 8 + (bct (x / 256) k + x / 256 / 2 ^ k % 2)
    rw [h, e]; omega
def msk (c : Nat) : Nat → Nat
  | 0 => 0
  | n + 1 => 256 * msk c n + c
theorem and_split {q a m c : Nat} (ha : a < 256) (hc : c < 256) : (256 * q + a) &&& (256 * m + c) = 256 * (q &&& m) + (a &&& c) := by
  have h1 := @Nat.and_mod_two_pow (256 * q + a) (256 * m + c) 8
  have h2 := @Nat.and_div_two_pow (256 * q + a) (256 * m + c) 8
  rw [show (256 * q + a) % 2 ^ 8 = a by omega, show (256 * m + c) % 2 ^ 8 = c by omega] at h1
  rw [show (256 * q + a) / 2 ^ 8 = q by omega, show (256 * m + c) / 2 ^ 8 = m by omega] at h2
  omega
def st1 (n x : Nat) : Nat := (x / 2 &&& msk 85 n) + (x &&& msk 85 n)
def st2 (n x : Nat) : Nat := (x / 4 &&& msk 51 n) + (x &&& msk 51 n)
def st3 (n x : Nat) : Nat := (x / 16 + x) &&& msk 15 n
def b1 (a : Nat) : Nat := (a / 2 &&& 85) + (a &&& 85)
def b2 (a : Nat) : Nat := (a / 4 &&& 51) + (a &&& 51)
def b3 (a : Nat) : Nat := (a / 16 + a) &&& 15
theorem bytes1 : (List.range 256).all (fun a => (decide (b1 a < 256) && decide ((128 + a / 2) &&& 85 = a / 2 &&& 85)) && (decide (b2 (b1 a) % 16 ≤ 4) && decide (b2 (b1 a) / 16 ≤ 4)) && decide (b3 (b2 (b1 a)) = bct a 8)) = true := by decide +kernel
theorem bytes2 : (List.range 256).all (fun a => (List.range 4).all fun r => decide ((64 * r + a / 4) &&& 51 = a / 4 &&& 51)) = true := by decide +kernel
theorem bytes3 : (List.range 256).all (fun a => (List.range 16).all fun r => decide ((16 * r + a) &&& 15 = a &&& 15)) = true := by decide +kernel
theorem byte1 {a : Nat} (h : a < 256) : b1 a < 256 ∧ (128 + a / 2) &&& 85 = a / 2 &&& 85 ∧ b2 (b1 a) % 16 ≤ 4 ∧ b2 (b1 a) / 16 ≤ 4 ∧ b3 (b2 (b1 a)) = bct a 8 := by
  have := List.all_eq_true.1 bytes1 a (List.mem_range.2 h)
  simp only [Bool.and_eq_true, decide_eq_true_eq] at this
  obtain ⟨⟨⟨c1, c2⟩, c3, c4⟩, c5⟩ := this
  exact ⟨c1, c2, c3, c4, c5⟩
theorem byte2 {a r : Nat} (h : a < 256) (hr : r < 4) : (64 * r + a / 4) &&& 51 = a / 4 &&& 51 := by
  have := List.all_eq_true.1 (List.all_eq_true.1 bytes2 a (List.mem_range.2 h)) r (List.mem_range.2 hr)
  simpa using this
theorem st1_step (n q : Nat) {a : Nat} (h : a < 256) : st1 (n + 1) (256 * q + a) = 256 * st1 n q + b1 a := by
  obtain ⟨c1, c2, _⟩ := byte1 h
  unfold st1 b1
  simp only [msk]
  rw [show (256 * q + a) / 2 = 256 * (q / 2) + (128 * (q % 2) + a / 2) by omega, and_split (by omega) (by omega), and_split h (by omega)]
  have : (128 * (q % 2) + a / 2) &&& 85 = a / 2 &&& 85 := by
    rcases Nat.mod_two_eq_zero_or_one q with e | e
    · rw [e]; simp
    · rw [e]; exact c2
  rw [this]; omega
theorem st2_step (n q : Nat) {a : Nat} (h : a < 256) : st2 (n + 1) (256 * q + a) = 256 * st2 n q + b2 a := by
  unfold st2 b2
  simp only [msk]
  rw [show (256 * q + a) / 4 = 256 * (q / 4) + (64 * (q % 4) + a / 4) by omega, and_split (by omega) (by omega), and_split h (by omega), byte2 h (Nat.mod_lt _ (by omega))]
  omega
theorem low4 : ∀ (n q : Nat), q < 256 ^ n → st2 n (st1 n q) % 16 ≤ 4
  | 0, q, h => by
    have : q = 0 := by simpa using h
    subst this
    decide
  | n + 1, q, h => by
    have h1 := Nat.mod_lt q (show 0 < 256 by omega)
    obtain ⟨c1, _, c3, _⟩ := byte1 h1
    have e : q = 256 * (q / 256) + q % 256 := by omega
    rw [e, st1_step _ _ h1, st2_step _ _ c1]
    omega
def ps (x : Nat) : Nat → Nat
  | 0 => 0
  | n + 1 => 256 * ps (x / 256) n + bct (x % 256) 8
theorem st_ps : ∀ (n x : Nat), x < 256 ^ n → st3 n (st2 n (st1 n x)) = ps x n
  | 0, x, h => by
    have : x = 0 := by simpa using h
    subst this
    decide
  | n + 1, x, h => by
    have h1 := Nat.mod_lt x (show 0 < 256 by omega)
    obtain ⟨c1, _, c3, c4, c5⟩ := byte1 h1
    have hq : x / 256 < 256 ^ n := by rw [Nat.pow_succ] at h; omega
    have hl := low4 n _ hq
    have ih := st_ps n _ hq
    have e : x = 256 * (x / 256) + x % 256 := by omega
    rw [show st1 (n + 1) x = 256 * st1 n (x / 256) + b1 (x % 256) by rw [← st1_step _ _ h1, ← e], st2_step _ _ c1]
    obtain ⟨u, hu⟩ : ∃ u, u = st2 n (st1 n (x / 256)) := ⟨_, rfl⟩
    obtain ⟨v, hv⟩ : ∃ v, v = b2 (b1 (x % 256)) := ⟨_, rfl⟩
    rw [← hu] at hl ih ⊢
    rw [← hv] at c3 c4 c5 ⊢
    unfold st3 at ih ⊢
    simp only [msk, ps]
    rw [show (256 * u + v) / 16 + (256 * u + v) = 256 * (u / 16 + u) + (16 * (u % 16) + (v / 16 + v)) by omega, and_split (by omega) (by omega), ih]
    have h3 : (16 * (u % 16) + (v / 16 + v)) &&& 15 = (v / 16 + v) &&& 15 := by
      have := List.all_eq_true.1 (List.all_eq_true.1 bytes3 (v / 16 + v) (List.mem_range.2 (by omega))) (u % 16) (List.mem_range.2 (by omega))
      simpa using this
    rw [h3]
    unfold b3 at c5
    rw [c5]
theorem msk_55 : msk 85 8 = 6148914691236517205 := by decide
theorem msk_33 : msk 51 8 = 3689348814741910323 := by decide
theorem msk_0f : msk 15 8 = 1085102592571150095 := by decide
theorem bct_last (x : Nat) : bct x 8 = bct (x % 256) 8 := bct_split x 0
theorem ps_le (x : Nat) (n : Nat) : bct (x % 256) 8 ≤ 8 := bct_le _ 8
theorem step_pair {Y0 Y1 Y2 p q : Nat} (h0 : Y0 = 256 * Y1 + p) (h1 : Y1 = 256 * Y2 + q) : Y0 = 65536 * Y2 + (256 * q + p) := by omega
theorem half1 {x A p : Nat} (h : x = 256 * A + p) (hp : p ≤ 8) : x / 256 = A := by omega
theorem half2 {y Y a : Nat} (h : y = 65536 * Y + a) (ha : a < 65536) : y / 65536 = Y := by omega
theorem half3 {z Z a : Nat} (h : z = 4294967296 * Z + a) (ha : a < 4294967296) : z / 4294967296 = Z := by omega
/-- The bytes' sums are folded into the lowest. -/
theorem fold_ps (x : Nat) : ∃ y z t, y = ps x 8 + ps x 8 / 256 ∧ z = y + y / 65536 ∧ t = z + z / 4294967296 ∧ ps x 8 < 18446744073709551616 ∧ y < 18446744073709551616 ∧ z < 18446744073709551616 ∧ t < 9223372036854775808 ∧ t % 128 = bct x 64 := by
  have l := fun y => ps_le y 8
  have A0 : ps x 8 = 256 * ps (x / 256) 7 + bct (x % 256) 8 := rfl
  have c0 : bct x 64 = bct (x % 256) 8 + bct (x / 256) 56 := bct_split x 56
  obtain ⟨x1, e1⟩ : ∃ x1, x1 = x / 256 := ⟨_, rfl⟩
  rw [← e1] at A0 c0
  have A1 : ps x1 7 = 256 * ps (x1 / 256) 6 + bct (x1 % 256) 8 := rfl
  have c1 : bct x1 56 = bct (x1 % 256) 8 + bct (x1 / 256) 48 := bct_split x1 48
  obtain ⟨x2, e2⟩ : ∃ x2, x2 = x1 / 256 := ⟨_, rfl⟩
  rw [← e2] at A1 c1
  have A2 : ps x2 6 = 256 * ps (x2 / 256) 5 + bct (x2 % 256) 8 := rfl
  have c2 : bct x2 48 = bct (x2 % 256) 8 + bct (x2 / 256) 40 := bct_split x2 40
  obtain ⟨x3, e3⟩ : ∃ x3, x3 = x2 / 256 := ⟨_, rfl⟩
  rw [← e3] at A2 c2
  have A3 : ps x3 5 = 256 * ps (x3 / 256) 4 + bct (x3 % 256) 8 := rfl
  have c3 : bct x3 40 = bct (x3 % 256) 8 + bct (x3 / 256) 32 := bct_split x3 32
  obtain ⟨x4, e4⟩ : ∃ x4, x4 = x3 / 256 := ⟨_, rfl⟩
  rw [← e4] at A3 c3
  have A4 : ps x4 4 = 256 * ps (x4 / 256) 3 + bct (x4 % 256) 8 := rfl
  have c4 : bct x4 32 = bct (x4 % 256) 8 + bct (x4 / 256) 24 := bct_split x4 24
  obtain ⟨x5, e5⟩ : ∃ x5, x5 = x4 / 256 := ⟨_, rfl⟩
  rw [← e5] at A4 c4
  have A5 : ps x5 3 = 256 * ps (x5 / 256) 2 + bct (x5 % 256) 8 := rfl
  have c5 : bct x5 24 = bct (x5 % 256) 8 + bct (x5 / 256) 16 := bct_split x5 16
  obtain ⟨x6, e6⟩ : ∃ x6, x6 = x5 / 256 := ⟨_, rfl⟩
  rw [← e6] at A5 c5
  have A6 : ps x6 2 = 256 * ps (x6 / 256) 1 + bct (x6 % 256) 8 := rfl
  have c6 : bct x6 16 = bct (x6 % 256) 8 + bct (x6 / 256) 8 := bct_split x6 8
  obtain ⟨x7, e7⟩ : ∃ x7, x7 = x6 / 256 := ⟨_, rfl⟩
  rw [← e7] at A6 c6
  have A7 : ps x7 1 = bct (x7 % 256) 8 := by show 256 * 0 + _ = _; omega
  have c7 : bct x7 8 = bct (x7 % 256) 8 := bct_last x7
  have l0 := l x; have l1 := l x1; have l2 := l x2; have l3 := l x3; have l4 := l x4; have l5 := l x5; have l6 := l x6; have l7 := l x7
  generalize bct (x % 256) 8 = p0 at *
  generalize bct (x1 % 256) 8 = p1 at *
  generalize bct (x2 % 256) 8 = p2 at *
  generalize bct (x3 % 256) 8 = p3 at *
  generalize bct (x4 % 256) 8 = p4 at *
  generalize bct (x5 % 256) 8 = p5 at *
  generalize bct (x6 % 256) 8 = p6 at *
  generalize bct (x7 % 256) 8 = p7 at *
  generalize ps x 8 = B0 at *
  generalize ps x1 7 = B1 at *
  generalize ps x2 6 = B2 at *
  generalize ps x3 5 = B3 at *
  generalize ps x4 4 = B4 at *
  generalize ps x5 3 = B5 at *
  generalize ps x6 2 = B6 at *
  generalize ps x7 1 = B7 at *
  have hc : bct x 64 = p0 + (p1 + (p2 + (p3 + (p4 + (p5 + (p6 + p7)))))) := by rw [c0, c1, c2, c3, c4, c5, c6, c7]
  clear c0 c1 c2 c3 c4 c5 c6 c7 e1 e2 e3 e4 e5 e6 e7 l
  have hy : B0 / 256 = B1 := half1 A0 l0
  have Y0 : B0 + B1 = 256 * (B1 + B2) + (p0 + p1) := by omega
  have Y1 : B1 + B2 = 256 * (B2 + B3) + (p1 + p2) := by omega
  have Y2 : B2 + B3 = 256 * (B3 + B4) + (p2 + p3) := by omega
  have Y3 : B3 + B4 = 256 * (B4 + B5) + (p3 + p4) := by omega
  have Y4 : B4 + B5 = 256 * (B5 + B6) + (p4 + p5) := by omega
  have Y5 : B5 + B6 = 256 * (B6 + B7) + (p5 + p6) := by omega
  have Y6 : B6 + B7 = 256 * p7 + (p6 + p7) := by omega
  have a0 := step_pair Y0 Y1
  have a2 := step_pair Y2 Y3
  have a4 := step_pair Y4 Y5
  clear Y0 Y1 Y2 Y3 Y4 Y5 A1 A2 A3 A4 A5 A6 A7
  generalize B2 + B3 = S2 at *
  generalize B4 + B5 = S4 at *
  generalize B6 + B7 = S6 at *
  have hB : B0 ≤ B0 + B1 := by omega
  obtain ⟨y, ey⟩ : ∃ y, y = B0 + B1 := ⟨_, rfl⟩
  rw [← ey] at a0 hB
  have q0 : 256 * (p1 + p2) + (p0 + p1) < 8192 := by omega
  have q2 : 256 * (p3 + p4) + (p2 + p3) < 8192 := by omega
  have q4 : 256 * (p5 + p6) + (p4 + p5) < 8192 := by omega
  have q6 : S6 < 8192 := by omega
  have sum : 256 * (p1 + p2) + (p0 + p1) + (256 * (p3 + p4) + (p2 + p3)) + (256 * (p5 + p6) + (p4 + p5)) + S6 = 256 * (p1 + p2 + p3 + p4 + p5 + p6 + p7) + bct x 64 := by omega
  have hle : bct x 64 ≤ 64 := bct_le x 64
  generalize bct x 64 = P at *
  generalize p1 + p2 + p3 + p4 + p5 + p6 + p7 = R at *
  generalize 256 * (p1 + p2) + (p0 + p1) = r0 at *
  generalize 256 * (p3 + p4) + (p2 + p3) = r2 at *
  generalize 256 * (p5 + p6) + (p4 + p5) = r4 at *
  clear Y6 hc
  have hz : y / 65536 = S2 := half2 a0 (by omega)
  have z1 : y + S2 = 4294967296 * (S4 + S6) + (65536 * (r2 + r4) + (r0 + r2)) := by omega
  have ht : (y + S2) / 4294967296 = S4 + S6 := half3 z1 (by omega)
  have s4 : S4 < 536870912 := by omega
  have s2 : S2 < 35184372088832 := by omega
  have sy : y < 2305843009213693952 := by omega
  refine ⟨y, y + S2, y + S2 + (S4 + S6), by rw [hy, ey], by rw [hz], by rw [ht], by omega, by omega, by omega, by omega, ?_⟩
  have t1 : y + S2 + (S4 + S6) = 65536 * (65536 * (S4 + S6) + (r2 + r4) + S6) + (r0 + r2 + r4 + S6) := by omega
  omega
theorem and_i64 {a : Nat} (h : a < 9223372036854775808) : bitsI .and .i64 (a : Int) (127 : Int) = ((a % 128 : Nat) : Int) := by
  have e : bitsI .and .i64 (a : Int) (127 : Int) = wr .i64 ((BitVec.ofInt 64 (a : Int) &&& BitVec.ofInt 64 ((127 : Nat) : Int)).toNat : Int) := rfl
  rw [e, BitVec.toNat_and, ofInt_nat (by omega), ofInt_nat (by omega), show (127 : Nat) = 2 ^ 7 - 1 from rfl, Nat.and_two_pow_sub_one_eq_mod]
  exact wrap_id (by omega) (by omega)
theorem pop_swar {x : Nat} (hx : x < 18446744073709551616) {f : Int → Int} (hf : f = fun a => bitsI .and .i64 (wr .i64 a) (127 : Int)) :
    let x1 := wr .u64 ((bitsI .and .u64 (shr_ .u64 (x : Int) (1 : Int)) (6148914691236517205 : Int)) + (bitsI .and .u64 (x : Int) (6148914691236517205 : Int)))
    let x2 := wr .u64 ((bitsI .and .u64 (shr_ .u64 x1 (2 : Int)) (3689348814741910323 : Int)) + (bitsI .and .u64 x1 (3689348814741910323 : Int)))
    let x3 := bitsI .and .u64 (wr .u64 ((shr_ .u64 x2 (4 : Int)) + x2)) (1085102592571150095 : Int)
    let x4 := wr .u64 (x3 + shr_ .u64 x3 (8 : Int))
    let x5 := wr .u64 (x4 + shr_ .u64 x4 (16 : Int))
    let x6 := wr .u64 (x5 + shr_ .u64 x5 (32 : Int))
    f x6 = ((bct x 64 : Nat) : Int) := by
  intro x1 x2 x3 x4 x5 x6
  obtain ⟨y, z, t, hy, hz, ht, c0, c1, c2, c3, e⟩ := fold_ps x
  have S := st_ps 8 x hx
  have e1 : x1 = ((st1 8 x : Nat) : Int) := by
    show wr .u64 ((bitsI .and .u64 (shr_ .u64 (x : Int) ((1 : Nat) : Int)) ((6148914691236517205 : Nat) : Int)) + (bitsI .and .u64 (x : Int) ((6148914691236517205 : Nat) : Int))) = _
    rw [shr_nat (by omega), and_nat (by omega) (by omega), and_nat hx (by omega), ← msk_55]
    have h1 := Nat.and_le_right (n := x / 2 ^ 1) (m := msk 85 8)
    have h2 := Nat.and_le_right (n := x) (m := msk 85 8)
    have h3 := msk_55
    unfold st1
    rw [wrU (by omega) (by omega)]
    simp
  have d1 : st1 8 x ≤ 12297829382473034410 := by
    have h1 := Nat.and_le_right (n := x / 2) (m := msk 85 8)
    have h2 := Nat.and_le_right (n := x) (m := msk 85 8)
    have h3 := msk_55
    unfold st1; omega
  have e2 : x2 = ((st2 8 (st1 8 x) : Nat) : Int) := by
    show wr .u64 ((bitsI .and .u64 (shr_ .u64 x1 ((2 : Nat) : Int)) ((3689348814741910323 : Nat) : Int)) + (bitsI .and .u64 x1 ((3689348814741910323 : Nat) : Int))) = _
    rw [e1]
    generalize st1 8 x = u at *
    rw [shr_nat (by omega), and_nat (by omega) (by omega), and_nat (by omega) (by omega), ← msk_33]
    have h1 := Nat.and_le_right (n := u / 2 ^ 2) (m := msk 51 8)
    have h2 := Nat.and_le_right (n := u) (m := msk 51 8)
    have h3 := msk_33
    unfold st2
    rw [wrU (by omega) (by omega)]
    simp
  have d2 : st2 8 (st1 8 x) ≤ 7378697629483820646 := by
    have h1 := Nat.and_le_right (n := st1 8 x / 4) (m := msk 51 8)
    have h2 := Nat.and_le_right (n := st1 8 x) (m := msk 51 8)
    have h3 := msk_33
    unfold st2; omega
  have e3 : x3 = ((ps x 8 : Nat) : Int) := by
    rw [← S]
    show bitsI .and .u64 (wr .u64 ((shr_ .u64 x2 ((4 : Nat) : Int)) + x2)) ((1085102592571150095 : Nat) : Int) = _
    rw [e2]
    generalize st2 8 (st1 8 x) = u at *
    rw [shr_nat (by omega), wrU (by omega) (by omega), ← Int.natCast_add, and_nat (by omega) (by omega), ← msk_0f]
    rfl
  have e4 : x4 = (y : Int) := by
    show wr .u64 (x3 + shr_ .u64 x3 ((8 : Nat) : Int)) = _
    rw [e3]
    generalize ps x 8 = u at *
    rw [shr_nat (by omega), ← Int.natCast_add, show u + u / 2 ^ 8 = y by omega]
    exact wrU (by omega) (by omega)
  have e5 : x5 = (z : Int) := by
    show wr .u64 (x4 + shr_ .u64 x4 ((16 : Nat) : Int)) = _
    rw [e4, shr_nat (by omega), ← Int.natCast_add, show y + y / 2 ^ 16 = z by omega]
    exact wrU (by omega) (by omega)
  have e6 : x6 = (t : Int) := by
    show wr .u64 (x5 + shr_ .u64 x5 ((32 : Nat) : Int)) = _
    rw [e5, shr_nat (by omega), ← Int.natCast_add, show z + z / 2 ^ 32 = t by omega]
    exact wrU (by omega) (by omega)
  rw [e6, hf]
  show bitsI .and .i64 (wr .i64 (t : Int)) (127 : Int) = _
  rw [wrap_id (x := (t : Int)) (by omega) (by omega), and_i64 c3, e]
end Go.Cams

/- Two plates compared, in plain terms. -/
namespace Go.Cams
open Go Go.Fw
abbrev W64 (l : List Int) : Prop := ∀ v ∈ l, 0 ≤ v ∧ v < 18446744073709551616
theorem wrap_u64 (x : Int) : 0 ≤ wr .u64 x ∧ wr .u64 x < 18446744073709551616 := by
  show 0 ≤ IntKind.u64.wrap x ∧ IntKind.u64.wrap x < _
  simp [IntKind.wrap, IntKind.signed, IntKind.bits]; omega
theorem inkP_el {p : List Int} (h : W64 p) (m : Mk) : W64 (inkP p m) := fun v hv => by
  rcases List.mem_or_eq_of_mem_set hv with hv | hv
  · exact h v hv
  · rw [hv]; exact wrap_u64 _
theorem inkL_el : ∀ (l : List Mk) {p : List Int}, W64 p → W64 (inkL p l)
  | [], _, h => h
  | m :: l, _, h => inkL_el l (inkP_el h m)
theorem drawTo_el (m : Mch) : ∀ i, W64 (drawTo m i)
  | 0 => fun v hv => by rw [(List.mem_replicate.1 hv).2]; omega
  | i + 1 => by
    unfold drawTo
    split
    · split
      · exact inkL_el _ (inkP_el (drawTo_el m i) _)
      · exact inkP_el (drawTo_el m i) _
    · exact drawTo_el m i
/-- The bits of a row in which two plates differ. -/
def dif (p d : List Int) (y : Nat) : Nat := (g p y).toNat ^^^ (g d y).toNat
theorem dif_lt {p d : List Int} (hp : W64 p) (hd : W64 d) (lp : p.length = 64) (ld : d.length = 64) {y : Nat} (h : y < 64) : dif p d y < 18446744073709551616 := by
  have h1 := hp _ (g_mem (l := p) (i := y) (by omega))
  have h2 := hd _ (g_mem (l := d) (i := y) (by omega))
  have : (g p y).toNat ^^^ (g d y).toNat < 2 ^ 64 := Nat.xor_lt_two_pow (by omega) (by omega)
  unfold dif; omega
theorem dif_xor {p d : List Int} (hp : W64 p) (hd : W64 d) (lp : p.length = 64) (ld : d.length = 64) {y : Nat} (h : y < 64) : bitsI .xor .u64 (g p y) (g d y) = ((dif p d y : Nat) : Int) ∧ bitsI .xor .u64 (g d y) (g p y) = ((dif p d y : Nat) : Int) := by
  have h1 := hp _ (g_mem (l := p) (i := y) (by omega))
  have h2 := hd _ (g_mem (l := d) (i := y) (by omega))
  have e1 : g p y = (((g p y).toNat : Nat) : Int) := by omega
  have e2 : g d y = (((g d y).toNat : Nat) : Int) := by omega
  refine ⟨?_, ?_⟩
  · rw [e1, e2, xor_nat (by omega) (by omega)]; unfold dif; simp only [Int.toNat_natCast]
  · rw [e1, e2, xor_nat (by omega) (by omega), Nat.xor_comm]; unfold dif; simp only [Int.toNat_natCast]
/-- What is counted of a row: how many, and the first of all. -/
def rowS (w y : Nat) (s : Nat × List Int) : Nat → Nat × List Int
  | 0 => s
  | x + 1 => if w / 2 ^ x % 2 = 0 then rowS w y s x else ((rowS w y s x).1 + 1, if (rowS w y s x).1 = 0 then [(x : Int), (y : Int)] else (rowS w y s x).2)
def allS (W : Nat → Nat) : Nat → Nat × List Int
  | 0 => (0, [0, 0])
  | y + 1 => rowS (W y) y (allS W y) 64
theorem rowS_cnt (w y : Nat) (s : Nat × List Int) : ∀ x, (rowS w y s x).1 = s.1 + bct w x
  | 0 => rfl
  | x + 1 => by
    have := rowS_cnt w y s x
    unfold rowS bct
    split
    · omega
    · simp only; omega
def tot (W : Nat → Nat) : Nat → Nat
  | 0 => 0
  | y + 1 => tot W y + bct (W y) 64
theorem allS_cnt (W : Nat → Nat) : ∀ y, (allS W y).1 = tot W y
  | 0 => rfl
  | y + 1 => by unfold allS tot; rw [rowS_cnt, allS_cnt W y]
theorem tot_le (W : Nat → Nat) : ∀ y, tot W y ≤ 64 * y
  | 0 => Nat.le_refl _
  | y + 1 => by have := tot_le W y; have := bct_le (W y) 64; unfold tot; omega
theorem rowS_keep (w y : Nat) (s : Nat × List Int) (h : s.1 ≠ 0) : ∀ x, (rowS w y s x).2 = s.2
  | 0 => rfl
  | x + 1 => by
    have h1 := rowS_keep w y s h x
    have h2 := rowS_cnt w y s x
    unfold rowS
    split
    · exact h1
    · rw [if_neg (by omega)]; exact h1
theorem rowS_zero (y : Nat) (s : Nat × List Int) : ∀ x, rowS 0 y s x = s
  | 0 => rfl
  | x + 1 => by unfold rowS; rw [if_pos (by simp)]; exact rowS_zero y s x
theorem bit_mod (w x : Nat) : w.testBit x = true ↔ ¬ w / 2 ^ x % 2 = 0 := by
  rw [Nat.testBit_eq_decide_div_mod_eq, decide_eq_true_eq]; omega
theorem rowS_first {w y z : Nat} {f : List Int} (h1 : w.testBit z = true) (h2 : ∀ u, u < z → w.testBit u = false) : ∀ x, (x ≤ z → rowS w y (0, f) x = (0, f)) ∧ (z < x → (rowS w y (0, f) x).2 = [(z : Int), (y : Int)] ∧ (rowS w y (0, f) x).1 ≠ 0)
  | 0 => ⟨fun _ => rfl, fun h => absurd h (by omega)⟩
  | x + 1 => by
    obtain ⟨a, b⟩ := rowS_first (y := y) (f := f) h1 h2 x
    refine ⟨fun h => ?_, fun h => ?_⟩
    · have h3 := h2 x (by omega)
      have : w / 2 ^ x % 2 = 0 := Decidable.byContradiction fun hn => by rw [(bit_mod w x).2 hn] at h3; cases h3
      unfold rowS
      rw [if_pos this, a (by omega)]
    · by_cases e : x = z
      · subst e
        unfold rowS
        rw [if_neg ((bit_mod w x).1 h1), a (Nat.le_refl _)]
        simp
      · obtain ⟨b1, b2⟩ := b (by omega)
        unfold rowS
        split
        · exact ⟨b1, b2⟩
        · simp only
          exact ⟨b1, by omega⟩
theorem allS_none {W : Nat → Nat} : ∀ {y : Nat}, (∀ j, j < y → W j = 0) → allS W y = (0, [0, 0])
  | 0, _ => rfl
  | y + 1, h => by unfold allS; rw [h y (by omega), rowS_zero, allS_none fun j hj => h j (by omega)]
theorem allS_first {W : Nat → Nat} {y : Nat} (h0 : ∀ j, j < y → W j = 0) (hw : W y ≠ 0) (hlt : W y < 18446744073709551616) : ∀ k, y < k → (allS W k).2 = [((fstZ (W y).testBit : Nat) : Int), (y : Int)] ∧ (allS W k).1 ≠ 0
  | 0, h => absurd h (by omega)
  | k + 1, h => by
    by_cases e : k = y
    · subst e
      unfold allS
      rw [allS_none h0]
      have hany : (List.range 64).any (W k).testBit = true := by
        have h1 : (W k : Int) = row (W k).testBit := by unfold row; rw [← mkN_eq (p := (W k).testBit) (n := 64) (by omega) (fun _ _ => rfl)]
        rw [← row_ne, ← h1]
        simpa using hw
      obtain ⟨z1, z2, z3⟩ := fstZ_some hany
      exact (rowS_first (y := k) (f := [0, 0]) z2 z3 64).2 z1
    · obtain ⟨a, b⟩ := allS_first h0 hw hlt k (by omega)
      have h2 := rowS_cnt (W k) k (allS W k) 64
      unfold allS
      exact ⟨by rw [rowS_keep _ _ _ b]; exact a, by omega⟩
abbrev CmR : Type := Int × (List Int × (Int × Unit))
def cmR (m : Mch) (p : List Int) : CmR := if okM m = true then (if (allS (dif p (drawTo m m.1.length)) 64).1 = 0 then (0, [0, 0], 6, ()) else (((allS (dif p (drawTo m m.1.length)) 64).1 : Nat), (allS (dif p (drawTo m m.1.length)) 64).2, 0, ())) else (0, [0, 0], 1, ())
theorem rowS_len (w y : Nat) {s : Nat × List Int} (h : s.2.length = 2) : ∀ x, (rowS w y s x).2.length = 2
  | 0 => h
  | x + 1 => by
    have := rowS_len w y h x
    unfold rowS
    split
    · exact this
    · simp only
      split
      · rfl
      · exact this
theorem allS_len (W : Nat → Nat) : ∀ y, (allS W y).2.length = 2
  | 0 => rfl
  | y + 1 => rowS_len _ _ (allS_len W y) 64
theorem cmR_len (m : Mch) (p : List Int) : (cmR m p).2.1.length = 2 := by
  unfold cmR
  split
  · split
    · rfl
    · exact allS_len _ _
  · rfl
theorem tb_self {l : List Int} {n : Nat} (h : l.length = n) : l = tb n (g l) := by
  apply List.ext_getElem?
  intro i
  by_cases hi : i < n
  · rw [tb_get hi]
    unfold g
    rw [List.getD_eq_getElem?_getD, List.getElem?_eq_getElem (by omega)]
    rfl
  · rw [List.getElem?_eq_none (by omega), List.getElem?_eq_none (by rw [tb_len]; omega)]
theorem g_tb {n : Nat} {G : Nat → Int} {i : Nat} (h : i < n) : g (tb n G) i = G i := by
  unfold g
  rw [List.getD_eq_getElem?_getD, tb_get h]; rfl
end Go.Cams

/- Texts of cams, in plain terms. -/
namespace Go.Cams
open Go Go.Fw
def tx (l : List UInt8) : ByteArray := ⟨l.toArray⟩
theorem tx_app (a b : List UInt8) : tx a ++ tx b = tx (a ++ b) := by
  apply ByteArray.ext
  simp [tx, ByteArray.data_append]
theorem tx_size (a : List UInt8) : (tx a).size = a.length := by
  show (a.toArray).size = _
  simp
theorem tx_list (a : List UInt8) : (tx a).data.toList = a := rfl
theorem tx_strOf (x : Int) : strOf [x] = tx [UInt8.ofNat x.toNat] := by
  apply ByteArray.ext
  rfl
theorem dec_len {u : Nat} (h : u ≤ 9223372036854775807) : (Lib.decDigits u).length ≤ 21 := by
  have := Lib.itoa_length_le (u : Int) (by omega) (by omega)
  rwa [Lib.itoa_nonneg] at this
theorem dec_small {u : Nat} (h : u < 10) : Lib.decDigits u = [UInt8.ofNat (48 + u)] := Lib.decDigits_one h
theorem dec_big {u : Nat} (h : ¬ u < 10) : Lib.decDigits u = Lib.decDigits (u / 10) ++ [UInt8.ofNat (48 + u % 10)] := by rw [Lib.decDigits, dif_neg h]
theorem digit_wr {u : Nat} (h : u < 10) : wr .u8 (wr .i64 (48 + (u : Int))) = 48 + (u : Int) := by
  rw [wrap_id (x := 48 + (u : Int)) (by omega) (by omega)]
  show IntKind.u8.wrap _ = _
  simp [IntKind.wrap, IntKind.signed, IntKind.bits]; omega
theorem join_snoc {ws : List (List UInt8)} (h : ws ≠ []) (w s : List UInt8) : Lib.join (ws ++ [w]) s = Lib.join ws s ++ (s ++ w) := by
  cases ws with
  | nil => exact absurd rfl h
  | cons x r => rw [List.cons_append, Lib.join_cons, Lib.join_cons]; simp [Lib.joinTail]
/-- Runs of the same number: the number, and how often. -/
def rle : List Int → List (Int × Nat)
  | [] => []
  | v :: r => match rle r with
    | [] => [(v, 1)]
    | (w, k) :: t => if w = v then (w, k + 1) :: t else (v, 1) :: (w, k) :: t
theorem rle_cons (v : Int) (r : List Int) : rle (v :: r) = match rle r with
    | [] => [(v, 1)]
    | (w, k) :: t => if w = v then (w, k + 1) :: t else (v, 1) :: (w, k) :: t := rfl
theorem rle_head : ∀ (l : List Int) {w : Int} {k : Nat} {t : List (Int × Nat)}, rle l = (w, k) :: t → l.head? = some w
  | [], _, _, _, h => by cases h
  | v :: r, w, k, t, h => by
    rw [rle_cons] at h
    split at h
    · simp only [List.cons.injEq, Prod.mk.injEq] at h; simp [h.1.1]
    · split at h
      · rename_i e
        simp only [List.cons.injEq, Prod.mk.injEq] at h
        simp [← e, h.1.1]
      · simp only [List.cons.injEq, Prod.mk.injEq] at h; simp [h.1.1]
theorem rle_run (v : Int) {t : List Int} (ht : t.head? ≠ some v) : ∀ k, rle (List.replicate (k + 1) v ++ t) = (v, k + 1) :: rle t
  | 0 => by
    simp only [List.replicate_succ, List.replicate_zero, List.cons_append, List.nil_append]
    rw [rle_cons]
    split
    · rename_i h
      rw [h]
    · rename_i w k r h
      have := rle_head t h
      rw [if_neg (fun e => ht (by rw [this, e])), h]
  | k + 1 => by
    have ih := rle_run v ht k
    rw [List.replicate_succ, List.cons_append, rle_cons, ih]
    simp
/-- A stretch of the same number within a list. -/
theorem rle_drop {c : List Int} {i j : Nat} (h1 : i < j) (h2 : j ≤ c.length) (h3 : ∀ u, i ≤ u → u < j → g c u = g c i) (h4 : j = c.length ∨ g c j ≠ g c i) : rle (c.drop i) = (g c i, j - i) :: rle (c.drop j) := by
  have e : c.drop i = List.replicate (j - i - 1 + 1) (g c i) ++ c.drop j := by
    apply List.ext_getElem?
    intro n
    rw [List.getElem?_drop, show j - i - 1 + 1 = j - i by omega]
    by_cases hn : n < j - i
    · rw [List.getElem?_append_left (by simpa using hn), List.getElem?_replicate, if_pos hn]
      have := h3 (i + n) (by omega) (by omega)
      unfold g at this ⊢
      rw [← this, List.getD_eq_getElem?_getD, List.getElem?_eq_getElem (by omega)]
      rfl
    · rw [List.getElem?_append_right (by simp; omega), List.getElem?_drop, List.length_replicate]
      congr 1; omega
  rw [e, rle_run]
  · congr 2; omega
  · rcases h4 with h4 | h4
    · rw [h4, List.drop_length]; simp
    · intro h
      rw [List.head?_drop] at h
      apply h4
      unfold g
      rw [List.getD_eq_getElem?_getD, h]; rfl
theorem rle_len : ∀ l : List Int, (rle l).length ≤ l.length
  | [] => Nat.le_refl _
  | v :: r => by
    have := rle_len r
    rw [rle_cons]
    split
    · simp
    · rename_i h
      rw [h] at this
      split
      · simpa using Nat.le_succ_of_le this
      · simpa using this
def wordL (x : Int × Nat) : List UInt8 := if x.2 > 1 then Lib.decDigits x.1.toNat ++ 42 :: Lib.decDigits x.2 else Lib.decDigits x.1.toNat
theorem wordL_len {x : Int × Nat} (h1 : x.1 ≤ 10000000) (h2 : x.2 ≤ 10000000) : (wordL x).length ≤ 43 := by
  have a := dec_len (u := x.1.toNat) (by omega)
  have b := dec_len (u := x.2) (by omega)
  unfold wordL
  split
  · simp; omega
  · omega
def camJ (c : List Int) : List UInt8 := Lib.join ((rle c).map wordL) [32]
def camT (c : List Int) : ByteArray := if okC c = true then tx (camJ c) else tx []
theorem join_len (s : List UInt8) : ∀ (ws : List (List UInt8)) {m : Nat}, (∀ w ∈ ws, w.length ≤ m) → (Lib.join ws s).length ≤ ws.length * (m + s.length)
  | [], _, _ => by simp [Lib.join_nil]
  | x :: r, m, h => by
    have hx := h x (by simp)
    have ht : ∀ r : List (List UInt8), (∀ w ∈ r, w.length ≤ m) → (Lib.joinTail s r).length ≤ r.length * (m + s.length) := by
      intro r
      induction r with
      | nil => intro _; simp [Lib.joinTail]
      | cons y r ih =>
        intro h
        have h1 := h y (by simp)
        have h2 := ih fun w hw => h w (by simp [hw])
        simp only [Lib.joinTail, List.map_cons, List.flatten_cons, List.length_append, List.length_cons] at h2 ⊢
        rw [Nat.add_mul]
        omega
    have := ht r fun w hw => h w (by simp [hw])
    rw [Lib.join_cons, List.length_append, List.length_cons, Nat.add_mul]
    omega
end Go.Cams
namespace Go.Cams
open Go Go.Fw
theorem szT {a b : List UInt8} (ha : a.length ≤ 1000000000) (hb : b.length ≤ 1000000000) : decide ((((tx a).size + (tx b).size : Nat) : Int) ≤ 4611686018427387904) = true := by
  rw [tx_size, tx_size]
  exact decide_eq_true (by omega)
end Go.Cams
namespace Go.Cams
open Go Go.Fw
theorem rle_el : ∀ (l : List Int), ∀ x ∈ rle l, x.1 ∈ l ∧ x.2 ≤ l.length
  | [], x, h => by cases h
  | v :: r, x, h => by
    have ih := rle_el r
    rw [rle_cons] at h
    split at h
    · simp at h; rw [h]; simp
    · rename_i w k t e
      rw [e] at ih
      split at h
      · rcases List.mem_cons.1 h with h | h
        · have := ih (w, k) (by simp)
          rw [h]
          exact ⟨List.mem_cons_of_mem _ this.1, by simp; exact this.2⟩
        · have := ih x (List.mem_cons_of_mem _ h)
          exact ⟨List.mem_cons_of_mem _ this.1, by simp; omega⟩
      · rcases List.mem_cons.1 h with h | h
        · rw [h]; simp
        · have := ih x h
          exact ⟨List.mem_cons_of_mem _ this.1, by simp; omega⟩
theorem camJ_len {c : List Int} (hl : c.length ≤ 1000) (hC : ∀ v ∈ c, 0 ≤ v ∧ v ≤ 10000) : (camJ c).length ≤ 1000000 := by
  have h1 := rle_len c
  have h := join_len [32] ((rle c).map wordL) (m := 43) (fun w hw => by
    obtain ⟨x, hx, rfl⟩ := List.mem_map.1 hw
    have := rle_el c x hx
    have := hC _ this.1
    exact wordL_len (by omega) (by omega))
  simp only [List.length_map, List.length_cons, List.length_nil] at h
  unfold camJ
  omega
theorem machC : (⟨#[120, 32]⟩ : ByteArray) = tx [120, 32] ∧ (⟨#[10, 121, 32]⟩ : ByteArray) = tx [10, 121, 32] ∧ (⟨#[10, 112, 101, 110, 32]⟩ : ByteArray) = tx [10, 112, 101, 110, 32] ∧ (⟨#[10]⟩ : ByteArray) = tx [10] := ⟨rfl, rfl, rfl, rfl⟩
def machT (m : Mch) : ByteArray := tx (((((([120, 32] ++ camJ m.1) ++ [10, 121, 32]) ++ camJ m.2.1) ++ [10, 112, 101, 110, 32]) ++ camJ m.2.2.1) ++ [10])
def mtR (m : Mch) : ByteArray := if okM m = true then machT m else tx []
end Go.Cams

/- Programs and their texts, in plain terms. -/
namespace Go.Cams
open Go Go.Fw
abbrev MoTy : Ty := .pair (.int .i8) (.pair (.int .i16) (.pair (.int .i16) .unit))
structure RngMo (L : List Ct) : Prop where
  len : (L.length : Int) * 6 ≤ 140737488351232
  el : ∀ v ∈ L, (-128 ≤ v.1 ∧ v.1 ≤ 127) ∧ (-32768 ≤ v.2.1 ∧ v.2.1 ≤ 32767) ∧ (-32768 ≤ v.2.2.1 ∧ v.2.2.1 ≤ 32767)
theorem rngMo_of {L : List Ct} (h : Dom (.slc MoTy) L) : RngMo L := ⟨Int.ofNat_le.2 h.1, fun v hv => (h.2 v hv).elim fun a b => ⟨a, b.1, b.2.1⟩⟩
theorem RngMo.len' {L : List Ct} (h : RngMo L) : (L.length : Int) ≤ 23456248058538 := by have := h.len; omega
theorem RngMo.i1 {L : List Ct} (h : RngMo L) {v : Ct} (hv : v ∈ L) : wr .i64 v.1 = v.1 := by have := (h.el v hv).1; exact wrap_id (by omega) (by omega)
theorem RngMo.i2 {L : List Ct} (h : RngMo L) {v : Ct} (hv : v ∈ L) : wr .i64 v.2.1 = v.2.1 := by have := (h.el v hv).2.1; exact wrap_id (by omega) (by omega)
theorem RngMo.i3 {L : List Ct} (h : RngMo L) {v : Ct} (hv : v ∈ L) : wr .i64 v.2.2.1 = v.2.2.1 := by have := (h.el v hv).2.2; exact wrap_id (by omega) (by omega)
structure RngPg (p : Prg) : Prop where
  t : -32768 ≤ p.1 ∧ p.1 ≤ 32767
  m : RngMo p.2.1
theorem rngPg_of {p : Prg} (h : Dom (.pair (.int .i16) (.pair (.slc MoTy) .unit)) p) : RngPg p := ⟨h.1, rngMo_of h.2.1⟩
def moOk (v : Ct) : Bool := inR (wr .i64 v.1) 0 3 && !decide (v.2.1 < 1) && inR (wr .i64 v.2.2.1) 0 10000
def sumM : List Ct → Int
  | [] => 0
  | v :: r => v.2.1 + sumM r
theorem sumM_snoc (l : List Ct) (v : Ct) : sumM (l ++ [v]) = sumM l + v.2.1 := by
  induction l with
  | nil => simp [sumM]
  | cons a l ih => simp only [List.cons_append, sumM, ih]; omega
theorem sumM_bd : ∀ l : List Ct, (∀ v ∈ l, -32768 ≤ v.2.1 ∧ v.2.1 ≤ 32767) → -32768 * (l.length : Int) ≤ sumM l ∧ sumM l ≤ 32768 * (l.length : Int)
  | [], _ => by simp [sumM]
  | v :: r, h => by
    have h1 := h v (by simp)
    have h2 := sumM_bd r fun u hu => h u (by simp [hu])
    simp only [sumM, List.length_cons]
    omega
theorem sumM_take {L : List Ct} (hr : RngMo L) (h : (L.length : Int) ≤ 24) (i : Nat) : -1000000 ≤ sumM (L.take i) ∧ sumM (L.take i) ≤ 1000000 := by
  have := sumM_bd (L.take i) fun v hv => (hr.el v (List.mem_of_mem_take hv)).2.1
  have h2 : ((L.take i).length : Int) ≤ 24 := by rw [List.length_take]; omega
  omega
def lastT (L : List Ct) : Int := ((idx L ((L.length : Int) - 1)).map fun v => v.2.2.1).getD 0
def okPg (p : Prg) : Bool := inR (p.2.1.length : Int) 1 24 && inR (wr .i64 p.1) 0 10000 && p.2.1.all moOk && inR (sumM p.2.1) 8 360 && (lastT p.2.1 == p.1)
structure GoodPg (p : Prg) : Prop where
  n : 1 ≤ (p.2.1.length : Int) ∧ (p.2.1.length : Int) ≤ 24
  t : 0 ≤ p.1 ∧ p.1 ≤ 10000
  el : ∀ v ∈ p.2.1, (0 ≤ v.1 ∧ v.1 ≤ 3) ∧ 1 ≤ v.2.1 ∧ (0 ≤ v.2.2.1 ∧ v.2.2.1 ≤ 10000)
theorem goodPg {p : Prg} (hr : RngPg p) (h : okPg p = true) : GoodPg p := by
  simp only [okPg, Bool.and_eq_true, inR_iff, List.all_eq_true] at h
  obtain ⟨⟨⟨⟨h1, h2⟩, h3⟩, _⟩, _⟩ := h
  have ht := hr.t
  rw [wrap_id (x := p.1) (by omega) (by omega)] at h2
  refine ⟨h1, h2, fun v hv => ?_⟩
  have h4 := h3 v hv
  simp only [moOk, Bool.and_eq_true, inR_iff] at h4
  rw [hr.m.i1 hv, hr.m.i3 hv] at h4
  obtain ⟨⟨h5, h6⟩, h7⟩ := h4
  have h6 : ¬ v.2.1 < 1 := by simpa using h6
  exact ⟨h5, by omega, h7⟩
def ltr (k : Int) : UInt8 := if k = 0 then 101 else if k = 1 then 115 else if k = 2 then 99 else 102
theorem ltr_cut {k : Int} (h0 : 0 ≤ k) (h1 : k ≤ 3) : (⟨#[101, 115, 99, 102]⟩ : ByteArray).extract k.toNat (k + 1).toNat = tx [ltr k] := by
  have : k = 0 ∨ k = 1 ∨ k = 2 ∨ k = 3 := by omega
  rcases this with rfl | rfl | rfl | rfl <;> rfl
theorem wr_i8 {x : Int} (h0 : -128 ≤ x) (h1 : x ≤ 127) : wr .i8 x = x := by
  show IntKind.i8.wrap x = x
  simp [IntKind.wrap, IntKind.signed, IntKind.bits]; omega
def motW (v : Ct) : List UInt8 := ltr v.1 :: (Lib.decDigits v.2.1.toNat ++ 58 :: Lib.decDigits v.2.2.1.toNat)
theorem motW_len {v : Ct} (h1 : v.2.1 ≤ 32767) (h2 : v.2.2.1 ≤ 32767) : (motW v).length ≤ 45 := by
  have a := dec_len (u := v.2.1.toNat) (by omega)
  have b := dec_len (u := v.2.2.1.toNat) (by omega)
  unfold motW
  simp; omega
def pgW (t : Int) (l : List Ct) : List (List UInt8) := Lib.decDigits t.toNat :: l.map motW
theorem pgW_snoc (t : Int) (l : List Ct) (v : Ct) : pgW t (l ++ [v]) = pgW t l ++ [motW v] := by simp [pgW]
theorem pgW_ne (t : Int) (l : List Ct) : pgW t l ≠ [] := by simp [pgW]
theorem pgW_len {t : Int} {L : List Ct} (hr : RngMo L) (ht : t ≤ 32767) (hl : (L.length : Int) ≤ 24) (i : Nat) : (Lib.join (pgW t (L.take i)) [32]).length ≤ 10000 ∧ (pgW t (L.take i)).length ≤ 25 := by
  have h2 : (L.take i).length ≤ 24 := by rw [List.length_take]; omega
  have h := join_len [32] (pgW t (L.take i)) (m := 45) (fun w hw => by
    rcases List.mem_cons.1 hw with hw | hw
    · have := dec_len (u := t.toNat) (by omega)
      rw [hw]; omega
    · obtain ⟨v, hv, rfl⟩ := List.mem_map.1 hw
      have := hr.el v (List.mem_of_mem_take hv)
      exact motW_len (by omega) (by omega))
  have h3 : (pgW t (L.take i)).length = (L.take i).length + 1 := by simp [pgW]
  simp only [List.length_cons, List.length_nil] at h
  omega
def ptR (p : Prg) : ByteArray := if okPg p = true then tx (Lib.join (pgW p.1 p.2.1) [32]) else tx []
end Go.Cams

/- What is drawn out of bytes, and lifts between others, in plain terms. -/
namespace Go.Cams
open Go Go.Fw
theorem shN_in {w k n : Int} (w0 : 0 ≤ w) (w1 : w ≤ 3) (k0 : 0 ≤ k) (k1 : k ≤ n) (n0 : 1 ≤ n) : 0 ≤ shN w k n ∧ shN w k n ≤ shD w n := by
  have m0 : 0 ≤ n - k := by omega
  have nn : 0 ≤ n := by omega
  have kk := Int.mul_nonneg k0 k0
  have kn := Int.mul_nonneg k0 nn
  have mm := Int.mul_nonneg m0 m0
  rcases (show w = 0 ∨ w = 1 ∨ w = 2 ∨ w = 3 by omega) with rfl | rfl | rfl | rfl
  · unfold shN shD; simp; omega
  · unfold shN shD
    rw [if_pos rfl, if_pos rfl]
    split
    · rename_i h
      have a : n * n - 2 * k * k = n * (n - 2 * k) + 2 * (k * (n - k)) := by grind
      have b := Int.mul_nonneg nn (show 0 ≤ n - 2 * k by omega)
      have c := Int.mul_nonneg k0 m0
      have d : 2 * k * k = 2 * (k * k) := by grind
      omega
    · rename_i h
      have a : n * n - 2 * (n - k) * (n - k) = n * (n - 2 * (n - k)) + 2 * ((n - k) * k) := by grind
      have b := Int.mul_nonneg nn (show 0 ≤ n - 2 * (n - k) by omega)
      have c := Int.mul_nonneg m0 k0
      have d : 2 * (n - k) * (n - k) = 2 * ((n - k) * (n - k)) := by grind
      omega
  · unfold shN shD
    rw [if_neg (by decide), if_pos rfl, if_neg (by decide), if_pos rfl]
    have a : 3 * k * k * n - 2 * k * k * k = k * k * (3 * n - 2 * k) := by grind
    have b := Int.mul_nonneg kk (show 0 ≤ 3 * n - 2 * k by omega)
    have c : n * n * n - (3 * k * k * n - 2 * k * k * k) = (n - k) * (n - k) * (n + 2 * k) := by grind
    have d := Int.mul_nonneg mm (show 0 ≤ n + 2 * k by omega)
    omega
  · unfold shN shD
    rw [if_neg (by decide), if_neg (by decide), if_pos rfl, if_neg (by decide), if_neg (by decide), if_pos rfl]
    have a : 10 * n * n - 15 * k * n + 6 * k * k = 6 * ((n - k) * (n - k)) + n * (4 * n - 3 * k) := by grind
    have b := Int.mul_nonneg nn (show 0 ≤ 4 * n - 3 * k by omega)
    have c : 0 ≤ 10 * n * n - 15 * k * n + 6 * k * k := by omega
    have d := Int.mul_nonneg (Int.mul_nonneg kk k0) c
    have e : n * n * n * n * n - k * k * k * (10 * n * n - 15 * k * n + 6 * k * k) = (n - k) * (n - k) * (n - k) * (n * n + 3 * n * k + 6 * k * k) := by grind
    have nn2 := Int.mul_nonneg nn nn
    have f : 0 ≤ n * n + 3 * n * k + 6 * k * k := by
      have e1 : n * n + 3 * n * k + 6 * k * k = n * n + 3 * (k * n) + 6 * (k * k) := by grind
      omega
    have h := Int.mul_nonneg (Int.mul_nonneg mm m0) f
    omega
theorem nr_in {x d lo hi : Int} (hd : 0 < d) (h1 : lo * d ≤ x) (h2 : x ≤ hi * d) : lo ≤ nr x d ∧ nr x d ≤ hi := by
  unfold nr
  constructor
  · apply (Int.le_ediv_iff_mul_le (by omega)).2
    have : lo * (2 * d) = 2 * (lo * d) := by grind
    omega
  · have : (2 * x + d) / (2 * d) < hi + 1 := by
      apply (Int.ediv_lt_iff_lt_mul (by omega)).2
      have : (hi + 1) * (2 * d) = 2 * (hi * d) + 2 * d := by grind
      omega
    omega
/-- A lift of a motion lies between its ends. -/
theorem liftP_in {f t w k n lo hi : Int} (w0 : 0 ≤ w) (w1 : w ≤ 3) (k0 : 0 ≤ k) (k1 : k ≤ n) (n0 : 1 ≤ n) (n1 : n ≤ 360) (f0 : lo ≤ f) (f1 : f ≤ hi) (t0 : lo ≤ t) (t1 : t ≤ hi) : lo ≤ liftP f t w k n ∧ liftP f t w k n ≤ hi := by
  have hd := shD_bd (w := w) n0 n1
  obtain ⟨s0, s1⟩ := shN_in w0 w1 k0 k1 n0
  unfold liftP
  generalize shN w k n = s at *
  generalize shD w n = d at *
  have a1 := Int.mul_nonneg (show 0 ≤ f - lo by omega) (show 0 ≤ d - s by omega)
  have a2 := Int.mul_nonneg (show 0 ≤ t - lo by omega) s0
  have a3 := Int.mul_nonneg (show 0 ≤ hi - f by omega) (show 0 ≤ d - s by omega)
  have a4 := Int.mul_nonneg (show 0 ≤ hi - t by omega) s0
  have e1 : f * d + (t - f) * s - lo * d = (f - lo) * (d - s) + (t - lo) * s := by grind
  have e2 : hi * d - (f * d + (t - f) * s) = (hi - f) * (d - s) + (hi - t) * s := by grind
  exact nr_in (by omega) (by omega) (by omega)
/-- A source of numbers: the bytes, how many have been read, and its state. -/
abbrev Src : Type := List Int × (Int × (Int × Unit))
structure GoodSrc (s : Src) : Prop where
  by_ : ∀ v ∈ s.1, 0 ≤ v ∧ v ≤ 255
  len : (s.1.length : Int) ≤ 1000000
  pos : 0 ≤ s.2.1 ∧ s.2.1 ≤ 1000000000000
/-- A number of times that a source is still read. -/
def SrcAt (k : Int) (s : Src) : Prop := (∀ v ∈ s.1, 0 ≤ v ∧ v ≤ 255) ∧ (s.1.length : Int) ≤ 1000000 ∧ 0 ≤ s.2.1 ∧ s.2.1 ≤ k
theorem SrcAt.mono {k j : Int} {s : Src} (h : SrcAt k s) (hk : k ≤ j) : SrcAt j s := ⟨h.1, h.2.1, h.2.2.1, Int.le_trans h.2.2.2 hk⟩
theorem and_255 {a : Nat} (h : a < 18446744073709551616) : bitsI .and .u64 (a : Int) (255 : Int) = ((a % 256 : Nat) : Int) := by
  rw [show (255 : Int) = ((255 : Nat) : Int) from rfl, and_nat h (by omega), show (255 : Nat) = 2 ^ 8 - 1 from rfl, Nat.and_two_pow_sub_one_eq_mod]
end Go.Cams
namespace Go.Fw
/-- A loop whose result is not told beforehand. -/
theorem loop_ex {σ α : Type} {f : Nat → σ → (σ → Option α) → Option α} (I : σ → Prop) (μ : σ → Nat) (Q : α → Prop) {x : σ} (h : I x)
    (step : ∀ x, I x → (∃ y, Q y ∧ Round (fun n ag => f n x ag) y (fun _ => False)) ∨ (∃ x1, I x1 ∧ μ x1 < μ x ∧ ∀ y, Round (fun n ag => f n x ag) y (fun x' => x' = x1))) : ∃ y, Q y ∧ Evt (fun n => loopK (f n) n x) y := by
  have key : ∀ m x, I x → μ x ≤ m → ∃ y, Q y ∧ ∃ N, ∀ n, N ≤ n → ∀ k, m < k → loopK (f n) k x = some y := by
    intro m
    induction m with
    | zero =>
      intro x hx hm
      rcases step x hx with ⟨y, hy, hR⟩ | ⟨x1, _, h2, _⟩
      · rcases hR with ⟨N, hN⟩ | ⟨_, hF, _⟩
        · refine ⟨y, hy, N, fun n hn k hk => ?_⟩
          obtain ⟨k, rfl⟩ : ∃ j, k = j + 1 := ⟨k - 1, by omega⟩
          exact hN n hn _
        · exact hF.elim
      · omega
    | succ m ih =>
      intro x hx hm
      rcases step x hx with ⟨y, hy, hR⟩ | ⟨x1, h1, h2, hR⟩
      · rcases hR with ⟨N, hN⟩ | ⟨_, hF, _⟩
        · refine ⟨y, hy, N, fun n hn k hk => ?_⟩
          obtain ⟨k, rfl⟩ : ∃ j, k = j + 1 := ⟨k - 1, by omega⟩
          exact hN n hn _
        · exact hF.elim
      · obtain ⟨y, hy, M, hM⟩ := ih x1 h1 (by omega)
        rcases hR y with ⟨N, hN⟩ | ⟨x', rfl, N, hN⟩
        · refine ⟨y, hy, N, fun n hn k hk => ?_⟩
          obtain ⟨k, rfl⟩ : ∃ j, k = j + 1 := ⟨k - 1, by omega⟩
          exact hN n hn _
        · refine ⟨y, hy, N + M, fun n hn k hk => ?_⟩
          obtain ⟨k, rfl⟩ : ∃ j, k = j + 1 := ⟨k - 1, by omega⟩
          show f n x (loopK (f n) k) = _
          exact (hN n (by omega) _).trans (hM n (by omega) k (by omega))
  obtain ⟨y, hy, N, hN⟩ := key (μ x) x h (Nat.le_refl _)
  exact ⟨y, hy, N + μ x + 1, fun n hn => hN n (by omega) n (by omega)⟩
end Go.Fw
namespace Go.Cams
open Go Go.Fw
/-- A motion as it is drawn. -/
def MoSm (v : Ct) : Prop := (0 ≤ v.1 ∧ v.1 ≤ 3) ∧ (1 ≤ v.2.1 ∧ v.2.1 ≤ 9) ∧ (0 ≤ v.2.2.1 ∧ v.2.2.1 ≤ 59)
theorem sumM_sm : ∀ l : List Ct, (∀ v ∈ l, MoSm v) → (l.length : Int) ≤ sumM l ∧ sumM l ≤ 9 * l.length
  | [], _ => by simp [sumM]
  | v :: r, h => by
    have h1 := (h v (by simp)).2.1
    have h2 := sumM_sm r fun u hu => h u (by simp [hu])
    simp only [sumM, List.length_cons]
    omega
theorem last_split {L : List Ct} (h : 0 < L.length) : ∃ M v, L = M ++ [v] := by
  refine ⟨L.take (L.length - 1), L[L.length - 1]'(by omega), ?_⟩
  have := List.take_concat_get (l := L) (i := L.length - 1) (by omega)
  rw [show L.length - 1 + 1 = L.length by omega, List.take_length] at this
  rw [← List.concat_eq_append]
  exact this.symm
theorem lastT_snoc (M : List Ct) (v : Ct) : lastT (M ++ [v]) = v.2.2.1 := by
  unfold lastT idx
  rw [if_pos (by simp), show (((M ++ [v]).length : Int) - 1).toNat = M.length by simp]
  simp
structure SmPg (p : Prg) : Prop where
  rng : RngPg p
  ok : okPg p = true
  n : (p.2.1.length : Int) ≤ 5
  sum : 8 ≤ sumM p.2.1 ∧ sumM p.2.1 ≤ 45
  t : 0 ≤ p.1 ∧ p.1 ≤ 59
  el : ∀ v ∈ p.2.1, (0 ≤ v.1 ∧ v.1 ≤ 3) ∧ (1 ≤ v.2.1 ∧ v.2.1 ≤ 45) ∧ (0 ≤ v.2.2.1 ∧ v.2.2.1 ≤ 59)
theorem smPg {t : Int} {M : List Ct} {a b : Int} (t0 : 0 ≤ t) (t1 : t ≤ 29) (hM : ∀ v ∈ M, MoSm v) (hn : (M.length : Int) ≤ 4) (a0 : 0 ≤ a) (a1 : a ≤ 3) (b0 : 1 ≤ b) (b1 : b ≤ 45) (s0 : 8 ≤ sumM M + b) (s1 : sumM M + b ≤ 45) : SmPg (t, M ++ [(a, b, t, ())], ()) := by
  have hel : ∀ v ∈ M ++ [(a, b, t, ())], (0 ≤ v.1 ∧ v.1 ≤ 3) ∧ (1 ≤ v.2.1 ∧ v.2.1 ≤ 45) ∧ (0 ≤ v.2.2.1 ∧ v.2.2.1 ≤ 59) := fun v hv => by
    rcases List.mem_append.1 hv with hv | hv
    · have := hM v hv
      unfold MoSm at this
      omega
    · simp at hv; rw [hv]; simp only; omega
  have hl : ((M ++ [(a, b, t, ())]).length : Int) = M.length + 1 := by simp
  have hs : sumM (M ++ [(a, b, t, ())]) = sumM M + b := sumM_snoc _ _
  have hr : RngPg (t, M ++ [(a, b, t, ())], ()) := ⟨by simp only; omega, by simp only; omega, fun v hv => by have := hel v hv; omega⟩
  refine ⟨hr, ?_, by simp only; omega, by simp only; omega, by simp only; omega, hel⟩
  have hall : (M ++ [(a, b, t, ())]).all moOk = true := List.all_eq_true.2 fun v hv => by
    have h1 := hel v hv
    unfold moOk
    rw [hr.m.i1 hv, hr.m.i3 hv]
    simp only [Bool.and_eq_true, inR_iff, Bool.not_eq_true', decide_eq_false_iff_not]
    omega
  unfold okPg
  simp only
  rw [hall, wrap_id (x := t) (by omega) (by omega), lastT_snoc, hs]
  simp only [Bool.and_eq_true, inR_iff, beq_self_eq_true, and_true]
  omega
end Go.Cams
namespace Go.Fw
variable {α β σ : Type}
/-- A result of which something is told. -/
def EvtX (f : Nat → Option α) (Q : α → Prop) : Prop := ∃ y, Q y ∧ Evt f y
theorem EvtX.next {f g : Nat → Option α} {Q : α → Prop} (h : EvtX g Q) (e : ∀ n, f (n + 1) = g n) : EvtX f Q := by
  obtain ⟨y, hy, hE⟩ := h
  exact ⟨y, hy, hE.next e⟩
theorem EvtX.bind {f : Nat → Option β} {g : Nat → β → Option α} {x : β} {Q : α → Prop} (h : Evt f x) (k : EvtX (fun n => g n x) Q) : EvtX (fun n => (f n).bind (g n)) Q := by
  obtain ⟨y, hy, hE⟩ := k
  exact ⟨y, hy, Evt.bind h hE⟩
theorem EvtX.loop {f : Nat → σ → (σ → Option α) → Option α} (I : σ → Prop) (μ : σ → Nat) {Q : α → Prop} {x : σ} (h : I x)
    (step : ∀ x, I x → (∃ y, Q y ∧ Round (fun n ag => f n x ag) y (fun _ => False)) ∨ (∃ x1, I x1 ∧ μ x1 < μ x ∧ ∀ y, Round (fun n ag => f n x ag) y (fun x' => x' = x1))) : EvtX (fun n => loopK (f n) n x) Q := loop_ex I μ Q h step
end Go.Fw
namespace Go.Cams
open Go Go.Fw
/-- The lifts of a motion, and of several. -/
def seg (f : Int) (v : Ct) : List Int := (List.range v.2.1.toNat).map fun k => liftP f v.2.2.1 v.1 (k : Nat) v.2.1
def toF (f : Int) (l : List Ct) : Int := l.foldl (fun _ v => v.2.2.1) f
def proF (f : Int) : List Ct → List Int
  | [] => []
  | v :: r => seg f v ++ proF v.2.2.1 r
theorem toF_snoc (f : Int) (l : List Ct) (v : Ct) : toF f (l ++ [v]) = v.2.2.1 := by simp [toF]
theorem proF_snoc : ∀ (l : List Ct) (f : Int) (v : Ct), proF f (l ++ [v]) = proF f l ++ seg (toF f l) v
  | [], f, v => by simp [proF, toF]
  | u :: r, f, v => by
    rw [List.cons_append, proF, proF_snoc r, proF, List.append_assoc]
    rfl
theorem seg_len (f : Int) (v : Ct) : (seg f v).length = v.2.1.toNat := by simp [seg]
theorem seg_take (f : Int) (v : Ct) {i : Int} (h : 0 ≤ i) (h1 : i < v.2.1) : (seg f v).take (i + 1).toNat = (seg f v).take i.toNat ++ [liftP f v.2.2.1 v.1 i v.2.1] := by
  rw [show (i + 1).toNat = i.toNat + 1 by omega, List.take_add_one]
  congr 1
  unfold seg
  rw [List.getElem?_map, List.getElem?_range (by omega)]
  simp only [Option.map_some, Option.toList]
  rw [show ((i.toNat : Nat) : Int) = i by omega]
theorem seg_el {f : Int} {v : Ct} {lo hi : Int} (w0 : 0 ≤ v.1) (w1 : v.1 ≤ 3) (n0 : 1 ≤ v.2.1) (n1 : v.2.1 ≤ 360) (f0 : lo ≤ f) (f1 : f ≤ hi) (t0 : lo ≤ v.2.2.1) (t1 : v.2.2.1 ≤ hi) : ∀ x ∈ seg f v, lo ≤ x ∧ x ≤ hi := fun x hx => by
  unfold seg at hx
  obtain ⟨k, hk, rfl⟩ := List.mem_map.1 hx
  have := List.mem_range.1 hk
  exact liftP_in w0 w1 (by omega) (by omega) n0 n1 f0 f1 t0 t1
structure MoIn (lo hi : Int) (v : Ct) : Prop where
  w : 0 ≤ v.1 ∧ v.1 ≤ 3
  n : 1 ≤ v.2.1 ∧ v.2.1 ≤ 360
  t : lo ≤ v.2.2.1 ∧ v.2.2.1 ≤ hi
theorem toF_in {lo hi : Int} : ∀ (l : List Ct) {f : Int}, (∀ v ∈ l, MoIn lo hi v) → lo ≤ f → f ≤ hi → lo ≤ toF f l ∧ toF f l ≤ hi
  | [], _, _, f0, f1 => ⟨f0, f1⟩
  | v :: r, f, h, _, _ => by
    have := (h v (by simp)).t
    exact toF_in r (f := v.2.2.1) (fun u hu => h u (by simp [hu])) this.1 this.2
theorem proF_el {lo hi : Int} : ∀ (l : List Ct) {f : Int}, (∀ v ∈ l, MoIn lo hi v) → lo ≤ f → f ≤ hi → ∀ x ∈ proF f l, lo ≤ x ∧ x ≤ hi
  | [], _, _, _, _ => fun x hx => by cases hx
  | v :: r, f, h, f0, f1 => fun x hx => by
    have hv := h v (by simp)
    rcases List.mem_append.1 hx with hx | hx
    · exact seg_el hv.w.1 hv.w.2 hv.n.1 hv.n.2 f0 f1 hv.t.1 hv.t.2 x hx
    · exact proF_el r (fun u hu => h u (by simp [hu])) hv.t.1 hv.t.2 x hx
theorem proF_len : ∀ (l : List Ct) (f : Int), (∀ v ∈ l, 1 ≤ v.2.1) → ((proF f l).length : Int) = sumM l
  | [], _, _ => rfl
  | v :: r, f, h => by
    have h1 := h v (by simp)
    have h2 := proF_len r v.2.2.1 fun u hu => h u (by simp [hu])
    simp only [proF, sumM, List.length_append, seg_len]
    omega
theorem SmPg.ins {p : Prg} (S : SmPg p) : ∀ v ∈ p.2.1, MoIn 0 59 v := fun v hv => by
  have := S.el v hv
  exact ⟨this.1, ⟨this.2.1.1, by omega⟩, this.2.2⟩
/-- A cam as it is drawn. -/
structure SmC (c : List Int) : Prop where
  len : 8 ≤ (c.length : Int) ∧ (c.length : Int) ≤ 45
  el : ∀ v ∈ c, 0 ≤ v ∧ v ≤ 59
theorem SmPg.cam {p : Prg} (S : SmPg p) : SmC (proF p.1 p.2.1) := by
  have h := proF_len p.2.1 p.1 fun v hv => (S.ins v hv).n.1
  have := S.sum
  exact ⟨by omega, proF_el p.2.1 S.ins S.t.1 S.t.2⟩
theorem SmC.rng {c : List Int} (S : SmC c) : Rng c := rng_bd (by have := S.len; omega) fun v hv => by have := S.el v hv; omega
theorem SmC.ok {c : List Int} (S : SmC c) : okC c = true := by
  unfold okC
  have hl := S.len
  simp only [Bool.and_eq_true, inR_iff, List.all_eq_true]
  refine ⟨by omega, fun v hv => ?_⟩
  have := S.el v hv
  unfold okV
  rw [wrap_id (x := v) (by omega) (by omega), inR_iff]
  omega
end Go.Cams
namespace Go.Fw
variable {α β σ : Type}
theorem EvtX.no {c : Bool} {f g : Nat → Option α} {Q : α → Prop} (h : ¬ c = true) (k : EvtX g Q) : EvtX (fun n => if c = true then f n else g n) Q := by
  obtain ⟨y, hy, hE⟩ := k
  exact ⟨y, hy, Evt.no h hE⟩
theorem EvtX.yes {c : Bool} {f g : Nat → Option α} {Q : α → Prop} (h : c = true) (k : EvtX f Q) : EvtX (fun n => if c = true then f n else g n) Q := by
  obtain ⟨y, hy, hE⟩ := k
  exact ⟨y, hy, Evt.yes h hE⟩
theorem EvtX.chk {c : Bool} {f : Nat → Option α} {Q : α → Prop} (h : c = true) (k : EvtX f Q) : EvtX (fun n => chk c (f n)) Q := by
  obtain ⟨y, hy, hE⟩ := k
  exact ⟨y, hy, Evt.chk h hE⟩
end Go.Fw

/- Cutters as they are drawn, and which can replace which, in plain terms. -/
namespace Go.Cams
open Go Go.Fw
def dst (H j : Nat) : Nat := if j ≤ H then H - j else j - H
def symK (H : Nat) (h : Nat → Int) : List Int := tb (2 * H + 1) fun j => h (dst H j)
structure Ris (H : Nat) (h : Nat → Int) : Prop where
  zero : h 0 = 0
  up : ∀ a b, a ≤ b → b ≤ H → h a ≤ h b
  hi : ∀ a, a ≤ H → h a ≤ 1000
theorem Ris.lo {H : Nat} {h : Nat → Int} (R : Ris H h) {a : Nat} (ha : a ≤ H) : 0 ≤ h a := by
  have := R.up 0 a (by omega) ha
  rw [R.zero] at this; exact this
theorem dst_le {H j : Nat} (h : j < 2 * H + 1) : dst H j ≤ H := by unfold dst; split <;> omega
theorem symK_len (H : Nat) (h : Nat → Int) : (symK H h).length = 2 * H + 1 := tb_len _ _
theorem symK_g {H : Nat} {h : Nat → Int} {j : Nat} (hj : j < 2 * H + 1) : g (symK H h) j = h (dst H j) := g_tb hj
theorem symK_rng {H : Nat} {h : Nat → Int} (R : Ris H h) (hH : H ≤ 15) : Rng (symK H h) := rng_bd (by rw [symK_len]; omega) fun v hv => by
  unfold symK tb at hv
  obtain ⟨j, hj, rfl⟩ := List.mem_map.1 hv
  have hd := dst_le (List.mem_range.1 hj)
  have h1 := R.lo hd
  have h2 := R.hi _ hd
  omega
theorem symK_ok {H : Nat} {h : Nat → Int} (R : Ris H h) (hH : H ≤ 15) : okK (symK H h) = true := by
  have hl := symK_len H h
  have hh : (symK H h).length / 2 = H := by omega
  unfold okK
  simp only [Bool.and_eq_true, decide_eq_true_eq, beq_iff_eq, inR_iff]
  refine ⟨⟨⟨by omega, by omega⟩, ?_⟩, ?_⟩
  · rw [hh, symK_g (by omega)]
    unfold dst
    rw [if_pos (Nat.le_refl _), Nat.sub_self, R.zero]
  · rw [hh, allTo_iff]
    intro i hi
    have d1 : dst H i = H - i := by unfold dst; rw [if_pos (by omega)]
    have d2 : dst H (2 * H + 1 - 1 - i) = H - i := by unfold dst; split <;> omega
    have h1 := R.lo (a := H - i) (by omega)
    have h2 := R.hi (H - i) (by omega)
    unfold kOne
    rw [hl, symK_g (by omega), symK_g (by omega), d1, d2, wrap_id (x := h (H - i)) (by omega) (by omega)]
    simp only [Bool.and_eq_true, inR_iff, Bool.or_eq_true, decide_eq_true_eq, beq_self_eq_true, and_true]
    refine ⟨by omega, ?_⟩
    by_cases h0 : i = 0
    · exact .inl h0
    · right
      have d3 : dst H (i - 1) = H - i + 1 := by unfold dst; rw [if_pos (by omega)]; omega
      rw [symK_g (by omega), d3]
      have := R.up (H - i) (H - i + 1) (by omega) (by omega)
      simp only [Bool.not_eq_true', decide_eq_false_iff_not]
      omega
theorem flat_sym (H : Nat) : List.replicate (2 * H + 1) (0 : Int) = symK H fun _ => 0 := tb_rep _ _
theorem flat_ris (H : Nat) : Ris H fun _ => 0 := ⟨rfl, fun _ _ _ _ => Int.le_refl _, fun _ _ => by omega⟩
structure SmK (k : List Int) : Prop where
  rng : Rng k
  ok : okK k = true
theorem SmK.of {H : Nat} {h : Nat → Int} (R : Ris H h) (hH : H ≤ 15) : SmK (symK H h) := ⟨symK_rng R hH, symK_ok R hH⟩
/-- A cutter that is set from the middle outward. -/
theorem symK_step {H i : Nat} {h : Nat → Int} {y : Int} (hi : 1 ≤ i) (hH : i ≤ H) :
    ((symK H fun a => if a < i then h a else 0).set (H - i) y).set (H + i) y = symK H fun a => if a < i + 1 then (if a = i then y else h a) else 0 := by
  unfold symK
  rw [tb_set, tb_set]
  apply tb_ext
  intro j hj
  have hd : (j ≤ H → dst H j = H - j) ∧ (H < j → dst H j = j - H) := by unfold dst; constructor <;> intro h <;> split <;> omega
  generalize dst H j = d at hd ⊢
  dsimp only
  by_cases h1 : j = H + i
  · rw [if_pos h1, if_pos (by omega), if_pos (by omega)]
  · rw [if_neg h1]
    by_cases h2 : j = H - i
    · rw [if_pos h2, if_pos (by omega), if_pos (by omega)]
    · rw [if_neg h2]
      by_cases h3 : d < i
      · rw [if_pos h3, if_pos (by omega), if_neg (by omega)]
      · rw [if_neg h3, if_neg (by omega)]
end Go.Cams

/- Which cutter can replace which, in plain terms. -/
namespace Go.Cams
open Go Go.Fw
/-- How high a cutter stands on another one. -/
def stTo (a b : List Int) (off : Nat) : Nat → Int
  | 0 => 0
  | i + 1 => max (stTo a b off i) (g b (off + i) - g a i)
def st (a b : List Int) (off : Nat) : Int := stTo a b off a.length
def siTo (a b : List Int) (off : Nat) : Nat → Int
  | 0 => g b off - g a 0
  | i + 1 => max (siTo a b off i) (g b (off + i) - g a i)
theorem stTo_ge (a b : List Int) (off : Nat) : ∀ (n i : Nat), i < n → g b (off + i) - g a i ≤ stTo a b off n
  | 0, _, h => absurd h (by omega)
  | n + 1, i, h => by
    by_cases e : i = n
    · subst e; unfold stTo; omega
    · have := stTo_ge a b off n i (by omega)
      unfold stTo; omega
theorem stTo_nn (a b : List Int) (off : Nat) : ∀ n, 0 ≤ stTo a b off n
  | 0 => Int.le_refl _
  | n + 1 => by have := stTo_nn a b off n; unfold stTo; omega
theorem stTo_le {a b : List Int} (off : Nat) (ha : ∀ i, i < a.length → 0 ≤ g a i) {m : Int} (h0 : 0 ≤ m) : ∀ n, n ≤ a.length → (∀ i, i < n → g b (off + i) ≤ m) → stTo a b off n ≤ m
  | 0, _, _ => h0
  | n + 1, hn, h => by
    have := stTo_le off ha h0 n (by omega) fun i hi => h i (by omega)
    have h1 := h n (by omega)
    have h2 := ha n (by omega)
    unfold stTo; omega
theorem siTo_eq (a b : List Int) (off : Nat) : ∀ n, max (stTo a b off n) (g b off - g a 0) = max 0 (siTo a b off n)
  | 0 => rfl
  | n + 1 => by have := siTo_eq a b off n; unfold stTo siTo; omega
theorem siTo_ge (a b : List Int) (off : Nat) : ∀ (n i : Nat), i < n → g b (off + i) - g a i ≤ siTo a b off n
  | 0, _, h => absurd h (by omega)
  | n + 1, i, h => by
    by_cases e : i = n
    · subst e; unfold siTo; omega
    · have := siTo_ge a b off n i (by omega)
      unfold siTo; omega
theorem si_st {a b : List Int} {off : Nat} (A : GoodK a) (B : GoodK b) (h : off + a.length ≤ b.length) : siTo a b off a.length = st a b off := by
  have h1 := siTo_eq a b off a.length
  have h2 := stTo_ge a b off a.length 0 A.lo
  have hlo := A.lo
  have h3 := siTo_ge a b off a.length (a.length / 2) (by omega)
  have h4 := (B.el (off + a.length / 2) (by omega)).1
  rw [A.mid] at h3
  rw [Nat.add_zero] at h2
  unfold st
  omega
/-- A cutter that stands on another one touches it at a step. -/
def cov (a b : List Int) (j off : Nat) : Bool := decide (off ≤ j ∧ j < off + a.length) && (st a b off + g a (j - off) == g b j)
def offs (a b : List Int) : Nat := b.length + 1 - a.length
def tch (a b : List Int) (j : Nat) : Bool := allTo (fun off => !cov a b j off) (offs a b) == false
def crB (a b : List Int) : Bool := allTo (tch a b) b.length
theorem tipTo_le (c k : List Int) (s : Int) {m : Int} (h0 : 0 ≤ m) : ∀ n, (∀ u : Nat, u < n → cAt c (s + u - half k) - g k u ≤ m) → tipTo c k s n ≤ m
  | 0, _ => h0
  | n + 1, h => by
    have h1 := tipTo_le c k s h0 n fun u hu => h u (by omega)
    have h2 := h n (by omega)
    rw [tipTo_succ]; omega
theorem cAt_sh (c : List Int) (x y : Int) : cAt c (x % (c.length : Int) + y) = cAt c (x + y) := by
  unfold cAt
  rw [Int.emod_add_emod]
/-- What a cutter leaves at a place, by one of its stands. -/
theorem lf_at {c k : List Int} (K : GoodK k) (p : Nat) (hp : p < c.length) : ∃ j, j < k.length ∧ lf c k p = tip c k (((p : Nat) + (j : Nat) - half k) % c.length) + g k j := by
  obtain ⟨_, _, h⟩ := lfTo_el c k p k.length
  rcases h with h | ⟨j, hj, h⟩
  · have hlo := K.lo
    refine ⟨k.length / 2, by omega, ?_⟩
    rw [K.mid]
    unfold half
    rw [show ((p : Nat) : Int) + ((k.length / 2 : Nat) : Int) - ((k.length / 2 : Nat) : Int) = (p : Int) by omega, Int.emod_eq_of_lt (by omega) (by omega)]
    unfold lf
    rw [h]; omega
  · exact ⟨j, hj, h⟩
theorem tch_some {a b : List Int} {j : Nat} (h : tch a b j = true) : ∃ off, off < offs a b ∧ cov a b j off = true := by
  unfold tch at h
  rw [beq_iff_eq] at h
  apply Classical.byContradiction
  intro hn
  have : allTo (fun off => !cov a b j off) (offs a b) = true := (allTo_iff _ _).2 fun off ho => by
    cases hc : cov a b j off with
    | true => exact absurd ⟨off, ho, hc⟩ hn
    | false => rfl
  rw [this] at h
  cases h
/-- What a cutter leaves that can replace another one is no more. -/
theorem lf_rep {c a k : List Int} (A : GoodK a) (K : GoodK k) (h : crB a k = true) (p : Nat) (hp : p < c.length) : lf c a p ≤ lf c k p := by
  obtain ⟨j, hj, e⟩ := lf_at K p hp
  have ht := (allTo_iff _ _).1 h j hj
  obtain ⟨off, ho, hc⟩ := tch_some ht
  unfold cov at hc
  simp only [Bool.and_eq_true, decide_eq_true_eq, beq_iff_eq] at hc
  obtain ⟨⟨o1, o2⟩, o3⟩ := hc
  unfold offs at ho
  have hao := A.odd
  have hko := K.odd
  have hal := A.lo
  obtain ⟨_, hl, _⟩ := lfTo_el c a p a.length
  have hle := hl (j - off) (by omega)
  have tp : tip c a (((p : Nat) + ((j - off : Nat) : Int) - half a) % c.length) ≤ tip c k (((p : Nat) + (j : Nat) - half k) % c.length) + st a k off := by
    have hst : 0 ≤ st a k off := stTo_nn a k off a.length
    refine tipTo_le c a _ ?_ a.length fun u hu => ?_
    · have : 0 ≤ tip c k (((p : Nat) + (j : Nat) - half k) % c.length) := by
        have hm := tipTo_succ
        have aux : ∀ n, 0 ≤ tipTo c k (((p : Nat) + (j : Nat) - half k) % c.length) n := by
          intro n
          induction n with
          | zero => exact Int.le_refl _
          | succ n ih => rw [tipTo_succ]; omega
        exact aux _
      omega
    · have hw : k.length - a.length - off + u < k.length := by omega
      have h1 := tipTo_mono c k (((p : Nat) + (j : Nat) - half k) % c.length) k.length (k.length - a.length - off + u) hw
      have h2 := K.sym (k.length - a.length - off + u) hw
      rw [show k.length - 1 - (k.length - a.length - off + u) = off + (a.length - 1 - u) by omega] at h2
      have h3 := stTo_ge a k off a.length (a.length - 1 - u) (by omega)
      have h4 := A.sym u hu
      have hx : cAt c (((p : Nat) + ((j - off : Nat) : Int) - half a) % c.length + u - half a) = cAt c (((p : Nat) + (j : Nat) - half k) % c.length + ((k.length - a.length - off + u : Nat) : Int) - half k) := by
        have q1 := cAt_sh c ((p : Nat) + ((j - off : Nat) : Int) - half a) (u - half a)
        have q2 := cAt_sh c ((p : Nat) + (j : Nat) - half k) (((k.length - a.length - off + u : Nat) : Int) - half k)
        rw [← Int.add_sub_assoc] at q1 q2
        rw [q1, q2]
        congr 1
        unfold half
        omega
      rw [hx]
      unfold tip
      unfold st
      omega
  unfold lf at hle ⊢ e
  omega
end Go.Cams
namespace Go.Cams
open Go Go.Fw
theorem ok_zero : okK [0] = true := by decide
theorem good_zero : GoodK [0] := goodK ⟨by decide, by decide⟩ ok_zero
theorem tip_zero {c : List Int} (hC : ∀ v ∈ c, 0 ≤ v ∧ v ≤ 10000) (h0 : 0 < c.length) (s : Int) : tip c [0] s = cAt c s := by
  have h := hC _ (cAt_mem h0 s)
  show max 0 (cAt c (s + ((0 : Nat) : Int) - half [0]) - g [0] 0) = cAt c s
  have e : s + ((0 : Nat) : Int) - half [0] = s := by unfold half; simp
  rw [e]
  show max 0 (cAt c s - 0) = _
  omega
/-- A cutter without width leaves the cam. -/
theorem left_flat {c : List Int} (h0 : 0 < c.length) (hC : ∀ v ∈ c, 0 ≤ v ∧ v ≤ 10000) : leftL c [0] = c := by
  have hl := leftL_len c [0]
  apply List.ext_getElem?
  intro p
  by_cases hp : p < c.length
  · have h1 := leftL_g h0 hC good_zero hp
    have h2 : lf c [0] p = g c p := by
      show min (tip c [0] p) (tip c [0] (((p : Nat) + ((0 : Nat) : Int) - half [0]) % c.length) + g [0] 0) = g c p
      rw [tip_zero hC h0, tip_zero hC h0]
      have e : ((p : Nat) : Int) + ((0 : Nat) : Int) - half [0] = p := by unfold half; simp
      rw [e, Int.emod_eq_of_lt (by omega) (by omega), cAt_self hp]
      show min (g c p) (g c p + 0) = _
      omega
    have a1 := (g_idx (l := leftL c [0]) (i := (p : Int)) (by omega) (by omega)).get
    have a2 := (g_idx (l := c) (i := (p : Int)) (by omega) (by omega)).get
    rw [Int.toNat_natCast] at a1 a2
    rw [a1, a2, h1, h2]
  · rw [List.getElem?_eq_none (by omega), List.getElem?_eq_none (by omega)]
theorem left_ok {c k : List Int} (h : okC c = true) (hr : Rng c) (G : GoodK k) : okC (leftL c k) = true ∧ Rng (leftL c k) := by
  have hl := okC_len h
  have hb := leftL_bd (show 0 < c.length by omega) (okC_el h hr) G
  have hr2 : Rng (leftL c k) := rng_bd (by rw [leftL_len]; omega) hb
  refine ⟨?_, hr2⟩
  unfold okC
  simp only [Bool.and_eq_true, inR_iff, List.all_eq_true]
  refine ⟨by rw [leftL_len]; exact hl, fun v hv => ?_⟩
  unfold okV
  rw [wrap_id (x := v) (by have := hb v hv; omega) (by have := hb v hv; omega), inR_iff]
  exact hb v hv
theorem nrTo_lt (c l : List Int) : ∀ n, ∀ v ∈ nrTo c l n, v < (n : Int)
  | 0, v, h => by cases h
  | n + 1, v, h => by
    rw [nrTo_succ] at h
    split at h
    · rcases List.mem_append.1 h with h | h
      · have := nrTo_lt c l n v h; omega
      · simp at h; omega
    · have := nrTo_lt c l n v h; omega
theorem nrTo_has (c l : List Int) (s : Nat) : ∀ n, s < n → (nrTo c l n).any (fun v => v == (s : Int)) = decide (g l s > g c s)
  | 0, h => absurd h (by omega)
  | n + 1, h => by
    rw [nrTo_succ]
    by_cases e : s = n
    · subst e
      have h0 : (nrTo c l s).any (fun v => v == (s : Int)) = false := by
        rw [List.any_eq_false]
        intro v hv
        have := nrTo_lt c l s v hv
        simp; omega
      split
      · rename_i hg
        rw [List.any_append, h0, decide_eq_true hg]
        simp
      · rename_i hg
        rw [h0, decide_eq_false hg]
    · have ih := nrTo_has c l s n (by omega)
      split
      · rw [List.any_append, ih]
        have : ((n : Int) == (s : Int)) = false := beq_eq_false_iff_ne.2 (by omega)
        simp [this]
      · exact ih
theorem bk_two {c k o : List Int} (h : 0 ≤ waste c k) : bkTo c [k, o] 2 = if waste c o < waste c k then (1, waste c o) else (0, waste c k) := by
  have h1 : bkTo c [k, o] 1 = (0, waste c k) := by
    rw [bkTo_succ, if_pos (.inl (show (-1 : Int) < 0 by decide))]; rfl
  rw [bkTo_succ, h1]
  by_cases h2 : waste c o < waste c k
  · rw [if_pos (.inr h2), if_pos h2]; rfl
  · rw [if_neg (fun hh => hh.elim (fun h3 => by have h3 : waste c k < 0 := h3; omega) (fun h3 => h2 h3)), if_neg h2]
theorem byte_of {l : List Int} (h : Dom (.slc (.int .u8)) l) : ∀ v ∈ l, 0 ≤ v ∧ v ≤ 255 := fun v hv => by
  have h1 := h.2 v hv
  have h2 : IntKind.u8.min ≤ v := h1.1
  have h3 : v ≤ IntKind.u8.max := h1.2
  simp only [IntKind.min, IntKind.max, IntKind.signed, IntKind.bits] at h2 h3
  exact ⟨by simpa using h2, by simpa using h3⟩
end Go.Cams

/- A cam that is read as a program is made again by it, in plain terms. -/
namespace Go.Cams
open Go Go.Fw
/-- Stretches that follow each other. -/
def ChS (s : Int) : List Ct → Int → Prop
  | [], e => s = e
  | v :: r, e => v.2.1 = s ∧ 1 ≤ v.2.2.1 ∧ ChS (s + v.2.2.1) r e
theorem ChS.app : ∀ {L M : List Ct} {s m e : Int}, ChS s L m → ChS m M e → ChS s (L ++ M) e
  | [], _, _, _, _, h, k => by rw [show _ = _ from h]; exact k
  | v :: L, _, _, _, _, h, k => ⟨h.1, h.2.1, ChS.app h.2.2 k⟩
theorem ChS.le : ∀ {L : List Ct} {s e : Int}, ChS s L e → s + L.length ≤ e
  | [], _, _, h => by rw [show _ = _ from h]; simp
  | v :: L, s, e, h => by
    have := ChS.le h.2.2
    have := h.2.1
    simp only [List.length_cons]; omega
theorem rs_chain (c : List Int) : ∀ (left : Nat) (s : Int), 0 ≤ s → s + left ≤ (c.length : Int) → ChS s (rs c s left) (s + left) := by
  intro left
  induction left using Nat.strongRecOn with
  | ind left ih =>
    intro s h0 h1
    by_cases hl : left = 0
    · subst hl
      rw [rs_zero]
      show s = _
      simp
    · have hpos : 0 < left := by omega
      obtain ⟨a1, a2, _, _⟩ := rl_spec (kd c) s hpos
      rw [rs_pos c s hpos]
      refine ⟨Int.emod_eq_of_lt h0 (by omega), by show (1 : Int) ≤ ((rl (kd c) s left : Nat) : Int); omega, ?_⟩
      have := ih (left - rl (kd c) s left) (by omega) (s + ((rl (kd c) s left : Nat) : Int)) (by omega) (by omega)
      rw [show s + ((rl (kd c) s left : Nat) : Int) + ((left - rl (kd c) s left : Nat) : Int) = s + left by omega] at this
      exact this
theorem strP_chain {c : List Int} (h0 : 0 < c.length) : ChS 0 (strP c) c.length := by
  unfold strP runsP
  by_cases h : bk c = c.length
  · rw [if_pos h]
    show ChS 0 (if (0 : Int) > 0 then _ else _) _
    rw [if_neg (by omega)]
    exact ⟨rfl, by show (1 : Int) ≤ (c.length : Int); omega, by show (0 : Int) + (c.length : Int) = _; omega⟩
  · rw [if_neg h]
    obtain ⟨f1, f2⟩ := first_long h h0
    have hb := bk_lt c h0 h
    obtain ⟨a1, a2, _, _⟩ := rl_spec (kd c) (-(bk c : Int)) h0
    rw [rs_pos c _ h0]
    by_cases hb0 : bk c = 0
    · have hz : (-(bk c : Int)) % (c.length : Int) = 0 := by rw [hb0]; simp
      show ChS 0 (if (-(bk c : Int)) % (c.length : Int) > 0 then _ else _) _
      rw [hz, if_neg (by omega)]
      refine ⟨rfl, by show (1 : Int) ≤ ((rl (kd c) (-(bk c : Int)) c.length : Nat) : Int); omega, ?_⟩
      have := rs_chain c (c.length - rl (kd c) (-(bk c : Int)) c.length) (-(bk c : Int) + ((rl (kd c) (-(bk c : Int)) c.length : Nat) : Int)) (by omega) (by omega)
      rw [show -(bk c : Int) + ((rl (kd c) (-(bk c : Int)) c.length : Nat) : Int) + ((c.length - rl (kd c) (-(bk c : Int)) c.length : Nat) : Int) = (c.length : Int) by omega] at this
      have e : (0 : Int) + ((rl (kd c) (-(bk c : Int)) c.length : Nat) : Int) = -(bk c : Int) + ((rl (kd c) (-(bk c : Int)) c.length : Nat) : Int) := by omega
      show ChS (0 + ((rl (kd c) (-(bk c : Int)) c.length : Nat) : Int)) _ _
      rw [e]
      exact this
    · have hz : (-(bk c : Int)) % (c.length : Int) = (c.length : Int) - bk c := by
        have := Int.add_emod_right (-(bk c : Int)) c.length
        rw [← this]
        exact (Int.emod_eq_of_lt (by omega) (by omega)).trans (by omega)
      show ChS 0 (if (-(bk c : Int)) % (c.length : Int) > 0 then _ else _) _
      rw [if_pos (by rw [hz]; omega)]
      dsimp only
      rw [hz]
      refine ChS.app (m := (c.length : Int) - bk c) ⟨rfl, by show (1 : Int) ≤ (c.length : Int) - bk c + ((rl (kd c) (-(bk c : Int)) c.length : Nat) : Int) - c.length; omega, ?_⟩ ⟨rfl, by show (1 : Int) ≤ (c.length : Int) - ((c.length : Int) - bk c); omega, by show (c.length : Int) - bk c + ((c.length : Int) - ((c.length : Int) - bk c)) = _; omega⟩
      have := rs_chain c (c.length - rl (kd c) (-(bk c : Int)) c.length) (-(bk c : Int) + ((rl (kd c) (-(bk c : Int)) c.length : Nat) : Int)) (by omega) (by omega)
      rw [show -(bk c : Int) + ((rl (kd c) (-(bk c : Int)) c.length : Nat) : Int) + ((c.length - rl (kd c) (-(bk c : Int)) c.length : Nat) : Int) = (c.length : Int) - bk c by omega] at this
      show ChS (0 + ((c.length : Int) - bk c + ((rl (kd c) (-(bk c : Int)) c.length : Nat) : Int) - c.length)) _ _
      rw [show (0 : Int) + ((c.length : Int) - bk c + ((rl (kd c) (-(bk c : Int)) c.length : Nat) : Int) - c.length) = -(bk c : Int) + ((rl (kd c) (-(bk c : Int)) c.length : Nat) : Int) by omega]
      exact this
theorem liftP_zero {f t w n : Int} (n0 : 1 ≤ n) (n1 : n ≤ 360) : liftP f t w 0 n = f := by
  have hd := shD_bd (w := w) n0 n1
  have hs : shN w 0 n = 0 := by
    unfold shN
    split
    · rw [if_pos (by omega)]; simp
    split
    · simp
    split
    · simp
    · rfl
  unfold liftP
  rw [hs, Int.mul_zero, nr_from (by omega), nr_zero (by omega)]
  omega
theorem seg_fit {c : List Int} {s l : Int} (l0 : 1 ≤ l) (l1 : l ≤ 360) (h : 0 ≤ fitL c s l) (v : Ct) (hv : v = motP c (v.1, s, l, ())) : seg (cAt c s) v = (List.range l.toNat).map fun k => cAt c (s + (k : Nat)) := by
  have hw : fitW c s l (fitL c s l) = true := by
    unfold fitL at h ⊢
    split
    · assumption
    split
    · assumption
    split
    · assumption
    split
    · assumption
    · rename_i a1 a2 a3 a4
      rw [if_neg a1, if_neg a2, if_neg a3, if_neg a4] at h
      omega
  rw [hv]
  unfold seg motP
  dsimp only
  apply List.map_congr_left
  intro k hk
  have hk := List.mem_range.1 hk
  by_cases k0 : k = 0
  · subst k0
    show liftP (cAt c s) (cAt c (s + l)) (fitL c s l) 0 l = cAt c (s + 0)
    rw [liftP_zero l0 l1, Int.add_zero]
  · have h1 := (allTo_iff _ _).1 hw (k - 1) (by omega)
    rw [beq_iff_eq] at h1
    rw [show (((k - 1 : Nat) : Int) + 1) = (k : Int) by omega] at h1
    exact h1.symm
theorem proF_fit {c : List Int} (hl : (c.length : Int) ≤ 360) : ∀ (L : List Ct) (s : Int), 0 ≤ s → ChS s L c.length → (∀ v ∈ L, 0 ≤ fitL c v.2.1 v.2.2.1) → proF (cAt c s) (L.map (motP c)) = (List.range ((c.length : Int) - s).toNat).map fun k => cAt c (s + (k : Nat))
  | [], s, _, h, _ => by
    have h : s = c.length := h
    rw [h]; simp [proF]
  | v :: r, s, h0, h, hf => by
    obtain ⟨h1, h2, h3⟩ := h
    have hle := h3.le
    have hv := hf v (by simp)
    rw [h1] at hv
    have e1 : motP c v = (fitL c s v.2.2.1, v.2.2.1, cAt c (s + v.2.2.1), ()) := by unfold motP; rw [h1]
    have ih := proF_fit hl r (s + v.2.2.1) (by omega) h3 fun u hu => hf u (by simp [hu])
    rw [List.map_cons, proF, e1]
    dsimp only
    rw [ih, seg_fit h2 (by omega) hv _ rfl]
    rw [show ((c.length : Int) - s).toNat = v.2.2.1.toNat + ((c.length : Int) - (s + v.2.2.1)).toNat by omega, List.range_add, List.map_append, List.map_map]
    congr 1
    apply List.map_congr_left
    intro k _
    show cAt c (s + v.2.2.1 + (k : Nat)) = cAt c (s + ((v.2.2.1.toNat + k : Nat) : Int))
    congr 1
    omega
end Go.Cams
namespace Go.Cams
open Go Go.Fw
theorem liftP_full {f t w n : Int} (w0 : 0 ≤ w) (w1 : w ≤ 3) (n0 : 1 ≤ n) (n1 : n ≤ 360) : liftP f t w n n = t := by
  have hd := shD_bd (w := w) n0 n1
  have hs : shN w n n = shD w n := by
    rcases (show w = 0 ∨ w = 1 ∨ w = 2 ∨ w = 3 by omega) with rfl | rfl | rfl | rfl
    · rfl
    · unfold shN shD
      rw [if_pos rfl, if_pos rfl, if_neg (by omega)]; grind
    · unfold shN shD
      rw [if_neg (by decide), if_pos rfl, if_neg (by decide), if_pos rfl]; grind
    · unfold shN shD
      rw [if_neg (by decide), if_neg (by decide), if_pos rfl, if_neg (by decide), if_neg (by decide), if_pos rfl]; grind
  unfold liftP
  rw [hs]
  have e : f * shD w n + (t - f) * shD w n = t * shD w n + 0 := by grind
  rw [e, nr_from (by omega), nr_zero (by omega)]
  omega
theorem lift_fit {c : List Int} {s l k : Int} (l0 : 1 ≤ l) (l1 : l ≤ 360) (h : 0 ≤ fitL c s l) (k0 : 0 ≤ k) (k1 : k ≤ l) : liftP (cAt c s) (cAt c (s + l)) (fitL c s l) k l = cAt c (s + k) := by
  by_cases hk : k = l
  · rw [hk, liftP_full h (fitL_bd c s l).2 l0 l1]
  · have hsg := seg_fit l0 l1 h (motP c (0, s, l, ())) rfl
    have h1 : ((seg (cAt c s) (motP c (0, s, l, ())))[k.toNat]?) = some (liftP (cAt c s) (cAt c (s + l)) (fitL c s l) k l) := by
      unfold seg motP
      dsimp only
      rw [List.getElem?_map, List.getElem?_range (by omega)]
      simp only [Option.map_some]
      rw [show ((k.toNat : Nat) : Int) = k by omega]
    rw [hsg, List.getElem?_map, List.getElem?_range (by omega)] at h1
    simp only [Option.map_some, Option.some.injEq] at h1
    rw [← h1, show ((k.toNat : Nat) : Int) = k by omega]
theorem chain_sum (c : List Int) : ∀ (L : List Ct) (s e : Int), ChS s L e → sumM (L.map (motP c)) = e - s
  | [], s, e, h => by rw [show s = e from h]; simp [sumM]
  | v :: r, s, e, h => by
    have ih := chain_sum c r _ _ h.2.2
    simp only [List.map_cons, sumM, ih]
    show v.2.2.1 + _ = _
    omega
theorem chain_last (c : List Int) : ∀ (M : List Ct) (v : Ct) (s e : Int), ChS s (M ++ [v]) e → v.2.1 + v.2.2.1 = e
  | [], v, s, e, h => by
    have h3 : s + v.2.2.1 = e := h.2.2
    rw [h.1]; exact h3
  | u :: M, v, s, e, h => chain_last c M v _ _ h.2.2
/-- What is read as a program. -/
theorem fp_cases {c : List Int} (S : SmC c) : (∃ r, (r = 3 ∨ r = 6) ∧ fpR c = ((0, [], ()), r, ())) ∨ (∃ L : List Ct, fpR c = ((g c 0, L, ()), 0, ()) ∧ RngPg (g c 0, L, ()) ∧ okPg (g c 0, L, ()) = true ∧ (∀ v ∈ L, MoIn 0 10000 v) ∧ proF (g c 0) L = c) := by
  have hl := S.len
  have hc0 : 0 < c.length := by omega
  have ok := S.ok
  have c0 : cAt c 0 = g c 0 := cAt_self (p := 0) hc0
  have cb : ∀ x, 0 ≤ cAt c x ∧ cAt c x ≤ 59 := fun x => S.el _ (cAt_mem hc0 x)
  have hch := strP_chain hc0
  unfold fpR
  rw [ok, if_neg (by decide)]
  split
  · exact .inl ⟨3, .inl rfl, rfl⟩
  rename_i h24
  split
  · rename_i hall
    right
    have hf : ∀ v ∈ strP c, 0 ≤ fitL c v.2.1 v.2.2.1 := fun v hv => by
      have := List.all_eq_true.1 hall v hv
      have : ¬ fitL c v.2.1 v.2.2.1 < 0 := by simpa using this
      omega
    have hel := (strP_el hc0).2
    have hin : ∀ v ∈ (strP c).map (motP c), (0 ≤ v.1 ∧ v.1 ≤ 3) ∧ (1 ≤ v.2.1 ∧ v.2.1 ≤ 45) ∧ (0 ≤ v.2.2.1 ∧ v.2.2.1 ≤ 59) := fun v hv => by
      obtain ⟨u, hu, rfl⟩ := List.mem_map.1 hv
      have h1 := hf u hu
      have h2 := (fitL_bd c u.2.1 u.2.2.1).2
      have h3 := (hel u hu).2.2
      have h4 := cb (u.2.1 + u.2.2.1)
      unfold motP
      dsimp only
      omega
    have hlm : (((strP c).map (motP c)).length : Int) = (strP c).length := by simp
    have g0 := cb 0
    rw [c0] at g0
    have hr : RngPg (g c 0, (strP c).map (motP c), ()) := ⟨by dsimp only; omega, by dsimp only; omega, fun v hv => by have := hin v hv; omega⟩
    refine ⟨(strP c).map (motP c), rfl, hr, ?_, fun v hv => ?_, ?_⟩
    · have hpos : 0 < (strP c).length := by
        apply Classical.byContradiction
        intro hn
        have e0 : strP c = [] := List.length_eq_zero_iff.1 (by omega)
        rw [e0] at hch
        have : (0 : Int) = c.length := hch
        omega
      obtain ⟨M, v, hM⟩ := last_split hpos
      have hlast := chain_last c M v 0 _ (hM ▸ hch)
      have hsum := chain_sum c (strP c) 0 _ hch
      have hmo : ((strP c).map (motP c)).all moOk = true := List.all_eq_true.2 fun v hv => by
        have h1 := hin v hv
        unfold moOk
        rw [hr.m.i1 hv, hr.m.i3 hv]
        simp only [Bool.and_eq_true, inR_iff, Bool.not_eq_true', decide_eq_false_iff_not]
        omega
      have hlt : lastT ((strP c).map (motP c)) = g c 0 := by
        rw [hM, List.map_append, List.map_cons, List.map_nil, lastT_snoc]
        show cAt c (v.2.1 + v.2.2.1) = _
        rw [hlast]
        have := cAt_add c 0
        rw [Int.zero_add] at this
        rw [this, c0]
      unfold okPg
      dsimp only
      rw [hmo, hlt, hsum, wrap_id (x := g c 0) (by omega) (by omega)]
      simp only [Bool.and_eq_true, inR_iff, beq_self_eq_true, and_true]
      omega
    · have := hin v hv
      exact ⟨this.1, by omega, by omega⟩
    · have h := proF_fit (by omega) (strP c) 0 (Int.le_refl _) hch hf
      rw [c0] at h
      rw [h]
      apply List.ext_getElem?
      intro p
      by_cases hp : p < c.length
      · rw [List.getElem?_map, List.getElem?_range (by omega)]
        simp only [Option.map_some, Int.zero_add]
        rw [cAt_self hp]
        have a2 := (g_idx (l := c) (i := (p : Int)) (by omega) (by omega)).get
        rw [Int.toNat_natCast] at a2
        exact a2.symm
      · rw [List.getElem?_eq_none (by simp; omega), List.getElem?_eq_none (by omega)]
  · exact .inl ⟨6, .inr rfl, rfl⟩
end Go.Cams
namespace Go.Cams
def fmR (c : List Int) (s l : Int) : Int × (Int × Unit) := if fitL c s l < 0 then (0, 6, ()) else (fitL c s l, 0, ())
end Go.Cams

/- The lifts of a motion rise evenly, in plain terms. -/
namespace Go.Cams
open Go Go.Fw
theorem shN_up {w k n : Int} (w0 : 0 ≤ w) (w1 : w ≤ 3) (k0 : 0 ≤ k) (k1 : k < n) : shN w k n ≤ shN w (k + 1) n := by
  obtain ⟨m, rfl⟩ : ∃ m, n = k + m + 1 := ⟨n - k - 1, by omega⟩
  have m0 : 0 ≤ m := by omega
  have kk := Int.mul_nonneg k0 k0
  have km := Int.mul_nonneg k0 m0
  have mm := Int.mul_nonneg m0 m0
  rcases (show w = 0 ∨ w = 1 ∨ w = 2 ∨ w = 3 by omega) with rfl | rfl | rfl | rfl
  · unfold shN; simp; omega
  · unfold shN
    rw [if_pos rfl, if_pos rfl]
    split
    · rename_i h
      split
      · have : 2 * (k + 1) * (k + 1) = 2 * k * k + (4 * k + 2) := by grind
        omega
      · rename_i h2
        have e : (k + m + 1) * (k + m + 1) - 2 * (k + m + 1 - (k + 1)) * (k + m + 1 - (k + 1)) - 2 * k * k = 2 * (k * m) - k * k - m * m + 2 * k + 2 * m + 1 := by grind
        have hk : k = m ∨ k = m + 1 ∨ k + 1 = m := by omega
        rcases hk with h3 | h3 | h3
        · subst h3; omega
        · subst h3
          have : 2 * ((m + 1) * m) - (m + 1) * (m + 1) - m * m = -1 := by grind
          omega
        · subst h3
          have : 2 * (k * (k + 1)) - k * k - (k + 1) * (k + 1) = -1 := by grind
          omega
    · rename_i h
      split
      · omega
      · have e : (k + m + 1) * (k + m + 1) - 2 * (k + m + 1 - (k + 1)) * (k + m + 1 - (k + 1)) - ((k + m + 1) * (k + m + 1) - 2 * (k + m + 1 - k) * (k + m + 1 - k)) = 4 * m + 2 := by grind
        omega
  · unfold shN
    rw [if_neg (by decide), if_pos rfl, if_neg (by decide), if_pos rfl]
    have e : 3 * (k + 1) * (k + 1) * (k + m + 1) - 2 * (k + 1) * (k + 1) * (k + 1) - (3 * k * k * (k + m + 1) - 2 * k * k * k) = 6 * (k * m) + 3 * k + 3 * m + 1 := by grind
    omega
  · unfold shN
    rw [if_neg (by decide), if_neg (by decide), if_pos rfl, if_neg (by decide), if_neg (by decide), if_pos rfl]
    have e : (k + 1) * (k + 1) * (k + 1) * (10 * (k + m + 1) * (k + m + 1) - 15 * (k + 1) * (k + m + 1) + 6 * (k + 1) * (k + 1)) - k * k * k * (10 * (k + m + 1) * (k + m + 1) - 15 * k * (k + m + 1) + 6 * k * k) = 30 * ((k * k) * (m * m)) + 30 * ((k * k) * m) + 10 * (k * k) + 30 * (k * (m * m)) + 20 * (k * m) + 5 * k + 10 * (m * m) + 5 * m + 1 := by grind
    have a1 := Int.mul_nonneg kk mm
    have a2 := Int.mul_nonneg kk m0
    have a3 := Int.mul_nonneg k0 mm
    omega
theorem nr_mono {x y d : Int} (hd : 0 < d) (h : x ≤ y) : nr x d ≤ nr y d := by
  unfold nr
  exact Int.ediv_le_ediv (by omega) (by omega)
/-- A lift that rises never falls between. -/
theorem liftP_up {f t w k n : Int} (w0 : 0 ≤ w) (w1 : w ≤ 3) (k0 : 0 ≤ k) (k1 : k < n) (n1 : n ≤ 360) (h : f ≤ t) : liftP f t w k n ≤ liftP f t w (k + 1) n := by
  have hd := shD_bd (w := w) (n := n) (by omega) n1
  have hs := shN_up w0 w1 k0 k1
  unfold liftP
  refine nr_mono (by omega) ?_
  have := Int.mul_le_mul_of_nonneg_left hs (show 0 ≤ t - f by omega)
  omega
end Go.Cams
namespace Go.Cams
open Go Go.Fw
/-- The greatest size of numbers, and its first place. -/
def grS (q : Int × Int × Int) (v : Int) : Int × Int × Int := if siz v > q.2.1 then (q.2.2, siz v, q.2.2 + 1) else (q.1, q.2.1, q.2.2 + 1)
def gr (l : List Int) : Int × Int × Int := l.foldl grS (0, -1, 0)
theorem gr_snoc (l : List Int) (v : Int) : gr (l ++ [v]) = grS (gr l) v := by simp [gr, List.foldl_append]
theorem grS_n (q : Int × Int × Int) (v : Int) : (grS q v).2.2 = q.2.2 + 1 := by unfold grS; split <;> rfl
theorem gr_n (l : List Int) : ∀ (q : Int × Int × Int), (l.foldl grS q).2.2 = q.2.2 + l.length := by
  induction l with
  | nil => intro q; simp
  | cons v l ih => intro q; rw [List.foldl_cons, ih, grS_n, List.length_cons]; omega
theorem gr_le : ∀ (l : List Int) (q : Int × Int × Int) (m : Int), ((l.foldl grS q).2.1 ≤ m) ↔ (q.2.1 ≤ m ∧ ∀ v ∈ l, siz v ≤ m)
  | [], q, m => by simp
  | v :: l, q, m => by
    rw [List.foldl_cons, gr_le l (grS q v) m]
    have : (grS q v).2.1 ≤ m ↔ q.2.1 ≤ m ∧ siz v ≤ m := by
      unfold grS
      split <;> simp only <;> omega
    rw [this]
    simp only [List.mem_cons, forall_eq_or_imp]
    exact ⟨fun h => ⟨h.1.1, h.1.2, h.2⟩, fun h => ⟨⟨h.1, h.2.1⟩, h.2.2⟩⟩
end Go.Cams

/- The least number of steps of a motion, its bends, and planned programs, in plain terms. -/
namespace Go.Cams
open Go Go.Fw
/-- The changes of a motion. -/
def chgs (f t w : Int) (n : Nat) : List Int := tb n fun k => liftP f t w ((k : Nat) + 1) n - liftP f t w (k : Nat) n
theorem tb_mem {α : Type} {n : Nat} {G : Nat → α} {v : α} (h : v ∈ tb n G) : ∃ i, i < n ∧ v = G i := by
  simp only [tb, List.mem_map, List.mem_range] at h
  obtain ⟨i, hi, e⟩ := h
  exact ⟨i, hi, e.symm⟩
theorem mem_tb {α : Type} {n : Nat} {G : Nat → α} {i : Nat} (h : i < n) : G i ∈ tb n G := by
  simp only [tb, List.mem_map, List.mem_range]
  exact ⟨i, h, rfl⟩
theorem tb_at {α : Type} {n : Nat} {G : Nat → α} {i : Int} (h0 : 0 ≤ i) (h1 : i < (n : Int)) : At (tb n G) i (G i.toNat) := by
  obtain ⟨v, hv⟩ := at_of (l := tb n G) h0 (by rw [tb_len]; exact h1)
  have e := hv.get
  rw [tb_get (show i.toNat < n by omega)] at e
  rw [Option.some.inj e]; exact hv
theorem siz_nn (v : Int) : 0 ≤ siz v := by unfold siz; split <;> omega
theorem siz_le {v m : Int} (h1 : -m ≤ v) (h2 : v ≤ m) : siz v ≤ m := by unfold siz; split <;> omega
theorem chg_bd {f t w : Int} {n i : Nat} (f0 : 0 ≤ f) (f1 : f ≤ 10000) (t0 : 0 ≤ t) (t1 : t ≤ 10000) (w0 : 0 ≤ w) (w1 : w ≤ 3) (hn : n ≤ 360) (h : i < n) : -10000 ≤ liftP f t w ((i : Nat) + 1) n - liftP f t w (i : Nat) n ∧ liftP f t w ((i : Nat) + 1) n - liftP f t w (i : Nat) n ≤ 10000 := by
  have b1 := liftP_in (f := f) (t := t) (w := w) (k := (i : Int)) (n := (n : Int)) (lo := 0) (hi := 10000) w0 w1 (by omega) (by omega) (by omega) (by omega) f0 f1 t0 t1
  have b2 := liftP_in (f := f) (t := t) (w := w) (k := (i : Int) + 1) (n := (n : Int)) (lo := 0) (hi := 10000) w0 w1 (by omega) (by omega) (by omega) (by omega) f0 f1 t0 t1
  omega
theorem chgs_bd {f t w : Int} {n : Nat} (f0 : 0 ≤ f) (f1 : f ≤ 10000) (t0 : 0 ≤ t) (t1 : t ≤ 10000) (w0 : 0 ≤ w) (w1 : w ≤ 3) (hn : n ≤ 360) : ∀ v ∈ chgs f t w n, -10000 ≤ v ∧ v ≤ 10000 := fun v hv => by
  obtain ⟨i, hi, rfl⟩ := tb_mem hv
  exact chg_bd f0 f1 t0 t1 w0 w1 hn hi
/-- Are all changes within a bound? -/
def okN (w r m : Int) (n : Nat) : Bool := decide ((gr (chgs 0 r w n)).2.1 ≤ m)
theorem okN_all {w r m : Int} (hm : 0 ≤ m) (n : Nat) : allTo (fun j => decide (siz (liftP 0 r w ((j : Nat) + 1) n - liftP 0 r w (j : Nat) n) ≤ m)) n = okN w r m n := by
  rw [Bool.eq_iff_iff, allTo_iff]
  unfold okN
  rw [decide_eq_true_iff]
  unfold gr
  rw [gr_le]
  constructor
  · intro h
    refine ⟨by show (-1 : Int) ≤ m; omega, fun v hv => ?_⟩
    obtain ⟨i, hi, rfl⟩ := tb_mem hv
    exact of_decide_eq_true (h i hi)
  · intro h i hi
    exact decide_eq_true (h.2 _ (mem_tb (G := fun k : Nat => liftP 0 r w ((k : Nat) + 1) n - liftP 0 r w (k : Nat) n) hi))
def lsF (w r m : Int) : Nat → Nat → Int × (Int × Unit)
  | 0, _ => (0, 6, ())
  | f + 1, n => if okN w r m n = true then ((n : Int), 0, ()) else lsF w r m f (n + 1)
def lsR (w r m : Int) : Int × (Int × Unit) := lsF w r m 360 1
theorem lsF_spec (w r m : Int) : ∀ f n, 1 ≤ n → (n = 1 ∨ okN w r m (n - 1) = false) → (lsF w r m f n = (0, 6, ())) ∨ ∃ k : Nat, lsF w r m f n = ((k : Int), 0, ()) ∧ n ≤ k ∧ k < n + f ∧ okN w r m k = true ∧ (k = 1 ∨ okN w r m (k - 1) = false)
  | 0, n, _, _ => .inl rfl
  | f + 1, n, h1, h => by
    unfold lsF
    by_cases hk : okN w r m n = true
    · rw [if_pos hk]
      exact .inr ⟨n, rfl, Nat.le_refl _, by omega, hk, h⟩
    · rw [if_neg hk]
      rcases lsF_spec w r m f (n + 1) (by omega) (.inr (by simpa using hk)) with e | ⟨k, e, k1, k2, k3, k4⟩
      · exact .inl e
      · exact .inr ⟨k, e, by omega, by omega, k3, k4⟩
theorem lsR_spec (w r m : Int) : lsR w r m = (0, 6, ()) ∨ ∃ k : Nat, lsR w r m = ((k : Int), 0, ()) ∧ 1 ≤ k ∧ k ≤ 360 ∧ okN w r m k = true ∧ (k = 1 ∨ okN w r m (k - 1) = false) := by
  rcases lsF_spec w r m 360 1 (Nat.le_refl _) (.inl rfl) with e | ⟨k, e, k1, k2, k3, k4⟩
  · exact .inl e
  · exact .inr ⟨k, e, k1, by omega, k3, k4⟩
/-- Of a motion that rises a change is its own size. -/
theorem okN_wide {w r m : Int} (w0 : 0 ≤ w) (w1 : w ≤ 3) (r0 : 0 ≤ r) (hm : 0 ≤ m) {n : Nat} (n1 : n ≤ 360) : (!okN w r m n) = !allTo (fun j => decide (liftP 0 r w ((j : Nat) + 1) n - liftP 0 r w (j : Nat) n ≤ m)) n := by
  rw [← okN_all hm]
  congr 1
  rw [Bool.eq_iff_iff, allTo_iff, allTo_iff]
  have key : ∀ i, i < n → siz (liftP 0 r w ((i : Nat) + 1) n - liftP 0 r w (i : Nat) n) = liftP 0 r w ((i : Nat) + 1) n - liftP 0 r w (i : Nat) n := fun i hi => by
    have := liftP_up (f := 0) (t := r) (w := w) (k := (i : Nat)) (n := n) w0 w1 (by omega) (by omega) (by omega) r0
    unfold siz
    rw [if_neg (by omega)]
  exact ⟨fun h i hi => by rw [← key i hi]; exact h i hi, fun h i hi => by rw [key i hi]; exact h i hi⟩
/-! ### Bends of a motion -/
def chg (f t w : Int) (n k : Nat) : Int := if k < n then liftP f t w ((k : Nat) + 1) n - liftP f t w (k : Nat) n else 0
def bnd (f t w : Int) (n k : Nat) : Int := chg f t w n k - (if k = 0 then 0 else chg f t w n (k - 1))
def bnds (f t w : Int) (n : Nat) : List Int := tb (n + 1) fun k => bnd f t w n k
theorem chg_in {f t w : Int} {n i : Nat} (f0 : 0 ≤ f) (f1 : f ≤ 10000) (t0 : 0 ≤ t) (t1 : t ≤ 10000) (w0 : 0 ≤ w) (w1 : w ≤ 3) (hn : n ≤ 360) : -10000 ≤ chg f t w n i ∧ chg f t w n i ≤ 10000 := by
  unfold chg
  split
  · rename_i h; exact chg_bd f0 f1 t0 t1 w0 w1 hn h
  · omega
theorem bnd_in {f t w : Int} {n i : Nat} (f0 : 0 ≤ f) (f1 : f ≤ 10000) (t0 : 0 ≤ t) (t1 : t ≤ 10000) (w0 : 0 ≤ w) (w1 : w ≤ 3) (hn : n ≤ 360) : -20000 ≤ bnd f t w n i ∧ bnd f t w n i ≤ 20000 := by
  have h1 := chg_in (i := i) f0 f1 t0 t1 w0 w1 hn
  have h2 := chg_in (i := i - 1) f0 f1 t0 t1 w0 w1 hn
  unfold bnd
  split <;> omega
theorem chgs_more (f t w : Int) (n : Nat) : chgs f t w n ++ [0] = tb (n + 1) fun k => chg f t w n k := by
  rw [← tb_snoc]
  congr 1
  · exact tb_ext fun j hj => by unfold chg; rw [if_pos hj]
  · unfold chg; rw [if_neg (by omega)]
def mxS (l : List Int) : Int := l.foldl (fun m v => max m (siz v)) 0
theorem mxS_snoc (l : List Int) (v : Int) : mxS (l ++ [v]) = max (mxS l) (siz v) := by simp [mxS, List.foldl_append]
theorem mxS_le' : ∀ (l : List Int) (q m : Int), (l.foldl (fun m v => max m (siz v)) q ≤ m) ↔ (q ≤ m ∧ ∀ v ∈ l, siz v ≤ m)
  | [], q, m => by simp
  | v :: l, q, m => by
    rw [List.foldl_cons, mxS_le' l _ m]
    simp only [List.mem_cons, forall_eq_or_imp]
    constructor
    · rintro ⟨h1, h2⟩; exact ⟨by omega, by omega, h2⟩
    · rintro ⟨h1, h2, h3⟩; exact ⟨by omega, h3⟩
theorem gr_mxS {l : List Int} (h : l ≠ []) : (gr l).2.1 = mxS l := by
  have key : ∀ m : Int, (gr l).2.1 ≤ m ↔ mxS l ≤ m := fun m => by
    unfold gr mxS
    rw [gr_le, mxS_le']
    obtain ⟨v, r, rfl⟩ := List.exists_cons_of_ne_nil h
    constructor
    · rintro ⟨_, h2⟩
      have := h2 v (by simp)
      have := siz_nn v
      exact ⟨by omega, h2⟩
    · rintro ⟨h1, h2⟩
      exact ⟨by show (-1 : Int) ≤ m; omega, h2⟩
  exact Int.le_antisymm ((key _).2 (Int.le_refl _)) ((key _).1 (Int.le_refl _))
theorem mxS_nn (l : List Int) : 0 ≤ mxS l := ((mxS_le' l 0 (mxS l)).1 (Int.le_refl _)).1
theorem bnds_ne (f t w : Int) (n : Nat) : bnds f t w n ≠ [] := fun h => by
  have := congrArg List.length h
  simp [bnds, tb_len] at this
theorem bnds_snoc (f t w : Int) (n i : Nat) : tb i (fun k => bnd f t w n k) ++ [bnd f t w n i] = tb (i + 1) fun k => bnd f t w n k := tb_snoc i fun k => bnd f t w n k
/-- The easiest law. -/
def esF (s : Nat → Int) : Nat → Int × Int
  | 0 => (0, s 0)
  | k + 1 => if s (k + 1) < (esF s k).2 then (((k : Nat) : Int) + 1, s (k + 1)) else esF s k
def esS (f t : Int) (n : Nat) (w : Nat) : Int := mxS (bnds f t (w : Int) n)
def esR (f t : Int) (n : Nat) : Int × (Int × (Int × Unit)) := ((esF (esS f t n) 3).1, (esF (esS f t n) 3).2, 0, ())
theorem esF_in {s : Nat → Int} (h : ∀ k, 0 ≤ s k) : ∀ k, 0 ≤ (esF s k).1 ∧ (esF s k).1 ≤ (k : Int) ∧ 0 ≤ (esF s k).2
  | 0 => ⟨Int.le_refl _, Int.le_refl _, h 0⟩
  | k + 1 => by
    have := esF_in h k
    have := h (k + 1)
    unfold esF
    split
    · simp only; omega
    · omega
/-! ### Planned programs -/
def mosP (law : Int) (to S : Nat → Int) (n : Nat) : List Ct := tb n fun i => (law, S i, to i, ())
def pick (z S : Nat → Int) : Nat → Nat
  | 0 => 0
  | i + 1 => if z i * S (pick z S i) > z (pick z S i) * S i then i else pick z S i
theorem pick_lt (z S : Nat → Int) {n : Nat} (h : 0 < n) : ∀ i, i ≤ n → pick z S i < n
  | 0, _ => h
  | i + 1, hi => by
    have := pick_lt z S h i (by omega)
    unfold pick
    split <;> omega
theorem pick_one (z S : Nat → Int) : pick z S 1 = 0 := by unfold pick; split <;> rfl
def more (z S : Nat → Int) (n : Nat) : Nat → Int := fun i => if i = pick z S n then S i + 1 else S i
def plan (z : Nat → Int) (n : Nat) : Nat → Nat → Int
  | 0 => fun _ => 1
  | k + 1 => more z (plan z n k) n
def sumN (S : Nat → Int) : Nat → Int
  | 0 => 0
  | i + 1 => sumN S i + S i
theorem sumN_up (S : Nat → Int) (a : Nat) : ∀ n, sumN (fun i => if i = a then S i + 1 else S i) n = sumN S n + if a < n then 1 else 0
  | 0 => by simp [sumN]
  | n + 1 => by
    unfold sumN
    rw [sumN_up S a n]
    by_cases h : n = a
    · subst h; rw [if_pos rfl, if_neg (by omega), if_pos (by omega)]; omega
    · rw [if_neg h]
      by_cases h2 : a < n
      · rw [if_pos h2, if_pos (by omega)]; omega
      · rw [if_neg h2, if_neg (by omega)]; omega
theorem sumN_one (n : Nat) : sumN (fun _ => 1) n = n := by
  induction n with
  | zero => rfl
  | succ n ih => unfold sumN; rw [ih]; omega
theorem sumN_el {S : Nat → Int} (h : ∀ i, 1 ≤ S i) : ∀ {n i : Nat}, i < n → S i + (n : Int) - 1 ≤ sumN S n
  | 0, i, hi => by omega
  | n + 1, i, hi => by
    have h0 : ∀ n : Nat, (n : Int) ≤ sumN S n := fun n => by
      induction n with
      | zero => exact Int.le_refl _
      | succ n ih => unfold sumN; have := h n; omega
    unfold sumN
    by_cases e : i = n
    · subst e; have := h0 i; omega
    · have := sumN_el h (n := n) (i := i) (by omega)
      have := h n
      omega
structure GoodP2 (n k : Nat) (S : Nat → Int) : Prop where
  one : ∀ i, 1 ≤ S i
  sum : sumN S n = n + k
theorem plan_good (z : Nat → Int) {n : Nat} (h : 0 < n) : ∀ k, GoodP2 n k (plan z n k)
  | 0 => ⟨fun _ => Int.le_refl _, by show sumN (fun _ => 1) n = _; rw [sumN_one]; omega⟩
  | k + 1 => by
    have ih := plan_good z h k
    refine ⟨fun i => ?_, ?_⟩
    · have := ih.one i
      show 1 ≤ more z (plan z n k) n i
      unfold more
      split <;> omega
    · show sumN (more z (plan z n k) n) n = _
      unfold more
      rw [sumN_up, ih.sum, if_pos (pick_lt z _ h n (Nat.le_refl _))]
      omega
theorem GoodP2.le {n k : Nat} {S : Nat → Int} (h : GoodP2 n k S) {i : Nat} (hi : i < n) : 1 ≤ S i ∧ S i ≤ k + 1 := by
  have h1 := sumN_el h.one hi
  rw [h.sum] at h1
  exact ⟨h.one i, by omega⟩
theorem mosP_set (law : Int) (to S : Nat → Int) (n a : Nat) : (mosP law to S n).set a (law, S a + 1, to a, ()) = mosP law to (fun i => if i = a then S i + 1 else S i) n := by
  unfold mosP
  rw [tb_set]
  exact tb_ext fun j _ => by
    by_cases h : j = a
    · subst h; simp
    · simp [h]
/-- Where a planned program's motions lead, and how far they are. -/
def toL (l : List Int) (i : Nat) : Int := g l ((i + 1) % l.length)
def zL (l : List Int) (i : Nat) : Int := siz (toL l i - g l i)
theorem toL_in {l : List Int} (h : 0 < l.length) (he : ∀ v ∈ l, 0 ≤ v ∧ v ≤ 10000) (i : Nat) : 0 ≤ toL l i ∧ toL l i ≤ 10000 := he _ (g_mem (Nat.mod_lt _ h))
theorem zL_in {l : List Int} {i : Nat} (h : 0 < l.length) (he : ∀ v ∈ l, 0 ≤ v ∧ v ≤ 10000) (hi : i < l.length) : 0 ≤ zL l i ∧ zL l i ≤ 10000 := by
  have a := toL_in h he i
  have b := he _ (g_mem hi)
  exact ⟨siz_nn _, siz_le (by omega) (by omega)⟩
theorem toL_at {l : List Int} {i : Nat} (h : 0 < l.length) (hi : i < l.length) : At l (Int.tmod ((i : Int) + 1) (l.length : Int)) (toL l i) := by
  have hm := Nat.mod_lt (i + 1) h
  have e : Int.tmod ((i : Int) + 1) (l.length : Int) = (((i + 1) % l.length : Nat) : Int) := by
    rw [Int.tmod_eq_emod_of_nonneg (by omega), Int.natCast_emod, Int.natCast_add]
    rfl
  rw [e]
  have := g_idx (l := l) (i := (((i + 1) % l.length : Nat) : Int)) (by omega) (by omega)
  rwa [Int.toNat_natCast] at this
theorem mosP_sum (law : Int) (to S : Nat → Int) : ∀ n, sumM (mosP law to S n) = sumN S n
  | 0 => rfl
  | n + 1 => by
    unfold mosP
    rw [← tb_snoc, sumM_snoc]
    show sumM (mosP law to S n) + S n = _
    rw [mosP_sum law to S n]
    rfl
theorem mosP_rng {law : Int} {to S : Nat → Int} {n : Nat} (l0 : 0 ≤ law) (l1 : law ≤ 3) (hn : n ≤ 24) (ht : ∀ i, i < n → 0 ≤ to i ∧ to i ≤ 10000) (hS : ∀ i, i < n → 1 ≤ S i ∧ S i ≤ 360) : RngMo (mosP law to S n) := by
  refine ⟨by unfold mosP; rw [tb_len]; omega, fun v hv => ?_⟩
  obtain ⟨i, hi, rfl⟩ := tb_mem hv
  have := ht i hi
  have := hS i hi
  simp only
  omega
theorem mosP_ok {law : Int} {to S : Nat → Int} {n : Nat} {s : Int} (l0 : 0 ≤ law) (l1 : law ≤ 3) (h0 : 0 < n) (hn : n ≤ 24) (ht : ∀ i, i < n → 0 ≤ to i ∧ to i ≤ 10000) (hS : ∀ i, i < n → 1 ≤ S i ∧ S i ≤ 360) (s0 : 8 ≤ sumN S n) (s1 : sumN S n ≤ 360) (hs : to (n - 1) = s) (hs0 : 0 ≤ s) (hs1 : s ≤ 10000) : okPg (s, mosP law to S n, ()) = true := by
  have hl : (mosP law to S n).length = n := tb_len _ _
  unfold okPg
  simp only [Bool.and_eq_true, inR_iff, List.all_eq_true, beq_iff_eq]
  refine ⟨⟨⟨⟨by rw [hl]; omega, by rw [wrap_id (by omega) (by omega)]; omega⟩, fun v hv => ?_⟩, by rw [mosP_sum]; omega⟩, ?_⟩
  · obtain ⟨i, hi, rfl⟩ := tb_mem hv
    have a1 := ht i hi
    have a2 := hS i hi
    unfold moOk
    simp only [Bool.and_eq_true, inR_iff, Bool.not_eq_true', decide_eq_false_iff_not]
    rw [wrap_id (x := law) (by omega) (by omega), wrap_id (x := to i) (by omega) (by omega)]
    omega
  · have ha := tb_at (n := n) (G := fun i => ((law, S i, to i, ()) : Ct)) (i := (n : Int) - 1) (by omega) (by omega)
    unfold lastT
    rw [hl]
    show ((idx (tb n fun i => ((law, S i, to i, ()) : Ct)) ((n : Int) - 1)).map fun v => v.2.2.1).getD 0 = s
    rw [ha.idx]
    show to ((n : Int) - 1).toNat = s
    rw [show ((n : Int) - 1).toNat = n - 1 by omega]
    exact hs
end Go.Cams

/- Drawn cams, lag and feet, in plain terms. -/
namespace Go.Cams
open Go Go.Fw
/-- A cam as it is drawn. -/
structure SmD (c : List Int) : Prop where
  len : 8 ≤ (c.length : Int) ∧ (c.length : Int) ≤ 36
  el : ∀ v ∈ c, 0 ≤ v ∧ v ≤ 60
theorem SmD.rng {c : List Int} (S : SmD c) : Rng c := rng_bd (by have := S.len; omega) fun v hv => by have := S.el v hv; omega
theorem okC_of {c : List Int} (h : 8 ≤ (c.length : Int) ∧ (c.length : Int) ≤ 360) (he : ∀ v ∈ c, 0 ≤ v ∧ v ≤ 10000) : okC c = true := by
  unfold okC
  simp only [Bool.and_eq_true, inR_iff, List.all_eq_true]
  exact ⟨h, fun v hv => by
    have := he v hv
    unfold okV
    rw [inR_iff, wrap_id (by omega) (by omega)]
    exact this⟩
theorem SmD.ok {c : List Int} (S : SmD c) : okC c = true := okC_of (by have := S.len; omega) fun v hv => by have := S.el v hv; omega
def grow (b : Int) (m : Nat) : Nat → List Int × Int → List Int × Int
  | 0, s => s
  | k + 1, s => if s.1.length < m then grow b m k (s.1 ++ [max 0 (min 60 (s.2 + b))], max 0 (min 60 (s.2 + b))) else s
structure GoodG2 (m : Nat) (s : List Int × Int) : Prop where
  el : ∀ v ∈ s.1, 0 ≤ v ∧ v ≤ 60
  lf : 0 ≤ s.2 ∧ s.2 ≤ 60
  le : s.1.length ≤ m
theorem grow_one {b : Int} {m : Nat} {s : List Int × Int} (h : GoodG2 m s) (hl : s.1.length < m) : GoodG2 m (s.1 ++ [max 0 (min 60 (s.2 + b))], max 0 (min 60 (s.2 + b))) := by
  have hb : 0 ≤ max 0 (min 60 (s.2 + b)) ∧ max 0 (min 60 (s.2 + b)) ≤ 60 := by omega
  refine ⟨fun v hv => ?_, hb, by simp; omega⟩
  rcases List.mem_append.1 hv with hv | hv
  · exact h.el v hv
  · simp at hv; rw [hv]; exact hb
theorem grow_good {b : Int} {m : Nat} : ∀ k {s : List Int × Int}, GoodG2 m s → GoodG2 m (grow b m k s) ∧ s.1.length ≤ (grow b m k s).1.length
  | 0, s, h => ⟨h, Nat.le_refl _⟩
  | k + 1, s, h => by
    unfold grow
    by_cases hl : s.1.length < m
    · rw [if_pos hl]
      have := grow_good (b := b) k (grow_one (b := b) h hl)
      exact ⟨this.1, by have h2 := this.2; simp at h2; omega⟩
    · rw [if_neg hl]; exact ⟨h, Nat.le_refl _⟩
theorem grow_more {b : Int} {m : Nat} {k : Nat} {s : List Int × Int} (h : GoodG2 m s) (hl : s.1.length < m) (hk : 0 < k) : s.1.length < (grow b m k s).1.length := by
  obtain ⟨k, rfl⟩ : ∃ j, k = j + 1 := ⟨k - 1, by omega⟩
  unfold grow
  rw [if_pos hl]
  have := (grow_good (b := b) k (grow_one (b := b) h hl)).2
  simp at this
  omega
/-! ### What lies beside -/
def wTo (op : Int → Int → Int) (h : Int → Int) (f : Nat) (x : Int) : Nat → Int
  | 0 => h x
  | i + 1 => op (wTo op h f x i) (h (x + ((i : Nat) - (f : Nat) : Int)))
def upW (h : Int → Int) (f : Nat) (x : Int) : Int := wTo max h f x (2 * f + 1)
def dnW (h : Int → Int) (f : Nat) (x : Int) : Int := wTo min h f x (2 * f + 1)
theorem wTo_max {h : Int → Int} {f : Nat} {x m : Int} : ∀ k, wTo max h f x k ≤ m ↔ h x ≤ m ∧ ∀ i, i < k → h (x + ((i : Nat) - (f : Nat) : Int)) ≤ m
  | 0 => by simp [wTo]
  | k + 1 => by
    unfold wTo
    constructor
    · intro H
      have h1 := (wTo_max k).1 (show wTo max h f x k ≤ m by omega)
      refine ⟨h1.1, fun i hi => ?_⟩
      by_cases e : i = k
      · subst e; omega
      · exact h1.2 i (by omega)
    · rintro ⟨h1, h2⟩
      have h3 := (wTo_max k).2 ⟨h1, fun i hi => h2 i (by omega)⟩
      have := h2 k (by omega)
      omega
theorem wTo_min {h : Int → Int} {f : Nat} {x m : Int} : ∀ k, m ≤ wTo min h f x k ↔ m ≤ h x ∧ ∀ i, i < k → m ≤ h (x + ((i : Nat) - (f : Nat) : Int))
  | 0 => by simp [wTo]
  | k + 1 => by
    unfold wTo
    constructor
    · intro H
      have h1 := (wTo_min k).1 (show m ≤ wTo min h f x k by omega)
      refine ⟨h1.1, fun i hi => ?_⟩
      by_cases e : i = k
      · subst e; omega
      · exact h1.2 i (by omega)
    · rintro ⟨h1, h2⟩
      have h3 := (wTo_min k).2 ⟨h1, fun i hi => h2 i (by omega)⟩
      have := h2 k (by omega)
      omega
theorem upW_le {h : Int → Int} {f : Nat} {x m : Int} : upW h f x ≤ m ↔ ∀ d : Int, -f ≤ d → d ≤ f → h (x + d) ≤ m := by
  unfold upW
  rw [wTo_max]
  constructor
  · rintro ⟨_, h2⟩ d d0 d1
    have := h2 (d + f).toNat (by omega)
    rwa [show (((d + f).toNat : Nat) : Int) - (f : Nat) = d by omega] at this
  · intro H
    refine ⟨by have := H 0 (by omega) (by omega); rwa [Int.add_zero] at this, fun i hi => H _ (by omega) (by omega)⟩
theorem le_dnW {h : Int → Int} {f : Nat} {x m : Int} : m ≤ dnW h f x ↔ ∀ d : Int, -f ≤ d → d ≤ f → m ≤ h (x + d) := by
  unfold dnW
  rw [wTo_min]
  constructor
  · rintro ⟨_, h2⟩ d d0 d1
    have := h2 (d + f).toNat (by omega)
    rwa [show (((d + f).toNat : Nat) : Int) - (f : Nat) = d by omega] at this
  · intro H
    refine ⟨by have := H 0 (by omega) (by omega); rwa [Int.add_zero] at this, fun i hi => H _ (by omega) (by omega)⟩
def rcW (h : Int → Int) (f : Nat) : Int → Int := dnW (upW h f) f
theorem le_upW (h : Int → Int) (f : Nat) (x : Int) : h x ≤ upW h f x := by
  have := (upW_le (h := h) (f := f) (x := x) (m := upW h f x)).1 (Int.le_refl _) 0 (by omega) (by omega)
  rwa [Int.add_zero] at this
theorem dnW_le (h : Int → Int) (f : Nat) (x : Int) : dnW h f x ≤ h x := by
  have := (le_dnW (h := h) (f := f) (x := x) (m := dnW h f x)).1 (Int.le_refl _) 0 (by omega) (by omega)
  rwa [Int.add_zero] at this
theorem upW_mono {h k : Int → Int} (H : ∀ x, h x ≤ k x) (f : Nat) (x : Int) : upW h f x ≤ upW k f x :=
  upW_le.2 fun d d0 d1 => Int.le_trans (H _) ((upW_le (h := k) (f := f) (x := x)).1 (Int.le_refl _) d d0 d1)
theorem dnW_mono {h k : Int → Int} (H : ∀ x, h x ≤ k x) (f : Nat) (x : Int) : dnW h f x ≤ dnW k f x :=
  le_dnW.2 fun d d0 d1 => Int.le_trans ((le_dnW (h := h) (f := f) (x := x)).1 (Int.le_refl _) d d0 d1) (H _)
theorem le_rcW (h : Int → Int) (f : Nat) (x : Int) : h x ≤ rcW h f x := le_dnW.2 fun d d0 d1 => by
  have := (upW_le (h := h) (f := f) (x := x + d) (m := upW h f (x + d))).1 (Int.le_refl _) (-d) (by omega) (by omega)
  rwa [show x + d + -d = x by omega] at this
theorem up_dn (k : Int → Int) (f : Nat) (x : Int) : upW (dnW k f) f x ≤ k x := upW_le.2 fun d d0 d1 => by
  have := (le_dnW (h := k) (f := f) (x := x + d) (m := dnW k f (x + d))).1 (Int.le_refl _) (-d) (by omega) (by omega)
  rwa [show x + d + -d = x by omega] at this
theorem rcW_rcW (h : Int → Int) (f : Nat) (x : Int) : rcW (rcW h f) f x = rcW h f x :=
  Int.le_antisymm (dnW_mono (fun y => up_dn (upW h f) f y) f x) (le_rcW (rcW h f) f x)
theorem rcW_up (h : Int → Int) (f : Nat) (x : Int) : rcW h f x ≤ upW h f x := dnW_le _ _ _
theorem wTo_congr {op : Int → Int → Int} {h k : Int → Int} (H : ∀ x, h x = k x) (f : Nat) (x : Int) : ∀ i, wTo op h f x i = wTo op k f x i
  | 0 => H x
  | i + 1 => by unfold wTo; rw [wTo_congr H f x i, H]
theorem wTo_per {op : Int → Int → Int} {c : List Int} (f : Nat) (x : Int) : ∀ i, wTo op (cAt c) f (x % c.length) i = wTo op (cAt c) f x i
  | 0 => cAt_mod c x
  | i + 1 => by unfold wTo; rw [wTo_per f x i, cAt_mod']
theorem wTo_bd {op : Int → Int → Int} (ho : ∀ a b : Int, op a b = a ∨ op a b = b) {h : Int → Int} {lo hi : Int} (H : ∀ x, lo ≤ h x ∧ h x ≤ hi) (f : Nat) (x : Int) : ∀ i, lo ≤ wTo op h f x i ∧ wTo op h f x i ≤ hi
  | 0 => H x
  | i + 1 => by
    unfold wTo
    rcases ho (wTo op h f x i) (h (x + ((i : Nat) - (f : Nat) : Int))) with e | e <;> rw [e]
    · exact wTo_bd ho H f x i
    · exact H _
theorem max_or (a b : Int) : max a b = a ∨ max a b = b := by omega
theorem min_or (a b : Int) : min a b = a ∨ min a b = b := by omega
def wL (op : Int → Int → Int) (c : List Int) (f : Nat) : List Int := tb c.length fun i => wTo op (cAt c) f (i : Nat) (2 * f + 1)
theorem wL_len (op : Int → Int → Int) (c : List Int) (f : Nat) : (wL op c f).length = c.length := tb_len _ _
theorem wL_at {op : Int → Int → Int} {c : List Int} (h0 : 0 < c.length) (f : Nat) (x : Int) : cAt (wL op c f) x = wTo op (cAt c) f x (2 * f + 1) := by
  unfold cAt
  rw [wL_len]
  have h1 := Int.emod_nonneg x (show (c.length : Int) ≠ 0 by omega)
  have h2 := Int.emod_lt_of_pos x (show (0 : Int) < c.length by omega)
  unfold wL
  rw [g_tb (by omega), show (((x % (c.length : Int)).toNat : Nat) : Int) = x % (c.length : Int) by omega]
  exact wTo_per f x _
theorem wL_el {op : Int → Int → Int} (ho : ∀ a b : Int, op a b = a ∨ op a b = b) {c : List Int} (h0 : 0 < c.length) {lo hi : Int} (H : ∀ v ∈ c, lo ≤ v ∧ v ≤ hi) (f : Nat) : ∀ v ∈ wL op c f, lo ≤ v ∧ v ≤ hi := fun v hv => by
  obtain ⟨i, hi, rfl⟩ := tb_mem hv
  exact wTo_bd ho (fun x => H _ (cAt_mem h0 x)) f _ _
def rcL (c : List Int) (f : Nat) : List Int := wL min (wL max c f) f
theorem rcL_len (c : List Int) (f : Nat) : (rcL c f).length = c.length := by unfold rcL; rw [wL_len, wL_len]
theorem rcL_at {c : List Int} (h0 : 0 < c.length) (f : Nat) (x : Int) : cAt (rcL c f) x = rcW (cAt c) f x := by
  unfold rcL
  rw [wL_at (by rw [wL_len]; exact h0)]
  unfold rcW dnW
  exact wTo_congr (fun y => wL_at h0 f y) f x _
theorem cAt_ext {a b : List Int} (h : a.length = b.length) (H : ∀ i : Nat, i < b.length → cAt a i = cAt b i) : a = b := by
  apply List.ext_getElem? 
  intro i
  by_cases hi : i < b.length
  · have := H i hi
    rw [cAt_self (by omega), cAt_self hi] at this
    unfold g at this
    rw [List.getD_eq_getElem?_getD, List.getD_eq_getElem?_getD, List.getElem?_eq_getElem (by omega), List.getElem?_eq_getElem hi] at this
    rw [List.getElem?_eq_getElem (by omega), List.getElem?_eq_getElem hi]
    simpa using this
  · rw [List.getElem?_eq_none (by omega), List.getElem?_eq_none (by omega)]
theorem rcL_idem {c : List Int} (h0 : 0 < c.length) (f : Nat) : rcL (rcL c f) f = rcL c f :=
  cAt_ext (by rw [rcL_len]) fun i _ => by
    rw [rcL_at (by rw [rcL_len]; exact h0), rcL_at h0]
    have : ∀ x, rcW (cAt (rcL c f)) f x = rcW (rcW (cAt c) f) f x := fun x => by
      unfold rcW dnW
      exact wTo_congr (fun y => wTo_congr (fun z => rcL_at h0 f z) f y _) f x _
    rw [this, rcW_rcW]
theorem rcL_zero {c : List Int} (h0 : 0 < c.length) : rcL c 0 = c :=
  cAt_ext (rcL_len c 0) fun i _ => by
    rw [rcL_at h0]
    have h1 := le_rcW (cAt c) 0 i
    have h2 := rcW_up (cAt c) 0 i
    have h3 : upW (cAt c) 0 (i : Int) ≤ cAt c i := upW_le.2 fun d d0 d1 => by rw [show d = 0 by omega, Int.add_zero]; exact Int.le_refl _
    omega
theorem rcL_el {c : List Int} (h0 : 0 < c.length) {lo hi : Int} (H : ∀ v ∈ c, lo ≤ v ∧ v ≤ hi) (f : Nat) : ∀ v ∈ rcL c f, lo ≤ v ∧ v ≤ hi :=
  wL_el min_or (by rw [wL_len]; exact h0) (wL_el max_or h0 H f) f
/-- Where two cams differ. -/
def offTo (r c : List Int) : Nat → List Int
  | 0 => []
  | i + 1 => if g r i != g c i then offTo r c i ++ [((i : Nat) : Int)] else offTo r c i
theorem offTo_len (r c : List Int) : ∀ i, (offTo r c i).length ≤ i
  | 0 => Nat.le_refl _
  | i + 1 => by
    have := offTo_len r c i
    unfold offTo
    split
    · simp; omega
    · omega
theorem offTo_same (c : List Int) : ∀ i, offTo c c i = []
  | 0 => rfl
  | i + 1 => by unfold offTo; rw [offTo_same c i]; simp
/-- The widest foot. -/
def wfF (c : List Int) : Nat → Nat → Nat
  | 0, f => f
  | k + 1, f => if rcL c (f + 1) = c then wfF c k (f + 1) else f
theorem wfF_spec (c : List Int) : ∀ k f, (∀ j, j ≤ f → rcL c j = c) → f ≤ wfF c k f ∧ wfF c k f ≤ f + k ∧ ∀ j, j ≤ wfF c k f → rcL c j = c
  | 0, f, h => ⟨Nat.le_refl _, Nat.le_refl _, h⟩
  | k + 1, f, h => by
    unfold wfF
    by_cases hc : rcL c (f + 1) = c
    · rw [if_pos hc]
      have := wfF_spec c k (f + 1) fun j hj => by
        by_cases e : j = f + 1
        · rw [e]; exact hc
        · exact h j (by omega)
      exact ⟨by omega, by omega, this.2.2⟩
    · rw [if_neg hc]
      exact ⟨Nat.le_refl _, by omega, h⟩
/-! ### Lag -/
def lgTo (c : List Int) (r x : Int) : Nat → Int
  | 0 => cAt c x
  | j + 1 => max (lgTo c r x j) (cAt c (x - (j : Nat)) - r * (j : Nat))
def lgL (c : List Int) (r : Int) : List Int := tb c.length fun i => lgTo c r (i : Nat) c.length
theorem lgL_len (c : List Int) (r : Int) : (lgL c r).length = c.length := tb_len _ _
theorem lgTo_one (c : List Int) (r x : Int) : lgTo c r x 1 = cAt c x := by
  unfold lgTo lgTo
  simp
theorem lgTo_le {c : List Int} {r x m : Int} : ∀ k, lgTo c r x k ≤ m ↔ cAt c x ≤ m ∧ ∀ j, j < k → cAt c (x - (j : Nat)) - r * (j : Nat) ≤ m
  | 0 => by simp [lgTo]
  | k + 1 => by
    unfold lgTo
    constructor
    · intro H
      have h1 := (lgTo_le k).1 (show lgTo c r x k ≤ m by omega)
      refine ⟨h1.1, fun i hi => ?_⟩
      by_cases e : i = k
      · subst e; omega
      · exact h1.2 i (by omega)
    · rintro ⟨h1, h2⟩
      have h3 := (lgTo_le k).2 ⟨h1, fun i hi => h2 i (by omega)⟩
      have := h2 k (by omega)
      omega
theorem lgTo_per (c : List Int) (r x : Int) : ∀ k, lgTo c r (x % c.length) k = lgTo c r x k
  | 0 => cAt_mod c x
  | k + 1 => by
    unfold lgTo
    rw [lgTo_per c r x k]
    have := cAt_mod' c x (-(k : Nat))
    rw [show x % (c.length : Int) + -(k : Nat) = x % (c.length : Int) - (k : Nat) by omega, show x + -((k : Nat) : Int) = x - (k : Nat) by omega] at this
    rw [this]
theorem lgL_at {c : List Int} (h0 : 0 < c.length) (r x : Int) : cAt (lgL c r) x = lgTo c r x c.length := by
  unfold cAt
  rw [lgL_len]
  have h1 := Int.emod_nonneg x (show (c.length : Int) ≠ 0 by omega)
  have h2 := Int.emod_lt_of_pos x (show (0 : Int) < c.length by omega)
  unfold lgL
  rw [g_tb (by omega), show (((x % (c.length : Int)).toNat : Nat) : Int) = x % (c.length : Int) by omega]
  exact lgTo_per c r x _
theorem lgTo_bd {c : List Int} (h0 : 0 < c.length) {r lo hi : Int} (hr : 0 ≤ r) (H : ∀ v ∈ c, lo ≤ v ∧ v ≤ hi) (x : Int) (k : Nat) : lo ≤ lgTo c r x k ∧ lgTo c r x k ≤ hi := by
  have h1 := (lgTo_le (c := c) (r := r) (x := x) (m := lgTo c r x k) k).1 (Int.le_refl _)
  have hx := H _ (cAt_mem h0 x)
  refine ⟨by omega, (lgTo_le k).2 ⟨hx.2, fun j _ => ?_⟩⟩
  have := H _ (cAt_mem h0 (x - (j : Nat)))
  have := Int.mul_nonneg hr (show (0 : Int) ≤ (j : Nat) by omega)
  omega
theorem lgL_el {c : List Int} (h0 : 0 < c.length) {r lo hi : Int} (hr : 0 ≤ r) (H : ∀ v ∈ c, lo ≤ v ∧ v ≤ hi) : ∀ v ∈ lgL c r, lo ≤ v ∧ v ≤ hi := fun v hv => by
  obtain ⟨i, hi, rfl⟩ := tb_mem hv
  exact lgTo_bd h0 hr H _ _
/-- The least rate. -/
def lrV (c : List Int) : Int := max 1 (-(mnL (chgL c)))
theorem chgL_mem {c : List Int} {v : Int} (h : v ∈ chgL c) : ∃ x : Int, v = cAt c (x + 1) - cAt c x := by
  simp only [chgL, List.mem_map, List.mem_range] at h
  obtain ⟨i, _, rfl⟩ := h
  exact ⟨(i : Nat), rfl⟩
theorem mnL_ge {l : List Int} {v : Int} (h : v ∈ l) : mnL l ≤ v := (mnF_ge l _).2 v h
theorem mnL_mem {l : List Int} (h : l ≠ []) : mnL l ∈ l := by
  have key : ∀ (l : List Int) (a : Int), mnF l a = a ∨ mnF l a ∈ l := by
    intro l
    induction l with
    | nil => intro a; exact .inl rfl
    | cons v l ih =>
      intro a
      have e : mnF (v :: l) a = mnF l (min a v) := rfl
      rw [e]
      rcases ih (min a v) with h | h
      · rw [h]
        by_cases hm : a ≤ v
        · left; omega
        · right; rw [show min a v = v by omega]; simp
      · right; exact List.mem_cons_of_mem _ h
  unfold mnL
  rcases key l (l.headD 0) with e | e
  · rw [e]
    obtain ⟨v, r, rfl⟩ := List.exists_cons_of_ne_nil h
    simp
  · exact e
theorem chg_mem {c : List Int} (h0 : 0 < c.length) (x : Int) : cAt c (x + 1) - cAt c x ∈ chgL c := (chgL_at h0 x).mem
theorem chgL_ne {c : List Int} (h0 : 0 < c.length) : chgL c ≠ [] := fun e => by
  have h : c.length = 0 := by rw [← chgL_len c, e]; rfl
  omega
theorem lr_fall {c : List Int} (h0 : 0 < c.length) (x : Int) : cAt c x - cAt c (x + 1) ≤ lrV c := by
  have := mnL_ge (chg_mem h0 x)
  unfold lrV
  omega
theorem lr_le {c : List Int} (h0 : 0 < c.length) {m : Int} (h1 : 1 ≤ m) (H : ∀ x, cAt c x - cAt c (x + 1) ≤ m) : lrV c ≤ m := by
  have hne : chgL c ≠ [] := chgL_ne h0
  obtain ⟨x, e⟩ := chgL_mem (mnL_mem hne)
  have := H x
  unfold lrV
  omega
theorem lr_is {c : List Int} (h0 : 0 < c.length) (h : 1 < lrV c) : ∃ x, cAt c x - cAt c (x + 1) = lrV c := by
  have hne : chgL c ≠ [] := chgL_ne h0
  obtain ⟨x, e⟩ := chgL_mem (mnL_mem hne)
  refine ⟨x, ?_⟩
  unfold lrV at h ⊢
  omega
theorem lr_bd {c : List Int} (h0 : 0 < c.length) {hi : Int} (hh : 1 ≤ hi) (H : ∀ v ∈ c, 0 ≤ v ∧ v ≤ hi) : 1 ≤ lrV c ∧ lrV c ≤ hi :=
  ⟨by unfold lrV; omega, lr_le h0 hh fun x => by
    have := H _ (cAt_mem h0 x)
    have := H _ (cAt_mem h0 (x + 1))
    omega⟩
theorem fall_far {c : List Int} (h0 : 0 < c.length) (x : Int) : ∀ j : Nat, cAt c (x - (j : Nat)) - lrV c * (j : Nat) ≤ cAt c x
  | 0 => by simp
  | j + 1 => by
    have h1 := fall_far h0 x j
    have h2 := lr_fall h0 (x - ((j + 1 : Nat) : Int))
    rw [show x - ((j + 1 : Nat) : Int) + 1 = x - (j : Nat) by omega] at h2
    have h3 : lrV c * ((j + 1 : Nat) : Int) = lrV c * (j : Nat) + lrV c := by rw [Int.natCast_add, Int.mul_add]; simp
    rw [h3]
    omega
theorem lg_same {c : List Int} (h0 : 0 < c.length) : lgL c (lrV c) = c :=
  cAt_ext (lgL_len _ _) fun i _ => by
    rw [lgL_at h0]
    have h1 := (lgTo_le (c := c) (r := lrV c) (x := (i : Nat)) (m := lgTo c (lrV c) (i : Nat) c.length) c.length).1 (Int.le_refl _)
    have h2 : lgTo c (lrV c) (i : Nat) c.length ≤ cAt c (i : Nat) := (lgTo_le _).2 ⟨Int.le_refl _, fun j _ => fall_far h0 _ j⟩
    omega
theorem le_lg {c : List Int} (h0 : 0 < c.length) (r x : Int) : cAt c x ≤ cAt (lgL c r) x := by
  rw [lgL_at h0]
  exact ((lgTo_le (c := c) (r := r) (x := x) (m := lgTo c r x c.length) c.length).1 (Int.le_refl _)).1
theorem lg_slow {c : List Int} (h2 : 2 ≤ c.length) {r : Int} (h : ∃ x, cAt c x - cAt c (x + 1) > r) : lgL c r ≠ c := fun e => by
  obtain ⟨x, hx⟩ := h
  have h1 := lgL_at (c := c) (by omega) r (x + 1)
  rw [e] at h1
  have h3 := ((lgTo_le (c := c) (r := r) (x := x + 1) (m := lgTo c r (x + 1) c.length) c.length).1 (Int.le_refl _)).2 1 (by omega)
  rw [show x + 1 - ((1 : Nat) : Int) = x by omega, show r * ((1 : Nat) : Int) = r by omega] at h3
  omega
theorem lg_fall {c : List Int} (h0 : 0 < c.length) {r : Int} (hr : 0 ≤ r) (x : Int) : cAt (lgL c r) x - cAt (lgL c r) (x + 1) ≤ r := by
  rw [lgL_at h0, lgL_at h0]
  have hU := (lgTo_le (c := c) (r := r) (x := x + 1) (m := lgTo c r (x + 1) c.length) c.length).1 (Int.le_refl _)
  have : lgTo c r x c.length ≤ lgTo c r (x + 1) c.length + r := by
    have key : ∀ j : Nat, j < c.length → cAt c (x - (j : Nat)) - r * (j : Nat) ≤ lgTo c r (x + 1) c.length + r := fun j hj => by
      by_cases e : j + 1 < c.length
      · have := hU.2 (j + 1) e
        rw [show x + 1 - ((j + 1 : Nat) : Int) = x - (j : Nat) by omega] at this
        have h3 : r * ((j + 1 : Nat) : Int) = r * (j : Nat) + r := by rw [Int.natCast_add, Int.mul_add]; simp
        omega
      · have h1 := hU.1
        have h2 := cAt_add c (x - (j : Nat))
        rw [show x - (j : Nat) + (c.length : Int) = x + 1 by omega] at h2
        have := Int.mul_nonneg hr (show (0 : Int) ≤ (j : Nat) by omega)
        omega
    refine (lgTo_le _).2 ⟨?_, key⟩
    have := key 0 h0
    simpa using this
  omega
end Go.Cams
namespace Go.Cams
open Go Go.Fw
def nxF (l : List Int) (a : Int) : Int := l.foldl (fun m v => max m (-v)) a
theorem nxF_snoc (l : List Int) (v a : Int) : nxF (l ++ [v]) a = max (nxF l a) (-v) := by simp [nxF, List.foldl_append]
theorem nxF_le : ∀ (l : List Int) (q m : Int), nxF l q ≤ m ↔ (q ≤ m ∧ ∀ v ∈ l, -v ≤ m)
  | [], q, m => by simp [nxF]
  | v :: l, q, m => by
    have e : nxF (v :: l) q = nxF l (max q (-v)) := rfl
    rw [e, nxF_le l _ m]
    simp only [List.mem_cons, forall_eq_or_imp]
    constructor
    · rintro ⟨h1, h2⟩; exact ⟨by omega, by omega, h2⟩
    · rintro ⟨h1, h2, h3⟩; exact ⟨by omega, h3⟩
theorem lr_nx {c : List Int} (h0 : 0 < c.length) : nxF (chgL c) 1 = lrV c := by
  apply Int.le_antisymm
  · rw [nxF_le]
    unfold lrV
    exact ⟨by omega, fun v hv => by have := mnL_ge hv; omega⟩
  · have h := (nxF_le (chgL c) 1 (nxF (chgL c) 1)).1 (Int.le_refl _)
    have := h.2 _ (mnL_mem (chgL_ne h0))
    unfold lrV
    omega
end Go.Cams
