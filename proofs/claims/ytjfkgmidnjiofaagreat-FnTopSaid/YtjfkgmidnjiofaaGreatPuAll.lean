/- What the functions compute, in plain terms: definitions and laws of lists and numbers, no program in sight. -/
import Derived.Test.YtjfkgmidnjiofaaGreatPuAlla
import Derived.Lib.ItoaLen
import Derived.Lib.ItoaMem
import Derived.Lib.Join
/- Fillings that are put into cams, and repairs, in plain terms. -/
namespace Go.Cams
open Go Go.Fw
/-- Lifts that are put into a cam from a step on. -/
def putP : List Int → Int → List Int → List Int
  | c, _, [] => c
  | c, f, v :: r => putP (c.set (f % c.length).toNat (wr .i16 v)) (f + 1) r
theorem putP_len : ∀ (l : List Int) (c : List Int) (f : Int), (putP c f l).length = c.length
  | [], c, f => rfl
  | v :: r, c, f => by
    show (putP (c.set (f % c.length).toNat (wr .i16 v)) (f + 1) r).length = _
    rw [putP_len r, List.length_set]
theorem putP_all {Q : Int → Prop} : ∀ (l : List Int) (c : List Int) (f : Int), (∀ v ∈ c, Q v) → (∀ v ∈ l, Q (wr .i16 v)) → ∀ v ∈ putP c f l, Q v
  | [], c, f, hc, _ => hc
  | a :: r, c, f, hc, hl => by
    show ∀ v ∈ putP (c.set (f % c.length).toNat (wr .i16 a)) (f + 1) r, Q v
    refine putP_all r _ _ (fun v hv => ?_) fun v hv => hl v (by simp [hv])
    rcases List.mem_or_eq_of_mem_set hv with h | h
    · exact hc v h
    · rw [h]; exact hl a (by simp)
theorem putP_snoc : ∀ (l : List Int) (c : List Int) (f v : Int), putP c f (l ++ [v]) = (putP c f l).set ((f + l.length) % c.length).toNat (wr .i16 v)
  | [], c, f, v => by show c.set _ _ = _; rw [show (f + (([] : List Int).length : Int)) = f by simp]; rfl
  | a :: r, c, f, v => by
    show putP (c.set (f % c.length).toNat (wr .i16 a)) (f + 1) (r ++ [v]) = (putP (c.set (f % c.length).toNat (wr .i16 a)) (f + 1) r).set _ _
    rw [putP_snoc r, List.length_set, show f + 1 + (r.length : Int) = f + ((a :: r).length : Int) by simp only [List.length_cons]; omega]
theorem wr16_in (v : Int) : -32768 ≤ wr .i16 v ∧ wr .i16 v ≤ 32767 := by
  show -32768 ≤ IntKind.i16.wrap v ∧ IntKind.i16.wrap v ≤ 32767
  simp [IntKind.wrap, IntKind.bits, IntKind.signed]
  omega
theorem putP_rng {c : List Int} (h : Rng c) (f : Int) (l : List Int) : Rng (putP c f l) :=
  ⟨by rw [putP_len]; exact h.len, putP_all (Q := fun v => -32768 ≤ v ∧ v ≤ 32767) l c f h.el fun v _ => wr16_in v⟩
abbrev RLI3 : Type := List Int × (Int × (Int × Unit))
def ssR (c : List Int) (f m lo : Int) : RLI3 := if askP c f m lo 0 ≠ 0 then ([], 0, askP c f m lo 0, ()) else (putP c f (fillR c f m lo (lbV c f m lo)).1, lbV c f m lo, 0, ())
theorem ssR_len {c : List Int} (hr : Rng c) (f m lo : Int) : ((ssR c f m lo).1.length : Int) ≤ c.length := by
  unfold ssR
  split
  · simp
  · show ((putP c f _).length : Int) ≤ _
    rw [putP_len]; omega
/-- The bend at a step. -/
def bendP (c : List Int) (i : Int) : Int := cAt c (i + 1) - 2 * cAt c i + cAt c (i - 1)
/-- A step of a repair. -/
def rpS (b lo : Int) (s : List Int × List Int) (i : Nat) : List Int × List Int :=
  if siz (bendP s.1 i) ≤ b then s
  else if askP s.1 (((i : Int) - 1) % s.1.length) 3 lo b = 0 ∧ cq s.1 (((i : Int) - 1) % s.1.length) 3 lo b = true then (putP s.1 (((i : Int) - 1) % s.1.length) (filP s.1 (((i : Int) - 1) % s.1.length) 3 lo b), s.2 ++ [(i : Int)]) else s
def rp (b lo : Int) (c : List Int) : Nat → List Int × List Int
  | 0 => (c, [])
  | k + 1 => rpS b lo (rp b lo c k) k
theorem fil_el {q : Nat → Nat → Nat → Nat → Bool} {lo : Int} {M : Nat} : ∀ (d k x y : Nat), d + k ≤ M → can q (M - k) k x y = true → ∀ v ∈ fil q lo M d k x y, lo ≤ v ∧ v ≤ lo + 63
  | 0, _, _, _, _, _, v, hv => by cases hv
  | d + 1, k, x, y, hM, hc, v, hv => by
    rw [show M - k = (M - (k + 1)) + 1 by omega] at hc
    obtain ⟨z1, z2, _⟩ := fstZ_some (p := fun z => q k x y z && can q (M - (k + 1)) (k + 1) y z) hc
    simp only [Bool.and_eq_true] at z2
    rcases List.mem_cons.1 hv with h | h
    · rw [h]; omega
    · exact fil_el d (k + 1) y _ (by omega) z2.2 v h
theorem filP_el {c : List Int} {f m lo b : Int} (h : cq c f m lo b = true) : ∀ v ∈ filP c f m lo b, lo ≤ v ∧ v ≤ lo + 63 := fil_el _ 0 _ _ (by omega) h
theorem okC_put {c : List Int} (hr : Rng c) (h : okC c = true) {f lo : Int} {l : List Int} (l0 : 0 ≤ lo) (l1 : lo ≤ 9937) (hl : ∀ v ∈ l, lo ≤ v ∧ v ≤ lo + 63) : okC (putP c f l) = true := by
  have h1 := okC_len h
  have h2 := okC_el h hr
  simp only [okC, Bool.and_eq_true, inR_iff, List.all_eq_true, okV]
  rw [putP_len]
  refine ⟨h1, putP_all (Q := fun v => 0 ≤ wr .i64 v ∧ wr .i64 v ≤ 10000) l c f (fun v hv => ?_) fun v hv => ?_⟩
  · rw [hr.id hv]; exact h2 v hv
  · have := hl v hv
    rw [wrap16 (by omega) (by omega), wrap_id (by omega) (by omega)]
    omega
structure GoodR (c : List Int) (s : List Int × List Int) (k : Nat) : Prop where
  ok : okC s.1 = true
  rng : Rng s.1
  len : s.1.length = c.length
  many : s.2.length ≤ k
theorem rp_good {c : List Int} (hr : Rng c) (h : okC c = true) {b lo : Int} (l0 : 0 ≤ lo) (l1 : lo ≤ 9937) : ∀ k, GoodR c (rp b lo c k) k
  | 0 => ⟨h, hr, rfl, Nat.le_refl _⟩
  | k + 1 => by
    have G := rp_good hr h (b := b) l0 l1 k
    show GoodR c (rpS b lo (rp b lo c k) k) (k + 1)
    unfold rpS
    split
    · exact ⟨G.ok, G.rng, G.len, by have := G.many; omega⟩
    · split
      · rename_i h2
        exact ⟨okC_put G.rng G.ok l0 l1 (filP_el h2.2), putP_rng G.rng _ _, by show (putP _ _ _).length = _; rw [putP_len]; exact G.len, by show ((rp b lo c k).2 ++ [(k : Int)]).length ≤ _; rw [List.length_append]; have := G.many; simp only [List.length_cons, List.length_nil]; omega⟩
      · exact ⟨G.ok, G.rng, G.len, by have := G.many; omega⟩
abbrev RLLI : Type := List Int × (List Int × (Int × Unit))
def rpR (c : List Int) (b lo : Int) : RLLI := if okC c = false then ([], [], 1, ()) else if (inR b 0 40000 && inR lo 0 9937) = false then ([], [], 2, ()) else ((rp b lo c c.length).1, (rp b lo c c.length).2, 0, ())
theorem rpR_len {c : List Int} (hr : Rng c) (b lo : Int) : ((rpR c b lo).1.length : Int) ≤ 360 ∧ ((rpR c b lo).2.1.length : Int) ≤ 360 := by
  unfold rpR
  split
  · simp
  · rename_i h
    have h : okC c = true := by simpa using h
    have := okC_len h
    split
    · simp
    · rename_i h2
      simp only [Bool.not_eq_false, Bool.and_eq_true, inR_iff] at h2
      have G := rp_good hr h (b := b) (lo := lo) h2.2.1 h2.2.2 c.length
      have h3 := G.len
      have h4 := G.many
      show (((rp b lo c c.length).1.length : Nat) : Int) ≤ 360 ∧ (((rp b lo c c.length).2.length : Nat) : Int) ≤ 360
      omega
end Go.Cams
namespace Go.Cams
open Go Go.Fw
theorem fillR_len {c : List Int} {f m lo b : Int} (G : GoodS c f m lo b) {b' : Int} : ((fillR c f m lo b').1.length : Int) ≤ 40 := by
  have := G.hm
  unfold fillR
  split
  · show ((filP c f m lo b').length : Int) ≤ 40
    unfold filP
    rw [fil_len]; omega
  · simp
theorem fwR_zero (c : List Int) (f m lo b : Int) : ((fwR c f m lo b).2.1 == (0 : Int)) = true ↔ askP c f m lo b = 0 ∧ cq c f m lo b = true := by
  unfold fwR
  by_cases h : askP c f m lo b = 0
  · rw [if_neg (by simp [h])]
    cases hc : cq c f m lo b with
    | false => rw [if_neg (by simp)]; exact ⟨fun h => absurd h (by decide), fun h => absurd h.2 (by simp)⟩
    | true => rw [if_pos rfl]; exact ⟨fun _ => ⟨h, rfl⟩, fun _ => rfl⟩
  · rw [if_pos h]
    exact ⟨fun hh => absurd (by simpa using hh) h, fun hh => absurd hh.1 h⟩
end Go.Cams

/- Cuts that are done one behind another, in plain terms. -/
namespace Go.Cams
open Go Go.Fw
structure GoodL (m : Nat) (K : List (List Int)) (L : List Ct) : Prop where
  m0 : 0 < m
  m1 : m ≤ 1000
  hk : okKs K = true
  n : 1 ≤ (K.length : Int) ∧ (K.length : Int) ≤ 8
  l : (L.length : Int) ≤ 400
  el : ∀ v ∈ L, (0 ≤ v.1 ∧ v.1 < (m : Int)) ∧ (0 ≤ v.2.1 ∧ v.2.1 ≤ 10000) ∧ (0 ≤ v.2.2.1 ∧ v.2.2.1 < (K.length : Int))
theorem GoodG.toL {c : List Int} {K : List (List Int)} {L : List Ct} (G : GoodG c K L) : GoodL c.length K L := by
  have := okC_len G.hc
  exact ⟨by omega, by omega, G.hk, G.n, G.l, G.el⟩
theorem goodL {m : Int} {K : List (List Int)} {L : List Ct} (hr : RngC L) (h : okCuts L K = true) (h8 : inR m 8 360 = true) (h3 : onCt L m = true) : GoodL m.toNat K L := by
  simp only [okCuts, okCt, Bool.and_eq_true, inR_iff, decide_eq_true_eq, List.all_eq_true] at h h8
  obtain ⟨⟨a, b⟩, d, e⟩ := h
  refine ⟨by omega, by omega, b, a, d, fun v hv => ?_⟩
  have e1 := e v hv
  simp only [ctOk, Bool.and_eq_true, inR_iff] at e1
  rw [hr.i1 hv, hr.i2 hv, hr.i3 hv, wrap_id (by omega) (by omega)] at e1
  have e2 := List.all_eq_true.1 h3 v hv
  rw [hr.i1 hv] at e2
  have e2 : ¬ v.1 ≥ m := by simpa using e2
  omega
def kOf (K : List (List Int)) (v : Ct) : List Int := K.getD v.2.2.1.toNat []
def cut1 (K : List (List Int)) (v : Ct) (o : List Int) : List Int × Int := cutTo (kOf K v) v.1 v.2.1 o (kOf K v).length
def doS (K : List (List Int)) (q : List Int × Int) (v : Ct) : List Int × Int := ((cut1 K v q.1).1, q.2 + (cut1 K v q.1).2)
def doF (K : List (List Int)) (l : List Ct) (o : List Int) : List Int × Int := l.foldl (doS K) (o, 0)
theorem doF_snoc (K : List (List Int)) (a : List Ct) (v : Ct) (o : List Int) : doF K (a ++ [v]) o = ((cut1 K v (doF K a o).1).1, (doF K a o).2 + (cut1 K v (doF K a o).1).2) := by simp [doF, List.foldl_append, doS]
def idS (K : List (List Int)) (q : List Int × List Int × Int) (v : Ct) : List Int × List Int × Int := ((cut1 K v q.1).1, (if (cut1 K v q.1).2 = 0 then q.2.1 ++ [q.2.2] else q.2.1), q.2.2 + 1)
def idF (K : List (List Int)) (l : List Ct) (o : List Int) : List Int × List Int × Int := l.foldl (idS K) (o, [], 0)
theorem idF_snoc (K : List (List Int)) (a : List Ct) (v : Ct) (o : List Int) : idF K (a ++ [v]) o = idS K (idF K a o) v := by simp [idF, List.foldl_append]
structure Surf (m : Nat) (o : List Int) : Prop where
  len : o.length = m
  el : ∀ v ∈ o, 0 ≤ v ∧ v ≤ 10000
theorem cut1_surf {m : Nat} {K : List (List Int)} {L : List Ct} (hr : RngS K) (G : GoodL m K L) {v : Ct} (hv : v ∈ L) {o : List Int} (S : Surf m o) :
    Surf m (cut1 K v o).1 ∧ 0 ≤ (cut1 K v o).2 ∧ (cut1 K v o).2 ≤ 310000 ∧ ∀ p, p < m → g (cut1 K v o).1 p ≤ g o p := by
  obtain ⟨g1, g2, g3⟩ := G.el v hv
  obtain ⟨k, hk'⟩ := at_of (l := K) g3.1 g3.2
  have e : kOf K v = k := getD_at hk'
  have GK := (goodKs hr G.hk).el k hk'.mem
  have hhi := GK.hi
  have m0 := G.m0
  have hl := S.len
  unfold cut1
  rw [e]
  obtain ⟨b1, b2, b3⟩ := cutTo_bd k v.1 (tp := v.2.1) (o := o) (by omega) g2.1 (fun i hi => (GK.el i hi).1) S.el k.length (Nat.le_refl _)
  exact ⟨⟨by rw [cutTo_len, hl], b1⟩, b2, by omega, fun p hp => (cutTo_el k v.1 v.2.1 (o := o) (by omega) p (by omega) k.length).1⟩
theorem doS_surf {m : Nat} {K : List (List Int)} {L : List Ct} (hr : RngS K) (G : GoodL m K L) : ∀ (l : List Ct) (q : List Int × Int), (∀ v ∈ l, v ∈ L) → Surf m q.1 → 0 ≤ q.2 →
    Surf m (l.foldl (doS K) q).1 ∧ 0 ≤ (l.foldl (doS K) q).2 ∧ (l.foldl (doS K) q).2 ≤ q.2 + 310000 * l.length ∧ ∀ p, p < m → g (l.foldl (doS K) q).1 p ≤ g q.1 p
  | [], q, _, S, h => ⟨S, h, by simp, fun _ _ => Int.le_refl _⟩
  | v :: l, q, hl, S, h => by
    obtain ⟨a1, a2, a3, a4⟩ := cut1_surf hr G (hl v (by simp)) S
    obtain ⟨b1, b2, b3, b4⟩ := doS_surf hr G l (doS K q v) (fun u hu => hl u (by simp [hu])) a1 (by simp only [doS]; omega)
    simp only [doS] at b3
    refine ⟨b1, b2, ?_, fun p hp => Int.le_trans (b4 p hp) (a4 p hp)⟩
    simp only [List.foldl_cons, List.length_cons]
    simp only [doS] at b3 ⊢
    omega
theorem doF_surf {m : Nat} {K : List (List Int)} {L : List Ct} (hr : RngS K) (G : GoodL m K L) {o : List Int} (S : Surf m o) (i : Nat) :
    Surf m (doF K (L.take i) o).1 ∧ 0 ≤ (doF K (L.take i) o).2 ∧ (doF K (L.take i) o).2 ≤ 124000000 ∧ ∀ p, p < m → g (doF K (L.take i) o).1 p ≤ g o p := by
  obtain ⟨a, b, c, d⟩ := doS_surf hr G (L.take i) (o, 0) (fun v hv => List.mem_of_mem_take hv) S (Int.le_refl _)
  have := G.l
  have h2 : ((L.take i).length : Int) ≤ 400 := by rw [List.length_take]; omega
  exact ⟨a, b, by unfold doF; simp only at c; omega, d⟩
theorem idS_surf {m : Nat} {K : List (List Int)} {L : List Ct} (hr : RngS K) (G : GoodL m K L) : ∀ (l : List Ct) (q : List Int × List Int × Int), (∀ v ∈ l, v ∈ L) → Surf m q.1 →
    Surf m (l.foldl (idS K) q).1 ∧ ((l.foldl (idS K) q).2.1.length : Int) ≤ q.2.1.length + l.length ∧ (l.foldl (idS K) q).2.2 = q.2.2 + l.length
  | [], q, _, S => ⟨S, by simp, by simp⟩
  | v :: l, q, hl, S => by
    obtain ⟨a1, a2, a3, a4⟩ := cut1_surf hr G (hl v (by simp)) S
    obtain ⟨b1, b2, b3⟩ := idS_surf hr G l (idS K q v) (fun u hu => hl u (by simp [hu])) a1
    refine ⟨b1, ?_, ?_⟩
    · have : ((idS K q v).2.1.length : Int) ≤ q.2.1.length + 1 := by
        simp only [idS]
        split
        · simp
        · omega
      simp only [List.foldl_cons, List.length_cons]
      omega
    · simp only [List.foldl_cons, List.length_cons]
      rw [b3]
      simp only [idS]
      omega
theorem idF_surf {m : Nat} {K : List (List Int)} {L : List Ct} (hr : RngS K) (G : GoodL m K L) {o : List Int} (S : Surf m o) {i : Nat} (hi : i ≤ L.length) :
    Surf m (idF K (L.take i) o).1 ∧ ((idF K (L.take i) o).2.1.length : Int) ≤ i ∧ (idF K (L.take i) o).2.2 = i := by
  obtain ⟨a, b, c⟩ := idS_surf hr G (L.take i) (o, [], 0) (fun v hv => List.mem_of_mem_take hv) S
  have e : (L.take i).length = i := by rw [List.length_take]; omega
  rw [e] at b c
  exact ⟨a, by unfold idF; simpa using b, by unfold idF; simpa using c⟩
theorem flat_surf {m : Nat} {x : Int} (h : inR x 0 10000 = true) : Surf m (List.replicate m x) := ⟨by simp, fun v hv => by rw [(List.mem_replicate.1 hv).2]; exact inR_iff.1 h⟩
theorem okC_surf {c : List Int} (hr : Rng c) (h : okC c = true) : Surf c.length c := ⟨rfl, okC_el h hr⟩
abbrev DoR : Type := List Int × (Int × (Int × Unit))
def doR (c : List Int) (K : List (List Int)) (L : List Ct) : DoR := if gvCode c K L ≠ 0 then ([], 0, gvCode c K L, ()) else ((doF K L c).1, (doF K L c).2, 0, ())
theorem doR_len {c : List Int} {K : List (List Int)} {L : List Ct} (hc : Rng c) (hk : RngS K) (hr : RngC L) : ((doR c K L).1.length : Int) ≤ 360 := by
  unfold doR
  split
  · simp
  · rename_i h
    have G := goodG hr (by simpa using h)
    obtain ⟨S, _⟩ := doF_surf hk G.toL (okC_surf hc G.hc) L.length
    rw [List.take_length] at S
    have := okC_len G.hc
    rw [S.len]; omega
def idR (x n : Int) (K : List (List Int)) (L : List Ct) : List Int × (Int × Unit) := if okCuts L K = true then (if (inR n 8 360 && inR x 0 10000 && onCt L n) = true then ((idF K L (List.replicate n.toNat x)).2.1, 0, ()) else ([], 2, ())) else ([], 1, ())
theorem idR_len {x n : Int} {K : List (List Int)} {L : List Ct} (hk : RngS K) (hr : RngC L) : ((idR x n K L).1.length : Int) ≤ 400 := by
  unfold idR
  split
  · rename_i h1
    split
    · rename_i h2
      simp only [Bool.and_eq_true] at h2
      have G := goodL hr h1 h2.1.1 h2.2
      obtain ⟨_, h, _⟩ := idF_surf hk G (flat_surf h2.1.2) (Nat.le_refl L.length)
      rw [List.take_length] at h
      have := G.l
      simp only
      omega
    · simp
  · simp
def notOver (d l : List Int) : Bool := allTo (fun i => !decide (g d i > g l i)) d.length
def cpCode (c : List Int) (x : Int) (K : List (List Int)) (L : List Ct) : Int := if gvCode c K L ≠ 0 then gvCode c K L else if inR x 0 10000 = true then (if mxL c > x then 4 else 0) else 2
def cpR (c : List Int) (x : Int) (K : List (List Int)) (L : List Ct) : Bool × (Int × Unit) :=
  if cpCode c x K L ≠ 0 then (false, cpCode c x K L, ()) else if fi (deepF c K) L 0 ≥ 0 then (false, 0, ()) else (notOver (doF K L (List.replicate c.length x)).1 (leftL c (K.getD (bkTo c K K.length).1.toNat [])), 0, ())
theorem bkTo_in (c : List Int) (K : List (List Int)) : ∀ i, 0 < i → 0 ≤ (bkTo c K i).1 ∧ (bkTo c K i).1 < (i : Int)
  | 0, h => absurd h (by omega)
  | i + 1, _ => by
    rw [bkTo_succ]
    split
    · simp only; omega
    · rename_i h
      by_cases h0 : i = 0
      · subst h0
        simp [bkTo] at h ⊢
        try omega
      · have := bkTo_in c K i (by omega)
        omega
theorem mxL_bd {c : List Int} (hr : Rng c) (h : okC c = true) : 0 ≤ mxL c ∧ mxL c ≤ 10000 := by
  have hl := okC_len h
  have hm := okC_el h hr
  obtain ⟨v0, hv0⟩ := at_of (l := c) (Int.le_refl 0) (by omega)
  have hv := hm v0 hv0.mem
  have l1 := (mxF_ge c v0).1
  have l2 := mxF_le c v0 10000 hv.2 (fun v hv => (hm v hv).2)
  have e : mxL c = mxF c v0 := by unfold mxL; rw [(head_at hv0).1]
  rw [e]; omega
theorem leftL_bd {c k : List Int} (hc : 0 < c.length) (hC : ∀ v ∈ c, 0 ≤ v ∧ v ≤ 10000) (G : GoodK k) : ∀ v ∈ leftL c k, 0 ≤ v ∧ v ≤ 10000 := leftTo_bd hc hC G _
theorem g_flat (m : Nat) (x : Int) {p : Nat} (h : p < m) : g (List.replicate m x) p = x := by
  unfold g
  rw [List.getD_eq_getElem?_getD, List.getElem?_replicate, if_pos h]; rfl
def cpT (c : List Int) (x : Int) (K : List (List Int)) (L : List Ct) : Bool × (Int × Unit) := if fi (deepF c K) L 0 ≥ 0 then (false, 0, ()) else (notOver (doF K L (List.replicate c.length x)).1 (leftL c (K.getD (bkTo c K K.length).1.toNat [])), 0, ())
theorem cpR_ok {c : List Int} {x : Int} {K : List (List Int)} {L : List Ct} (h : cpCode c x K L = 0) : cpR c x K L = cpT c x K L := by
  unfold cpR cpT
  rw [h]
  rfl
theorem cpR_bad {c : List Int} {x : Int} {K : List (List Int)} {L : List Ct} {r : Int} (h : cpCode c x K L = r) (hr : r ≠ 0) : cpR c x K L = (false, r, ()) := by
  unfold cpR
  rw [h, if_pos hr]
end Go.Cams

/- The number of bits of a word, in plain terms. -/
namespace Go.Cams
open Go Go.Fw
/-- The set bits among the first k. -/
def bct (x : Nat) : Nat → Nat
  | 0 => 0
  | k + 1 => bct x k + x / 2 ^ k % 2
theorem bct_le (x : Nat) : ∀ k, bct x k ≤ k
  | 0 => Nat.le_refl _
  | k + 1 => by have := bct_le x k; have := Nat.mod_lt (x / 2 ^ k) (show 0 < 2 by omega); simp only [bct]; omega
theorem bct_split (x : Nat) : ∀ k, bct x (8 + k) = bct (x % 256) 8 + bct (x / 256) k
  | 0 => by simp only [bct, Nat.add_zero]; omega
  | k + 1 => by
    have h := bct_split x k
    have e : x / 256 / 2 ^ k = x / 2 ^ (8 + k) := by rw [Nat.div_div_eq_div_mul, Nat.pow_add]
    show bct x (8 + k) + x / 2 ^ (8 + k) % 2 = bct (x % 256) 8 + (bct (x / 256) k + x / 256 / 2 ^ k % 2)
    rw [h, e]; omega
def msk (c : Nat) : Nat → Nat
  | 0 => 0
  | n + 1 => 256 * msk c n + c
theorem and_split {q a m c : Nat} (ha : a < 256) (hc : c < 256) : (256 * q + a) &&& (256 * m + c) = 256 * (q &&& m) + (a &&& c) := by
  have h1 := @Nat.and_mod_two_pow (256 * q + a) (256 * m + c) 8
  have h2 := @Nat.and_div_two_pow (256 * q + a) (256 * m + c) 8
  rw [show (256 * q + a) % 2 ^ 8 = a by omega, show (256 * m + c) % 2 ^ 8 = c by omega] at h1
  rw [show (256 * q + a) / 2 ^ 8 = q by omega, show (256 * m + c) / 2 ^ 8 = m by omega] at h2
  omega
def st1 (n x : Nat) : Nat := (x / 2 &&& msk 85 n) + (x &&& msk 85 n)
def st2 (n x : Nat) : Nat := (x / 4 &&& msk 51 n) + (x &&& msk 51 n)
def st3 (n x : Nat) : Nat := (x / 16 + x) &&& msk 15 n
def b1 (a : Nat) : Nat := (a / 2 &&& 85) + (a &&& 85)
def b2 (a : Nat) : Nat := (a / 4 &&& 51) + (a &&& 51)
def b3 (a : Nat) : Nat := (a / 16 + a) &&& 15
theorem bytes1 : (List.range 256).all (fun a => (decide (b1 a < 256) && decide ((128 + a / 2) &&& 85 = a / 2 &&& 85)) && (decide (b2 (b1 a) % 16 ≤ 4) && decide (b2 (b1 a) / 16 ≤ 4)) && decide (b3 (b2 (b1 a)) = bct a 8)) = true := by decide +kernel
theorem bytes2 : (List.range 256).all (fun a => (List.range 4).all fun r => decide ((64 * r + a / 4) &&& 51 = a / 4 &&& 51)) = true := by decide +kernel
theorem bytes3 : (List.range 256).all (fun a => (List.range 16).all fun r => decide ((16 * r + a) &&& 15 = a &&& 15)) = true := by decide +kernel
theorem byte1 {a : Nat} (h : a < 256) : b1 a < 256 ∧ (128 + a / 2) &&& 85 = a / 2 &&& 85 ∧ b2 (b1 a) % 16 ≤ 4 ∧ b2 (b1 a) / 16 ≤ 4 ∧ b3 (b2 (b1 a)) = bct a 8 := by
  have := List.all_eq_true.1 bytes1 a (List.mem_range.2 h)
  simp only [Bool.and_eq_true, decide_eq_true_eq] at this
  obtain ⟨⟨⟨c1, c2⟩, c3, c4⟩, c5⟩ := this
  exact ⟨c1, c2, c3, c4, c5⟩
theorem byte2 {a r : Nat} (h : a < 256) (hr : r < 4) : (64 * r + a / 4) &&& 51 = a / 4 &&& 51 := by
  have := List.all_eq_true.1 (List.all_eq_true.1 bytes2 a (List.mem_range.2 h)) r (List.mem_range.2 hr)
  simpa using this
theorem st1_step (n q : Nat) {a : Nat} (h : a < 256) : st1 (n + 1) (256 * q + a) = 256 * st1 n q + b1 a := by
  obtain ⟨c1, c2, _⟩ := byte1 h
  unfold st1 b1
  simp only [msk]
  rw [show (256 * q + a) / 2 = 256 * (q / 2) + (128 * (q % 2) + a / 2) by omega, and_split (by omega) (by omega), and_split h (by omega)]
  have : (128 * (q % 2) + a / 2) &&& 85 = a / 2 &&& 85 := by
    rcases Nat.mod_two_eq_zero_or_one q with e | e
    · rw [e]; simp
    · rw [e]; exact c2
  rw [this]; omega
theorem st2_step (n q : Nat) {a : Nat} (h : a < 256) : st2 (n + 1) (256 * q + a) = 256 * st2 n q + b2 a := by
  unfold st2 b2
  simp only [msk]
  rw [show (256 * q + a) / 4 = 256 * (q / 4) + (64 * (q % 4) + a / 4) by omega, and_split (by omega) (by omega), and_split h (by omega), byte2 h (Nat.mod_lt _ (by omega))]
  omega
theorem low4 : ∀ (n q : Nat), q < 256 ^ n → st2 n (st1 n q) % 16 ≤ 4
  | 0, q, h => by
    have : q = 0 := by simpa using h
    subst this
    decide
  | n + 1, q, h => by
    have h1 := Nat.mod_lt q (show 0 < 256 by omega)
    obtain ⟨c1, _, c3, _⟩ := byte1 h1
    have e : q = 256 * (q / 256) + q % 256 := by omega
    rw [e, st1_step _ _ h1, st2_step _ _ c1]
    omega
def ps (x : Nat) : Nat → Nat
  | 0 => 0
  | n + 1 => 256 * ps (x / 256) n + bct (x % 256) 8
theorem st_ps : ∀ (n x : Nat), x < 256 ^ n → st3 n (st2 n (st1 n x)) = ps x n
  | 0, x, h => by
    have : x = 0 := by simpa using h
    subst this
    decide
  | n + 1, x, h => by
    have h1 := Nat.mod_lt x (show 0 < 256 by omega)
    obtain ⟨c1, _, c3, c4, c5⟩ := byte1 h1
    have hq : x / 256 < 256 ^ n := by rw [Nat.pow_succ] at h; omega
    have hl := low4 n _ hq
    have ih := st_ps n _ hq
    have e : x = 256 * (x / 256) + x % 256 := by omega
    rw [show st1 (n + 1) x = 256 * st1 n (x / 256) + b1 (x % 256) by rw [← st1_step _ _ h1, ← e], st2_step _ _ c1]
    obtain ⟨u, hu⟩ : ∃ u, u = st2 n (st1 n (x / 256)) := ⟨_, rfl⟩
    obtain ⟨v, hv⟩ : ∃ v, v = b2 (b1 (x % 256)) := ⟨_, rfl⟩
    rw [← hu] at hl ih ⊢
    rw [← hv] at c3 c4 c5 ⊢
    unfold st3 at ih ⊢
    simp only [msk, ps]
    rw [show (256 * u + v) / 16 + (256 * u + v) = 256 * (u / 16 + u) + (16 * (u % 16) + (v / 16 + v)) by omega, and_split (by omega) (by omega), ih]
    have h3 : (16 * (u % 16) + (v / 16 + v)) &&& 15 = (v / 16 + v) &&& 15 := by
      have := List.all_eq_true.1 (List.all_eq_true.1 bytes3 (v / 16 + v) (List.mem_range.2 (by omega))) (u % 16) (List.mem_range.2 (by omega))
      simpa using this
    rw [h3]
    unfold b3 at c5
    rw [c5]
theorem msk_55 : msk 85 8 = 6148914691236517205 := by decide
theorem msk_33 : msk 51 8 = 3689348814741910323 := by decide
theorem msk_0f : msk 15 8 = 1085102592571150095 := by decide
theorem bct_last (x : Nat) : bct x 8 = bct (x % 256) 8 := bct_split x 0
theorem ps_le (x : Nat) (n : Nat) : bct (x % 256) 8 ≤ 8 := bct_le _ 8
theorem step_pair {Y0 Y1 Y2 p q : Nat} (h0 : Y0 = 256 * Y1 + p) (h1 : Y1 = 256 * Y2 + q) : Y0 = 65536 * Y2 + (256 * q + p) := by omega
theorem half1 {x A p : Nat} (h : x = 256 * A + p) (hp : p ≤ 8) : x / 256 = A := by omega
theorem half2 {y Y a : Nat} (h : y = 65536 * Y + a) (ha : a < 65536) : y / 65536 = Y := by omega
theorem half3 {z Z a : Nat} (h : z = 4294967296 * Z + a) (ha : a < 4294967296) : z / 4294967296 = Z := by omega
/-- The bytes' sums are folded into the lowest. -/
theorem fold_ps (x : Nat) : ∃ y z t, y = ps x 8 + ps x 8 / 256 ∧ z = y + y / 65536 ∧ t = z + z / 4294967296 ∧ ps x 8 < 18446744073709551616 ∧ y < 18446744073709551616 ∧ z < 18446744073709551616 ∧ t < 9223372036854775808 ∧ t % 128 = bct x 64 := by
  have l := fun y => ps_le y 8
  have A0 : ps x 8 = 256 * ps (x / 256) 7 + bct (x % 256) 8 := rfl
  have c0 : bct x 64 = bct (x % 256) 8 + bct (x / 256) 56 := bct_split x 56
  obtain ⟨x1, e1⟩ : ∃ x1, x1 = x / 256 := ⟨_, rfl⟩
  rw [← e1] at A0 c0
  have A1 : ps x1 7 = 256 * ps (x1 / 256) 6 + bct (x1 % 256) 8 := rfl
  have c1 : bct x1 56 = bct (x1 % 256) 8 + bct (x1 / 256) 48 := bct_split x1 48
  obtain ⟨x2, e2⟩ : ∃ x2, x2 = x1 / 256 := ⟨_, rfl⟩
  rw [← e2] at A1 c1
  have A2 : ps x2 6 = 256 * ps (x2 / 256) 5 + bct (x2 % 256) 8 := rfl
  have c2 : bct x2 48 = bct (x2 % 256) 8 + bct (x2 / 256) 40 := bct_split x2 40
  obtain ⟨x3, e3⟩ : ∃ x3, x3 = x2 / 256 := ⟨_, rfl⟩
  rw [← e3] at A2 c2
  have A3 : ps x3 5 = 256 * ps (x3 / 256) 4 + bct (x3 % 256) 8 := rfl
  have c3 : bct x3 40 = bct (x3 % 256) 8 + bct (x3 / 256) 32 := bct_split x3 32
  obtain ⟨x4, e4⟩ : ∃ x4, x4 = x3 / 256 := ⟨_, rfl⟩
  rw [← e4] at A3 c3
  have A4 : ps x4 4 = 256 * ps (x4 / 256) 3 + bct (x4 % 256) 8 := rfl
  have c4 : bct x4 32 = bct (x4 % 256) 8 + bct (x4 / 256) 24 := bct_split x4 24
  obtain ⟨x5, e5⟩ : ∃ x5, x5 = x4 / 256 := ⟨_, rfl⟩
  rw [← e5] at A4 c4
  have A5 : ps x5 3 = 256 * ps (x5 / 256) 2 + bct (x5 % 256) 8 := rfl
  have c5 : bct x5 24 = bct (x5 % 256) 8 + bct (x5 / 256) 16 := bct_split x5 16
  obtain ⟨x6, e6⟩ : ∃ x6, x6 = x5 / 256 := ⟨_, rfl⟩
  rw [← e6] at A5 c5
  have A6 : ps x6 2 = 256 * ps (x6 / 256) 1 + bct (x6 % 256) 8 := rfl
  have c6 : bct x6 16 = bct (x6 % 256) 8 + bct (x6 / 256) 8 := bct_split x6 8
  obtain ⟨x7, e7⟩ : ∃ x7, x7 = x6 / 256 := ⟨_, rfl⟩
  rw [← e7] at A6 c6
  have A7 : ps x7 1 = bct (x7 % 256) 8 := by show 256 * 0 + _ = _; omega
  have c7 : bct x7 8 = bct (x7 % 256) 8 := bct_last x7
  have l0 := l x; have l1 := l x1; have l2 := l x2; have l3 := l x3; have l4 := l x4; have l5 := l x5; have l6 := l x6; have l7 := l x7
  generalize bct (x % 256) 8 = p0 at *
  generalize bct (x1 % 256) 8 = p1 at *
  generalize bct (x2 % 256) 8 = p2 at *
  generalize bct (x3 % 256) 8 = p3 at *
  generalize bct (x4 % 256) 8 = p4 at *
  generalize bct (x5 % 256) 8 = p5 at *
  generalize bct (x6 % 256) 8 = p6 at *
  generalize bct (x7 % 256) 8 = p7 at *
  generalize ps x 8 = B0 at *
  generalize ps x1 7 = B1 at *
  generalize ps x2 6 = B2 at *
  generalize ps x3 5 = B3 at *
  generalize ps x4 4 = B4 at *
  generalize ps x5 3 = B5 at *
  generalize ps x6 2 = B6 at *
  generalize ps x7 1 = B7 at *
  have hc : bct x 64 = p0 + (p1 + (p2 + (p3 + (p4 + (p5 + (p6 + p7)))))) := by rw [c0, c1, c2, c3, c4, c5, c6, c7]
  clear c0 c1 c2 c3 c4 c5 c6 c7 e1 e2 e3 e4 e5 e6 e7 l
  have hy : B0 / 256 = B1 := half1 A0 l0
  have Y0 : B0 + B1 = 256 * (B1 + B2) + (p0 + p1) := by omega
  have Y1 : B1 + B2 = 256 * (B2 + B3) + (p1 + p2) := by omega
  have Y2 : B2 + B3 = 256 * (B3 + B4) + (p2 + p3) := by omega
  have Y3 : B3 + B4 = 256 * (B4 + B5) + (p3 + p4) := by omega
  have Y4 : B4 + B5 = 256 * (B5 + B6) + (p4 + p5) := by omega
  have Y5 : B5 + B6 = 256 * (B6 + B7) + (p5 + p6) := by omega
  have Y6 : B6 + B7 = 256 * p7 + (p6 + p7) := by omega
  have a0 := step_pair Y0 Y1
  have a2 := step_pair Y2 Y3
  have a4 := step_pair Y4 Y5
  clear Y0 Y1 Y2 Y3 Y4 Y5 A1 A2 A3 A4 A5 A6 A7
  generalize B2 + B3 = S2 at *
  generalize B4 + B5 = S4 at *
  generalize B6 + B7 = S6 at *
  have hB : B0 ≤ B0 + B1 := by omega
  obtain ⟨y, ey⟩ : ∃ y, y = B0 + B1 := ⟨_, rfl⟩
  rw [← ey] at a0 hB
  have q0 : 256 * (p1 + p2) + (p0 + p1) < 8192 := by omega
  have q2 : 256 * (p3 + p4) + (p2 + p3) < 8192 := by omega
  have q4 : 256 * (p5 + p6) + (p4 + p5) < 8192 := by omega
  have q6 : S6 < 8192 := by omega
  have sum : 256 * (p1 + p2) + (p0 + p1) + (256 * (p3 + p4) + (p2 + p3)) + (256 * (p5 + p6) + (p4 + p5)) + S6 = 256 * (p1 + p2 + p3 + p4 + p5 + p6 + p7) + bct x 64 := by omega
  have hle : bct x 64 ≤ 64 := bct_le x 64
  generalize bct x 64 = P at *
  generalize p1 + p2 + p3 + p4 + p5 + p6 + p7 = R at *
  generalize 256 * (p1 + p2) + (p0 + p1) = r0 at *
  generalize 256 * (p3 + p4) + (p2 + p3) = r2 at *
  generalize 256 * (p5 + p6) + (p4 + p5) = r4 at *
  clear Y6 hc
  have hz : y / 65536 = S2 := half2 a0 (by omega)
  have z1 : y + S2 = 4294967296 * (S4 + S6) + (65536 * (r2 + r4) + (r0 + r2)) := by omega
  have ht : (y + S2) / 4294967296 = S4 + S6 := half3 z1 (by omega)
  have s4 : S4 < 536870912 := by omega
  have s2 : S2 < 35184372088832 := by omega
  have sy : y < 2305843009213693952 := by omega
  refine ⟨y, y + S2, y + S2 + (S4 + S6), by rw [hy, ey], by rw [hz], by rw [ht], by omega, by omega, by omega, by omega, ?_⟩
  have t1 : y + S2 + (S4 + S6) = 65536 * (65536 * (S4 + S6) + (r2 + r4) + S6) + (r0 + r2 + r4 + S6) := by omega
  omega
theorem and_i64 {a : Nat} (h : a < 9223372036854775808) : bitsI .and .i64 (a : Int) (127 : Int) = ((a % 128 : Nat) : Int) := by
  have e : bitsI .and .i64 (a : Int) (127 : Int) = wr .i64 ((BitVec.ofInt 64 (a : Int) &&& BitVec.ofInt 64 ((127 : Nat) : Int)).toNat : Int) := rfl
  rw [e, BitVec.toNat_and, ofInt_nat (by omega), ofInt_nat (by omega), show (127 : Nat) = 2 ^ 7 - 1 from rfl, Nat.and_two_pow_sub_one_eq_mod]
  exact wrap_id (by omega) (by omega)
theorem pop_swar {x : Nat} (hx : x < 18446744073709551616) {f : Int → Int} (hf : f = fun a => bitsI .and .i64 (wr .i64 a) (127 : Int)) :
    let x1 := wr .u64 ((bitsI .and .u64 (shr_ .u64 (x : Int) (1 : Int)) (6148914691236517205 : Int)) + (bitsI .and .u64 (x : Int) (6148914691236517205 : Int)))
    let x2 := wr .u64 ((bitsI .and .u64 (shr_ .u64 x1 (2 : Int)) (3689348814741910323 : Int)) + (bitsI .and .u64 x1 (3689348814741910323 : Int)))
    let x3 := bitsI .and .u64 (wr .u64 ((shr_ .u64 x2 (4 : Int)) + x2)) (1085102592571150095 : Int)
    let x4 := wr .u64 (x3 + shr_ .u64 x3 (8 : Int))
    let x5 := wr .u64 (x4 + shr_ .u64 x4 (16 : Int))
    let x6 := wr .u64 (x5 + shr_ .u64 x5 (32 : Int))
    f x6 = ((bct x 64 : Nat) : Int) := by
  intro x1 x2 x3 x4 x5 x6
  obtain ⟨y, z, t, hy, hz, ht, c0, c1, c2, c3, e⟩ := fold_ps x
  have S := st_ps 8 x hx
  have e1 : x1 = ((st1 8 x : Nat) : Int) := by
    show wr .u64 ((bitsI .and .u64 (shr_ .u64 (x : Int) ((1 : Nat) : Int)) ((6148914691236517205 : Nat) : Int)) + (bitsI .and .u64 (x : Int) ((6148914691236517205 : Nat) : Int))) = _
    rw [shr_nat (by omega), and_nat (by omega) (by omega), and_nat hx (by omega), ← msk_55]
    have h1 := Nat.and_le_right (n := x / 2 ^ 1) (m := msk 85 8)
    have h2 := Nat.and_le_right (n := x) (m := msk 85 8)
    have h3 := msk_55
    unfold st1
    rw [wrU (by omega) (by omega)]
    simp
  have d1 : st1 8 x ≤ 12297829382473034410 := by
    have h1 := Nat.and_le_right (n := x / 2) (m := msk 85 8)
    have h2 := Nat.and_le_right (n := x) (m := msk 85 8)
    have h3 := msk_55
    unfold st1; omega
  have e2 : x2 = ((st2 8 (st1 8 x) : Nat) : Int) := by
    show wr .u64 ((bitsI .and .u64 (shr_ .u64 x1 ((2 : Nat) : Int)) ((3689348814741910323 : Nat) : Int)) + (bitsI .and .u64 x1 ((3689348814741910323 : Nat) : Int))) = _
    rw [e1]
    generalize st1 8 x = u at *
    rw [shr_nat (by omega), and_nat (by omega) (by omega), and_nat (by omega) (by omega), ← msk_33]
    have h1 := Nat.and_le_right (n := u / 2 ^ 2) (m := msk 51 8)
    have h2 := Nat.and_le_right (n := u) (m := msk 51 8)
    have h3 := msk_33
    unfold st2
    rw [wrU (by omega) (by omega)]
    simp
  have d2 : st2 8 (st1 8 x) ≤ 7378697629483820646 := by
    have h1 := Nat.and_le_right (n := st1 8 x / 4) (m := msk 51 8)
    have h2 := Nat.and_le_right (n := st1 8 x) (m := msk 51 8)
    have h3 := msk_33
    unfold st2; omega
  have e3 : x3 = ((ps x 8 : Nat) : Int) := by
    rw [← S]
    show bitsI .and .u64 (wr .u64 ((shr_ .u64 x2 ((4 : Nat) : Int)) + x2)) ((1085102592571150095 : Nat) : Int) = _
    rw [e2]
    generalize st2 8 (st1 8 x) = u at *
    rw [shr_nat (by omega), wrU (by omega) (by omega), ← Int.natCast_add, and_nat (by omega) (by omega), ← msk_0f]
    rfl
  have e4 : x4 = (y : Int) := by
    show wr .u64 (x3 + shr_ .u64 x3 ((8 : Nat) : Int)) = _
    rw [e3]
    generalize ps x 8 = u at *
    rw [shr_nat (by omega), ← Int.natCast_add, show u + u / 2 ^ 8 = y by omega]
    exact wrU (by omega) (by omega)
  have e5 : x5 = (z : Int) := by
    show wr .u64 (x4 + shr_ .u64 x4 ((16 : Nat) : Int)) = _
    rw [e4, shr_nat (by omega), ← Int.natCast_add, show y + y / 2 ^ 16 = z by omega]
    exact wrU (by omega) (by omega)
  have e6 : x6 = (t : Int) := by
    show wr .u64 (x5 + shr_ .u64 x5 ((32 : Nat) : Int)) = _
    rw [e5, shr_nat (by omega), ← Int.natCast_add, show z + z / 2 ^ 32 = t by omega]
    exact wrU (by omega) (by omega)
  rw [e6, hf]
  show bitsI .and .i64 (wr .i64 (t : Int)) (127 : Int) = _
  rw [wrap_id (x := (t : Int)) (by omega) (by omega), and_i64 c3, e]
end Go.Cams

/- Two plates compared, in plain terms. -/
namespace Go.Cams
open Go Go.Fw
abbrev W64 (l : List Int) : Prop := ∀ v ∈ l, 0 ≤ v ∧ v < 18446744073709551616
theorem wrap_u64 (x : Int) : 0 ≤ wr .u64 x ∧ wr .u64 x < 18446744073709551616 := by
  show 0 ≤ IntKind.u64.wrap x ∧ IntKind.u64.wrap x < _
  simp [IntKind.wrap, IntKind.signed, IntKind.bits]; omega
theorem inkP_el {p : List Int} (h : W64 p) (m : Mk) : W64 (inkP p m) := fun v hv => by
  rcases List.mem_or_eq_of_mem_set hv with hv | hv
  · exact h v hv
  · rw [hv]; exact wrap_u64 _
theorem inkL_el : ∀ (l : List Mk) {p : List Int}, W64 p → W64 (inkL p l)
  | [], _, h => h
  | m :: l, _, h => inkL_el l (inkP_el h m)
theorem drawTo_el (m : Mch) : ∀ i, W64 (drawTo m i)
  | 0 => fun v hv => by rw [(List.mem_replicate.1 hv).2]; omega
  | i + 1 => by
    unfold drawTo
    split
    · split
      · exact inkL_el _ (inkP_el (drawTo_el m i) _)
      · exact inkP_el (drawTo_el m i) _
    · exact drawTo_el m i
/-- The bits of a row in which two plates differ. -/
def dif (p d : List Int) (y : Nat) : Nat := (g p y).toNat ^^^ (g d y).toNat
theorem dif_lt {p d : List Int} (hp : W64 p) (hd : W64 d) (lp : p.length = 64) (ld : d.length = 64) {y : Nat} (h : y < 64) : dif p d y < 18446744073709551616 := by
  have h1 := hp _ (g_mem (l := p) (i := y) (by omega))
  have h2 := hd _ (g_mem (l := d) (i := y) (by omega))
  have : (g p y).toNat ^^^ (g d y).toNat < 2 ^ 64 := Nat.xor_lt_two_pow (by omega) (by omega)
  unfold dif; omega
theorem dif_xor {p d : List Int} (hp : W64 p) (hd : W64 d) (lp : p.length = 64) (ld : d.length = 64) {y : Nat} (h : y < 64) : bitsI .xor .u64 (g p y) (g d y) = ((dif p d y : Nat) : Int) ∧ bitsI .xor .u64 (g d y) (g p y) = ((dif p d y : Nat) : Int) := by
  have h1 := hp _ (g_mem (l := p) (i := y) (by omega))
  have h2 := hd _ (g_mem (l := d) (i := y) (by omega))
  have e1 : g p y = (((g p y).toNat : Nat) : Int) := by omega
  have e2 : g d y = (((g d y).toNat : Nat) : Int) := by omega
  refine ⟨?_, ?_⟩
  · rw [e1, e2, xor_nat (by omega) (by omega)]; unfold dif; simp only [Int.toNat_natCast]
  · rw [e1, e2, xor_nat (by omega) (by omega), Nat.xor_comm]; unfold dif; simp only [Int.toNat_natCast]
/-- What is counted of a row: how many, and the first of all. -/
def rowS (w y : Nat) (s : Nat × List Int) : Nat → Nat × List Int
  | 0 => s
  | x + 1 => if w / 2 ^ x % 2 = 0 then rowS w y s x else ((rowS w y s x).1 + 1, if (rowS w y s x).1 = 0 then [(x : Int), (y : Int)] else (rowS w y s x).2)
def allS (W : Nat → Nat) : Nat → Nat × List Int
  | 0 => (0, [0, 0])
  | y + 1 => rowS (W y) y (allS W y) 64
theorem rowS_cnt (w y : Nat) (s : Nat × List Int) : ∀ x, (rowS w y s x).1 = s.1 + bct w x
  | 0 => rfl
  | x + 1 => by
    have := rowS_cnt w y s x
    unfold rowS bct
    split
    · omega
    · simp only; omega
def tot (W : Nat → Nat) : Nat → Nat
  | 0 => 0
  | y + 1 => tot W y + bct (W y) 64
theorem allS_cnt (W : Nat → Nat) : ∀ y, (allS W y).1 = tot W y
  | 0 => rfl
  | y + 1 => by unfold allS tot; rw [rowS_cnt, allS_cnt W y]
theorem tot_le (W : Nat → Nat) : ∀ y, tot W y ≤ 64 * y
  | 0 => Nat.le_refl _
  | y + 1 => by have := tot_le W y; have := bct_le (W y) 64; unfold tot; omega
theorem rowS_keep (w y : Nat) (s : Nat × List Int) (h : s.1 ≠ 0) : ∀ x, (rowS w y s x).2 = s.2
  | 0 => rfl
  | x + 1 => by
    have h1 := rowS_keep w y s h x
    have h2 := rowS_cnt w y s x
    unfold rowS
    split
    · exact h1
    · rw [if_neg (by omega)]; exact h1
theorem rowS_zero (y : Nat) (s : Nat × List Int) : ∀ x, rowS 0 y s x = s
  | 0 => rfl
  | x + 1 => by unfold rowS; rw [if_pos (by simp)]; exact rowS_zero y s x
theorem bit_mod (w x : Nat) : w.testBit x = true ↔ ¬ w / 2 ^ x % 2 = 0 := by
  rw [Nat.testBit_eq_decide_div_mod_eq, decide_eq_true_eq]; omega
theorem rowS_first {w y z : Nat} {f : List Int} (h1 : w.testBit z = true) (h2 : ∀ u, u < z → w.testBit u = false) : ∀ x, (x ≤ z → rowS w y (0, f) x = (0, f)) ∧ (z < x → (rowS w y (0, f) x).2 = [(z : Int), (y : Int)] ∧ (rowS w y (0, f) x).1 ≠ 0)
  | 0 => ⟨fun _ => rfl, fun h => absurd h (by omega)⟩
  | x + 1 => by
    obtain ⟨a, b⟩ := rowS_first (y := y) (f := f) h1 h2 x
    refine ⟨fun h => ?_, fun h => ?_⟩
    · have h3 := h2 x (by omega)
      have : w / 2 ^ x % 2 = 0 := Decidable.byContradiction fun hn => by rw [(bit_mod w x).2 hn] at h3; cases h3
      unfold rowS
      rw [if_pos this, a (by omega)]
    · by_cases e : x = z
      · subst e
        unfold rowS
        rw [if_neg ((bit_mod w x).1 h1), a (Nat.le_refl _)]
        simp
      · obtain ⟨b1, b2⟩ := b (by omega)
        unfold rowS
        split
        · exact ⟨b1, b2⟩
        · simp only
          exact ⟨b1, by omega⟩
theorem allS_none {W : Nat → Nat} : ∀ {y : Nat}, (∀ j, j < y → W j = 0) → allS W y = (0, [0, 0])
  | 0, _ => rfl
  | y + 1, h => by unfold allS; rw [h y (by omega), rowS_zero, allS_none fun j hj => h j (by omega)]
theorem allS_first {W : Nat → Nat} {y : Nat} (h0 : ∀ j, j < y → W j = 0) (hw : W y ≠ 0) (hlt : W y < 18446744073709551616) : ∀ k, y < k → (allS W k).2 = [((fstZ (W y).testBit : Nat) : Int), (y : Int)] ∧ (allS W k).1 ≠ 0
  | 0, h => absurd h (by omega)
  | k + 1, h => by
    by_cases e : k = y
    · subst e
      unfold allS
      rw [allS_none h0]
      have hany : (List.range 64).any (W k).testBit = true := by
        have h1 : (W k : Int) = row (W k).testBit := by unfold row; rw [← mkN_eq (p := (W k).testBit) (n := 64) (by omega) (fun _ _ => rfl)]
        rw [← row_ne, ← h1]
        simpa using hw
      obtain ⟨z1, z2, z3⟩ := fstZ_some hany
      exact (rowS_first (y := k) (f := [0, 0]) z2 z3 64).2 z1
    · obtain ⟨a, b⟩ := allS_first h0 hw hlt k (by omega)
      have h2 := rowS_cnt (W k) k (allS W k) 64
      unfold allS
      exact ⟨by rw [rowS_keep _ _ _ b]; exact a, by omega⟩
abbrev CmR : Type := Int × (List Int × (Int × Unit))
def cmR (m : Mch) (p : List Int) : CmR := if okM m = true then (if (allS (dif p (drawTo m m.1.length)) 64).1 = 0 then (0, [0, 0], 6, ()) else (((allS (dif p (drawTo m m.1.length)) 64).1 : Nat), (allS (dif p (drawTo m m.1.length)) 64).2, 0, ())) else (0, [0, 0], 1, ())
theorem rowS_len (w y : Nat) {s : Nat × List Int} (h : s.2.length = 2) : ∀ x, (rowS w y s x).2.length = 2
  | 0 => h
  | x + 1 => by
    have := rowS_len w y h x
    unfold rowS
    split
    · exact this
    · simp only
      split
      · rfl
      · exact this
theorem allS_len (W : Nat → Nat) : ∀ y, (allS W y).2.length = 2
  | 0 => rfl
  | y + 1 => rowS_len _ _ (allS_len W y) 64
theorem cmR_len (m : Mch) (p : List Int) : (cmR m p).2.1.length = 2 := by
  unfold cmR
  split
  · split
    · rfl
    · exact allS_len _ _
  · rfl
theorem tb_self {l : List Int} {n : Nat} (h : l.length = n) : l = tb n (g l) := by
  apply List.ext_getElem?
  intro i
  by_cases hi : i < n
  · rw [tb_get hi]
    unfold g
    rw [List.getD_eq_getElem?_getD, List.getElem?_eq_getElem (by omega)]
    rfl
  · rw [List.getElem?_eq_none (by omega), List.getElem?_eq_none (by rw [tb_len]; omega)]
theorem g_tb {n : Nat} {G : Nat → Int} {i : Nat} (h : i < n) : g (tb n G) i = G i := by
  unfold g
  rw [List.getD_eq_getElem?_getD, tb_get h]; rfl
end Go.Cams

/- Texts of cams, in plain terms. -/
namespace Go.Cams
open Go Go.Fw
def tx (l : List UInt8) : ByteArray := ⟨l.toArray⟩
theorem tx_app (a b : List UInt8) : tx a ++ tx b = tx (a ++ b) := by
  apply ByteArray.ext
  simp [tx, ByteArray.data_append]
theorem tx_size (a : List UInt8) : (tx a).size = a.length := by
  show (a.toArray).size = _
  simp
theorem tx_list (a : List UInt8) : (tx a).data.toList = a := rfl
theorem tx_strOf (x : Int) : strOf [x] = tx [UInt8.ofNat x.toNat] := by
  apply ByteArray.ext
  rfl
theorem dec_len {u : Nat} (h : u ≤ 9223372036854775807) : (Lib.decDigits u).length ≤ 21 := by
  have := Lib.itoa_length_le (u : Int) (by omega) (by omega)
  rwa [Lib.itoa_nonneg] at this
theorem dec_small {u : Nat} (h : u < 10) : Lib.decDigits u = [UInt8.ofNat (48 + u)] := Lib.decDigits_one h
theorem dec_big {u : Nat} (h : ¬ u < 10) : Lib.decDigits u = Lib.decDigits (u / 10) ++ [UInt8.ofNat (48 + u % 10)] := by rw [Lib.decDigits, dif_neg h]
theorem digit_wr {u : Nat} (h : u < 10) : wr .u8 (wr .i64 (48 + (u : Int))) = 48 + (u : Int) := by
  rw [wrap_id (x := 48 + (u : Int)) (by omega) (by omega)]
  show IntKind.u8.wrap _ = _
  simp [IntKind.wrap, IntKind.signed, IntKind.bits]; omega
theorem join_snoc {ws : List (List UInt8)} (h : ws ≠ []) (w s : List UInt8) : Lib.join (ws ++ [w]) s = Lib.join ws s ++ (s ++ w) := by
  cases ws with
  | nil => exact absurd rfl h
  | cons x r => rw [List.cons_append, Lib.join_cons, Lib.join_cons]; simp [Lib.joinTail]
/-- Runs of the same number: the number, and how often. -/
def rle : List Int → List (Int × Nat)
  | [] => []
  | v :: r => match rle r with
    | [] => [(v, 1)]
    | (w, k) :: t => if w = v then (w, k + 1) :: t else (v, 1) :: (w, k) :: t
theorem rle_cons (v : Int) (r : List Int) : rle (v :: r) = match rle r with
    | [] => [(v, 1)]
    | (w, k) :: t => if w = v then (w, k + 1) :: t else (v, 1) :: (w, k) :: t := rfl
theorem rle_head : ∀ (l : List Int) {w : Int} {k : Nat} {t : List (Int × Nat)}, rle l = (w, k) :: t → l.head? = some w
  | [], _, _, _, h => by cases h
  | v :: r, w, k, t, h => by
    rw [rle_cons] at h
    split at h
    · simp only [List.cons.injEq, Prod.mk.injEq] at h; simp [h.1.1]
    · split at h
      · rename_i e
        simp only [List.cons.injEq, Prod.mk.injEq] at h
        simp [← e, h.1.1]
      · simp only [List.cons.injEq, Prod.mk.injEq] at h; simp [h.1.1]
theorem rle_run (v : Int) {t : List Int} (ht : t.head? ≠ some v) : ∀ k, rle (List.replicate (k + 1) v ++ t) = (v, k + 1) :: rle t
  | 0 => by
    simp only [List.replicate_succ, List.replicate_zero, List.cons_append, List.nil_append]
    rw [rle_cons]
    split
    · rename_i h
      rw [h]
    · rename_i w k r h
      have := rle_head t h
      rw [if_neg (fun e => ht (by rw [this, e])), h]
  | k + 1 => by
    have ih := rle_run v ht k
    rw [List.replicate_succ, List.cons_append, rle_cons, ih]
    simp
/-- A stretch of the same number within a list. -/
theorem rle_drop {c : List Int} {i j : Nat} (h1 : i < j) (h2 : j ≤ c.length) (h3 : ∀ u, i ≤ u → u < j → g c u = g c i) (h4 : j = c.length ∨ g c j ≠ g c i) : rle (c.drop i) = (g c i, j - i) :: rle (c.drop j) := by
  have e : c.drop i = List.replicate (j - i - 1 + 1) (g c i) ++ c.drop j := by
    apply List.ext_getElem?
    intro n
    rw [List.getElem?_drop, show j - i - 1 + 1 = j - i by omega]
    by_cases hn : n < j - i
    · rw [List.getElem?_append_left (by simpa using hn), List.getElem?_replicate, if_pos hn]
      have := h3 (i + n) (by omega) (by omega)
      unfold g at this ⊢
      rw [← this, List.getD_eq_getElem?_getD, List.getElem?_eq_getElem (by omega)]
      rfl
    · rw [List.getElem?_append_right (by simp; omega), List.getElem?_drop, List.length_replicate]
      congr 1; omega
  rw [e, rle_run]
  · congr 2; omega
  · rcases h4 with h4 | h4
    · rw [h4, List.drop_length]; simp
    · intro h
      rw [List.head?_drop] at h
      apply h4
      unfold g
      rw [List.getD_eq_getElem?_getD, h]; rfl
theorem rle_len : ∀ l : List Int, (rle l).length ≤ l.length
  | [] => Nat.le_refl _
  | v :: r => by
    have := rle_len r
    rw [rle_cons]
    split
    · simp
    · rename_i h
      rw [h] at this
      split
      · simpa using Nat.le_succ_of_le this
      · simpa using this
def wordL (x : Int × Nat) : List UInt8 := if x.2 > 1 then Lib.decDigits x.1.toNat ++ 42 :: Lib.decDigits x.2 else Lib.decDigits x.1.toNat
theorem wordL_len {x : Int × Nat} (h1 : x.1 ≤ 10000000) (h2 : x.2 ≤ 10000000) : (wordL x).length ≤ 43 := by
  have a := dec_len (u := x.1.toNat) (by omega)
  have b := dec_len (u := x.2) (by omega)
  unfold wordL
  split
  · simp; omega
  · omega
def camJ (c : List Int) : List UInt8 := Lib.join ((rle c).map wordL) [32]
def camT (c : List Int) : ByteArray := if okC c = true then tx (camJ c) else tx []
theorem join_len (s : List UInt8) : ∀ (ws : List (List UInt8)) {m : Nat}, (∀ w ∈ ws, w.length ≤ m) → (Lib.join ws s).length ≤ ws.length * (m + s.length)
  | [], _, _ => by simp [Lib.join_nil]
  | x :: r, m, h => by
    have hx := h x (by simp)
    have ht : ∀ r : List (List UInt8), (∀ w ∈ r, w.length ≤ m) → (Lib.joinTail s r).length ≤ r.length * (m + s.length) := by
      intro r
      induction r with
      | nil => intro _; simp [Lib.joinTail]
      | cons y r ih =>
        intro h
        have h1 := h y (by simp)
        have h2 := ih fun w hw => h w (by simp [hw])
        simp only [Lib.joinTail, List.map_cons, List.flatten_cons, List.length_append, List.length_cons] at h2 ⊢
        rw [Nat.add_mul]
        omega
    have := ht r fun w hw => h w (by simp [hw])
    rw [Lib.join_cons, List.length_append, List.length_cons, Nat.add_mul]
    omega
end Go.Cams
namespace Go.Cams
open Go Go.Fw
theorem szT {a b : List UInt8} (ha : a.length ≤ 1000000000) (hb : b.length ≤ 1000000000) : decide ((((tx a).size + (tx b).size : Nat) : Int) ≤ 4611686018427387904) = true := by
  rw [tx_size, tx_size]
  exact decide_eq_true (by omega)
end Go.Cams
namespace Go.Cams
open Go Go.Fw
theorem rle_el : ∀ (l : List Int), ∀ x ∈ rle l, x.1 ∈ l ∧ x.2 ≤ l.length
  | [], x, h => by cases h
  | v :: r, x, h => by
    have ih := rle_el r
    rw [rle_cons] at h
    split at h
    · simp at h; rw [h]; simp
    · rename_i w k t e
      rw [e] at ih
      split at h
      · rcases List.mem_cons.1 h with h | h
        · have := ih (w, k) (by simp)
          rw [h]
          exact ⟨List.mem_cons_of_mem _ this.1, by simp; exact this.2⟩
        · have := ih x (List.mem_cons_of_mem _ h)
          exact ⟨List.mem_cons_of_mem _ this.1, by simp; omega⟩
      · rcases List.mem_cons.1 h with h | h
        · rw [h]; simp
        · have := ih x h
          exact ⟨List.mem_cons_of_mem _ this.1, by simp; omega⟩
theorem camJ_len {c : List Int} (hl : c.length ≤ 1000) (hC : ∀ v ∈ c, 0 ≤ v ∧ v ≤ 10000) : (camJ c).length ≤ 1000000 := by
  have h1 := rle_len c
  have h := join_len [32] ((rle c).map wordL) (m := 43) (fun w hw => by
    obtain ⟨x, hx, rfl⟩ := List.mem_map.1 hw
    have := rle_el c x hx
    have := hC _ this.1
    exact wordL_len (by omega) (by omega))
  simp only [List.length_map, List.length_cons, List.length_nil] at h
  unfold camJ
  omega
theorem machC : (⟨#[120, 32]⟩ : ByteArray) = tx [120, 32] ∧ (⟨#[10, 121, 32]⟩ : ByteArray) = tx [10, 121, 32] ∧ (⟨#[10, 112, 101, 110, 32]⟩ : ByteArray) = tx [10, 112, 101, 110, 32] ∧ (⟨#[10]⟩ : ByteArray) = tx [10] := ⟨rfl, rfl, rfl, rfl⟩
def machT (m : Mch) : ByteArray := tx (((((([120, 32] ++ camJ m.1) ++ [10, 121, 32]) ++ camJ m.2.1) ++ [10, 112, 101, 110, 32]) ++ camJ m.2.2.1) ++ [10])
def mtR (m : Mch) : ByteArray := if okM m = true then machT m else tx []
end Go.Cams

/- Programs and their texts, in plain terms. -/
namespace Go.Cams
open Go Go.Fw
abbrev MoTy : Ty := .pair (.int .i8) (.pair (.int .i16) (.pair (.int .i16) .unit))
structure RngMo (L : List Ct) : Prop where
  len : (L.length : Int) * 6 ≤ 140737488351232
  el : ∀ v ∈ L, (-128 ≤ v.1 ∧ v.1 ≤ 127) ∧ (-32768 ≤ v.2.1 ∧ v.2.1 ≤ 32767) ∧ (-32768 ≤ v.2.2.1 ∧ v.2.2.1 ≤ 32767)
theorem rngMo_of {L : List Ct} (h : Dom (.slc MoTy) L) : RngMo L := ⟨Int.ofNat_le.2 h.1, fun v hv => (h.2 v hv).elim fun a b => ⟨a, b.1, b.2.1⟩⟩
theorem RngMo.len' {L : List Ct} (h : RngMo L) : (L.length : Int) ≤ 23456248058538 := by have := h.len; omega
theorem RngMo.i1 {L : List Ct} (h : RngMo L) {v : Ct} (hv : v ∈ L) : wr .i64 v.1 = v.1 := by have := (h.el v hv).1; exact wrap_id (by omega) (by omega)
theorem RngMo.i2 {L : List Ct} (h : RngMo L) {v : Ct} (hv : v ∈ L) : wr .i64 v.2.1 = v.2.1 := by have := (h.el v hv).2.1; exact wrap_id (by omega) (by omega)
theorem RngMo.i3 {L : List Ct} (h : RngMo L) {v : Ct} (hv : v ∈ L) : wr .i64 v.2.2.1 = v.2.2.1 := by have := (h.el v hv).2.2; exact wrap_id (by omega) (by omega)
structure RngPg (p : Prg) : Prop where
  t : -32768 ≤ p.1 ∧ p.1 ≤ 32767
  m : RngMo p.2.1
theorem rngPg_of {p : Prg} (h : Dom (.pair (.int .i16) (.pair (.slc MoTy) .unit)) p) : RngPg p := ⟨h.1, rngMo_of h.2.1⟩
def moOk (v : Ct) : Bool := inR (wr .i64 v.1) 0 3 && !decide (v.2.1 < 1) && inR (wr .i64 v.2.2.1) 0 10000
def sumM : List Ct → Int
  | [] => 0
  | v :: r => v.2.1 + sumM r
theorem sumM_snoc (l : List Ct) (v : Ct) : sumM (l ++ [v]) = sumM l + v.2.1 := by
  induction l with
  | nil => simp [sumM]
  | cons a l ih => simp only [List.cons_append, sumM, ih]; omega
theorem sumM_bd : ∀ l : List Ct, (∀ v ∈ l, -32768 ≤ v.2.1 ∧ v.2.1 ≤ 32767) → -32768 * (l.length : Int) ≤ sumM l ∧ sumM l ≤ 32768 * (l.length : Int)
  | [], _ => by simp [sumM]
  | v :: r, h => by
    have h1 := h v (by simp)
    have h2 := sumM_bd r fun u hu => h u (by simp [hu])
    simp only [sumM, List.length_cons]
    omega
theorem sumM_take {L : List Ct} (hr : RngMo L) (h : (L.length : Int) ≤ 24) (i : Nat) : -1000000 ≤ sumM (L.take i) ∧ sumM (L.take i) ≤ 1000000 := by
  have := sumM_bd (L.take i) fun v hv => (hr.el v (List.mem_of_mem_take hv)).2.1
  have h2 : ((L.take i).length : Int) ≤ 24 := by rw [List.length_take]; omega
  omega
def lastT (L : List Ct) : Int := ((idx L ((L.length : Int) - 1)).map fun v => v.2.2.1).getD 0
def okPg (p : Prg) : Bool := inR (p.2.1.length : Int) 1 24 && inR (wr .i64 p.1) 0 10000 && p.2.1.all moOk && inR (sumM p.2.1) 8 360 && (lastT p.2.1 == p.1)
structure GoodPg (p : Prg) : Prop where
  n : 1 ≤ (p.2.1.length : Int) ∧ (p.2.1.length : Int) ≤ 24
  t : 0 ≤ p.1 ∧ p.1 ≤ 10000
  el : ∀ v ∈ p.2.1, (0 ≤ v.1 ∧ v.1 ≤ 3) ∧ 1 ≤ v.2.1 ∧ (0 ≤ v.2.2.1 ∧ v.2.2.1 ≤ 10000)
theorem goodPg {p : Prg} (hr : RngPg p) (h : okPg p = true) : GoodPg p := by
  simp only [okPg, Bool.and_eq_true, inR_iff, List.all_eq_true] at h
  obtain ⟨⟨⟨⟨h1, h2⟩, h3⟩, _⟩, _⟩ := h
  have ht := hr.t
  rw [wrap_id (x := p.1) (by omega) (by omega)] at h2
  refine ⟨h1, h2, fun v hv => ?_⟩
  have h4 := h3 v hv
  simp only [moOk, Bool.and_eq_true, inR_iff] at h4
  rw [hr.m.i1 hv, hr.m.i3 hv] at h4
  obtain ⟨⟨h5, h6⟩, h7⟩ := h4
  have h6 : ¬ v.2.1 < 1 := by simpa using h6
  exact ⟨h5, by omega, h7⟩
def ltr (k : Int) : UInt8 := if k = 0 then 101 else if k = 1 then 115 else if k = 2 then 99 else 102
theorem ltr_cut {k : Int} (h0 : 0 ≤ k) (h1 : k ≤ 3) : (⟨#[101, 115, 99, 102]⟩ : ByteArray).extract k.toNat (k + 1).toNat = tx [ltr k] := by
  have : k = 0 ∨ k = 1 ∨ k = 2 ∨ k = 3 := by omega
  rcases this with rfl | rfl | rfl | rfl <;> rfl
theorem wr_i8 {x : Int} (h0 : -128 ≤ x) (h1 : x ≤ 127) : wr .i8 x = x := by
  show IntKind.i8.wrap x = x
  simp [IntKind.wrap, IntKind.signed, IntKind.bits]; omega
def motW (v : Ct) : List UInt8 := ltr v.1 :: (Lib.decDigits v.2.1.toNat ++ 58 :: Lib.decDigits v.2.2.1.toNat)
theorem motW_len {v : Ct} (h1 : v.2.1 ≤ 32767) (h2 : v.2.2.1 ≤ 32767) : (motW v).length ≤ 45 := by
  have a := dec_len (u := v.2.1.toNat) (by omega)
  have b := dec_len (u := v.2.2.1.toNat) (by omega)
  unfold motW
  simp; omega
def pgW (t : Int) (l : List Ct) : List (List UInt8) := Lib.decDigits t.toNat :: l.map motW
theorem pgW_snoc (t : Int) (l : List Ct) (v : Ct) : pgW t (l ++ [v]) = pgW t l ++ [motW v] := by simp [pgW]
theorem pgW_ne (t : Int) (l : List Ct) : pgW t l ≠ [] := by simp [pgW]
theorem pgW_len {t : Int} {L : List Ct} (hr : RngMo L) (ht : t ≤ 32767) (hl : (L.length : Int) ≤ 24) (i : Nat) : (Lib.join (pgW t (L.take i)) [32]).length ≤ 10000 ∧ (pgW t (L.take i)).length ≤ 25 := by
  have h2 : (L.take i).length ≤ 24 := by rw [List.length_take]; omega
  have h := join_len [32] (pgW t (L.take i)) (m := 45) (fun w hw => by
    rcases List.mem_cons.1 hw with hw | hw
    · have := dec_len (u := t.toNat) (by omega)
      rw [hw]; omega
    · obtain ⟨v, hv, rfl⟩ := List.mem_map.1 hw
      have := hr.el v (List.mem_of_mem_take hv)
      exact motW_len (by omega) (by omega))
  have h3 : (pgW t (L.take i)).length = (L.take i).length + 1 := by simp [pgW]
  simp only [List.length_cons, List.length_nil] at h
  omega
def ptR (p : Prg) : ByteArray := if okPg p = true then tx (Lib.join (pgW p.1 p.2.1) [32]) else tx []
end Go.Cams

/- What is drawn out of bytes, and lifts between others, in plain terms. -/
namespace Go.Cams
open Go Go.Fw
theorem shN_in {w k n : Int} (w0 : 0 ≤ w) (w1 : w ≤ 3) (k0 : 0 ≤ k) (k1 : k ≤ n) (n0 : 1 ≤ n) : 0 ≤ shN w k n ∧ shN w k n ≤ shD w n := by
  have m0 : 0 ≤ n - k := by omega
  have nn : 0 ≤ n := by omega
  have kk := Int.mul_nonneg k0 k0
  have kn := Int.mul_nonneg k0 nn
  have mm := Int.mul_nonneg m0 m0
  rcases (show w = 0 ∨ w = 1 ∨ w = 2 ∨ w = 3 by omega) with rfl | rfl | rfl | rfl
  · unfold shN shD; simp; omega
  · unfold shN shD
    rw [if_pos rfl, if_pos rfl]
    split
    · rename_i h
      have a : n * n - 2 * k * k = n * (n - 2 * k) + 2 * (k * (n - k)) := by grind
      have b := Int.mul_nonneg nn (show 0 ≤ n - 2 * k by omega)
      have c := Int.mul_nonneg k0 m0
      have d : 2 * k * k = 2 * (k * k) := by grind
      omega
    · rename_i h
      have a : n * n - 2 * (n - k) * (n - k) = n * (n - 2 * (n - k)) + 2 * ((n - k) * k) := by grind
      have b := Int.mul_nonneg nn (show 0 ≤ n - 2 * (n - k) by omega)
      have c := Int.mul_nonneg m0 k0
      have d : 2 * (n - k) * (n - k) = 2 * ((n - k) * (n - k)) := by grind
      omega
  · unfold shN shD
    rw [if_neg (by decide), if_pos rfl, if_neg (by decide), if_pos rfl]
    have a : 3 * k * k * n - 2 * k * k * k = k * k * (3 * n - 2 * k) := by grind
    have b := Int.mul_nonneg kk (show 0 ≤ 3 * n - 2 * k by omega)
    have c : n * n * n - (3 * k * k * n - 2 * k * k * k) = (n - k) * (n - k) * (n + 2 * k) := by grind
    have d := Int.mul_nonneg mm (show 0 ≤ n + 2 * k by omega)
    omega
  · unfold shN shD
    rw [if_neg (by decide), if_neg (by decide), if_pos rfl, if_neg (by decide), if_neg (by decide), if_pos rfl]
    have a : 10 * n * n - 15 * k * n + 6 * k * k = 6 * ((n - k) * (n - k)) + n * (4 * n - 3 * k) := by grind
    have b := Int.mul_nonneg nn (show 0 ≤ 4 * n - 3 * k by omega)
    have c : 0 ≤ 10 * n * n - 15 * k * n + 6 * k * k := by omega
    have d := Int.mul_nonneg (Int.mul_nonneg kk k0) c
    have e : n * n * n * n * n - k * k * k * (10 * n * n - 15 * k * n + 6 * k * k) = (n - k) * (n - k) * (n - k) * (n * n + 3 * n * k + 6 * k * k) := by grind
    have nn2 := Int.mul_nonneg nn nn
    have f : 0 ≤ n * n + 3 * n * k + 6 * k * k := by
      have e1 : n * n + 3 * n * k + 6 * k * k = n * n + 3 * (k * n) + 6 * (k * k) := by grind
      omega
    have h := Int.mul_nonneg (Int.mul_nonneg mm m0) f
    omega
theorem nr_in {x d lo hi : Int} (hd : 0 < d) (h1 : lo * d ≤ x) (h2 : x ≤ hi * d) : lo ≤ nr x d ∧ nr x d ≤ hi := by
  unfold nr
  constructor
  · apply (Int.le_ediv_iff_mul_le (by omega)).2
    have : lo * (2 * d) = 2 * (lo * d) := by grind
    omega
  · have : (2 * x + d) / (2 * d) < hi + 1 := by
      apply (Int.ediv_lt_iff_lt_mul (by omega)).2
      have : (hi + 1) * (2 * d) = 2 * (hi * d) + 2 * d := by grind
      omega
    omega
/-- A lift of a motion lies between its ends. -/
theorem liftP_in {f t w k n lo hi : Int} (w0 : 0 ≤ w) (w1 : w ≤ 3) (k0 : 0 ≤ k) (k1 : k ≤ n) (n0 : 1 ≤ n) (n1 : n ≤ 360) (f0 : lo ≤ f) (f1 : f ≤ hi) (t0 : lo ≤ t) (t1 : t ≤ hi) : lo ≤ liftP f t w k n ∧ liftP f t w k n ≤ hi := by
  have hd := shD_bd (w := w) n0 n1
  obtain ⟨s0, s1⟩ := shN_in w0 w1 k0 k1 n0
  unfold liftP
  generalize shN w k n = s at *
  generalize shD w n = d at *
  have a1 := Int.mul_nonneg (show 0 ≤ f - lo by omega) (show 0 ≤ d - s by omega)
  have a2 := Int.mul_nonneg (show 0 ≤ t - lo by omega) s0
  have a3 := Int.mul_nonneg (show 0 ≤ hi - f by omega) (show 0 ≤ d - s by omega)
  have a4 := Int.mul_nonneg (show 0 ≤ hi - t by omega) s0
  have e1 : f * d + (t - f) * s - lo * d = (f - lo) * (d - s) + (t - lo) * s := by grind
  have e2 : hi * d - (f * d + (t - f) * s) = (hi - f) * (d - s) + (hi - t) * s := by grind
  exact nr_in (by omega) (by omega) (by omega)
/-- A source of numbers: the bytes, how many have been read, and its state. -/
abbrev Src : Type := List Int × (Int × (Int × Unit))
structure GoodSrc (s : Src) : Prop where
  by_ : ∀ v ∈ s.1, 0 ≤ v ∧ v ≤ 255
  len : (s.1.length : Int) ≤ 1000000
  pos : 0 ≤ s.2.1 ∧ s.2.1 ≤ 1000000000000
/-- A number of times that a source is still read. -/
def SrcAt (k : Int) (s : Src) : Prop := (∀ v ∈ s.1, 0 ≤ v ∧ v ≤ 255) ∧ (s.1.length : Int) ≤ 1000000 ∧ 0 ≤ s.2.1 ∧ s.2.1 ≤ k
theorem SrcAt.mono {k j : Int} {s : Src} (h : SrcAt k s) (hk : k ≤ j) : SrcAt j s := ⟨h.1, h.2.1, h.2.2.1, Int.le_trans h.2.2.2 hk⟩
theorem and_255 {a : Nat} (h : a < 18446744073709551616) : bitsI .and .u64 (a : Int) (255 : Int) = ((a % 256 : Nat) : Int) := by
  rw [show (255 : Int) = ((255 : Nat) : Int) from rfl, and_nat h (by omega), show (255 : Nat) = 2 ^ 8 - 1 from rfl, Nat.and_two_pow_sub_one_eq_mod]
end Go.Cams
namespace Go.Fw
/-- A loop whose result is not told beforehand. -/
theorem loop_ex {σ α : Type} {f : Nat → σ → (σ → Option α) → Option α} (I : σ → Prop) (μ : σ → Nat) (Q : α → Prop) {x : σ} (h : I x)
    (step : ∀ x, I x → (∃ y, Q y ∧ Round (fun n ag => f n x ag) y (fun _ => False)) ∨ (∃ x1, I x1 ∧ μ x1 < μ x ∧ ∀ y, Round (fun n ag => f n x ag) y (fun x' => x' = x1))) : ∃ y, Q y ∧ Evt (fun n => loopK (f n) n x) y := by
  have key : ∀ m x, I x → μ x ≤ m → ∃ y, Q y ∧ ∃ N, ∀ n, N ≤ n → ∀ k, m < k → loopK (f n) k x = some y := by
    intro m
    induction m with
    | zero =>
      intro x hx hm
      rcases step x hx with ⟨y, hy, hR⟩ | ⟨x1, _, h2, _⟩
      · rcases hR with ⟨N, hN⟩ | ⟨_, hF, _⟩
        · refine ⟨y, hy, N, fun n hn k hk => ?_⟩
          obtain ⟨k, rfl⟩ : ∃ j, k = j + 1 := ⟨k - 1, by omega⟩
          exact hN n hn _
        · exact hF.elim
      · omega
    | succ m ih =>
      intro x hx hm
      rcases step x hx with ⟨y, hy, hR⟩ | ⟨x1, h1, h2, hR⟩
      · rcases hR with ⟨N, hN⟩ | ⟨_, hF, _⟩
        · refine ⟨y, hy, N, fun n hn k hk => ?_⟩
          obtain ⟨k, rfl⟩ : ∃ j, k = j + 1 := ⟨k - 1, by omega⟩
          exact hN n hn _
        · exact hF.elim
      · obtain ⟨y, hy, M, hM⟩ := ih x1 h1 (by omega)
        rcases hR y with ⟨N, hN⟩ | ⟨x', rfl, N, hN⟩
        · refine ⟨y, hy, N, fun n hn k hk => ?_⟩
          obtain ⟨k, rfl⟩ : ∃ j, k = j + 1 := ⟨k - 1, by omega⟩
          exact hN n hn _
        · refine ⟨y, hy, N + M, fun n hn k hk => ?_⟩
          obtain ⟨k, rfl⟩ : ∃ j, k = j + 1 := ⟨k - 1, by omega⟩
          show f n x (loopK (f n) k) = _
          exact (hN n (by omega) _).trans (hM n (by omega) k (by omega))
  obtain ⟨y, hy, N, hN⟩ := key (μ x) x h (Nat.le_refl _)
  exact ⟨y, hy, N + μ x + 1, fun n hn => hN n (by omega) n (by omega)⟩
end Go.Fw
namespace Go.Cams
open Go Go.Fw
/-- A motion as it is drawn. -/
def MoSm (v : Ct) : Prop := (0 ≤ v.1 ∧ v.1 ≤ 3) ∧ (1 ≤ v.2.1 ∧ v.2.1 ≤ 9) ∧ (0 ≤ v.2.2.1 ∧ v.2.2.1 ≤ 59)
theorem sumM_sm : ∀ l : List Ct, (∀ v ∈ l, MoSm v) → (l.length : Int) ≤ sumM l ∧ sumM l ≤ 9 * l.length
  | [], _ => by simp [sumM]
  | v :: r, h => by
    have h1 := (h v (by simp)).2.1
    have h2 := sumM_sm r fun u hu => h u (by simp [hu])
    simp only [sumM, List.length_cons]
    omega
theorem last_split {L : List Ct} (h : 0 < L.length) : ∃ M v, L = M ++ [v] := by
  refine ⟨L.take (L.length - 1), L[L.length - 1]'(by omega), ?_⟩
  have := List.take_concat_get (l := L) (i := L.length - 1) (by omega)
  rw [show L.length - 1 + 1 = L.length by omega, List.take_length] at this
  rw [← List.concat_eq_append]
  exact this.symm
theorem lastT_snoc (M : List Ct) (v : Ct) : lastT (M ++ [v]) = v.2.2.1 := by
  unfold lastT idx
  rw [if_pos (by simp), show (((M ++ [v]).length : Int) - 1).toNat = M.length by simp]
  simp
structure SmPg (p : Prg) : Prop where
  rng : RngPg p
  ok : okPg p = true
  n : (p.2.1.length : Int) ≤ 5
  sum : 8 ≤ sumM p.2.1 ∧ sumM p.2.1 ≤ 45
  t : 0 ≤ p.1 ∧ p.1 ≤ 59
  el : ∀ v ∈ p.2.1, (0 ≤ v.1 ∧ v.1 ≤ 3) ∧ (1 ≤ v.2.1 ∧ v.2.1 ≤ 45) ∧ (0 ≤ v.2.2.1 ∧ v.2.2.1 ≤ 59)
theorem smPg {t : Int} {M : List Ct} {a b : Int} (t0 : 0 ≤ t) (t1 : t ≤ 29) (hM : ∀ v ∈ M, MoSm v) (hn : (M.length : Int) ≤ 4) (a0 : 0 ≤ a) (a1 : a ≤ 3) (b0 : 1 ≤ b) (b1 : b ≤ 45) (s0 : 8 ≤ sumM M + b) (s1 : sumM M + b ≤ 45) : SmPg (t, M ++ [(a, b, t, ())], ()) := by
  have hel : ∀ v ∈ M ++ [(a, b, t, ())], (0 ≤ v.1 ∧ v.1 ≤ 3) ∧ (1 ≤ v.2.1 ∧ v.2.1 ≤ 45) ∧ (0 ≤ v.2.2.1 ∧ v.2.2.1 ≤ 59) := fun v hv => by
    rcases List.mem_append.1 hv with hv | hv
    · have := hM v hv
      unfold MoSm at this
      omega
    · simp at hv; rw [hv]; simp only; omega
  have hl : ((M ++ [(a, b, t, ())]).length : Int) = M.length + 1 := by simp
  have hs : sumM (M ++ [(a, b, t, ())]) = sumM M + b := sumM_snoc _ _
  have hr : RngPg (t, M ++ [(a, b, t, ())], ()) := ⟨by simp only; omega, by simp only; omega, fun v hv => by have := hel v hv; omega⟩
  refine ⟨hr, ?_, by simp only; omega, by simp only; omega, by simp only; omega, hel⟩
  have hall : (M ++ [(a, b, t, ())]).all moOk = true := List.all_eq_true.2 fun v hv => by
    have h1 := hel v hv
    unfold moOk
    rw [hr.m.i1 hv, hr.m.i3 hv]
    simp only [Bool.and_eq_true, inR_iff, Bool.not_eq_true', decide_eq_false_iff_not]
    omega
  unfold okPg
  simp only
  rw [hall, wrap_id (x := t) (by omega) (by omega), lastT_snoc, hs]
  simp only [Bool.and_eq_true, inR_iff, beq_self_eq_true, and_true]
  omega
end Go.Cams
namespace Go.Fw
variable {α β σ : Type}
/-- A result of which something is told. -/
def EvtX (f : Nat → Option α) (Q : α → Prop) : Prop := ∃ y, Q y ∧ Evt f y
theorem EvtX.next {f g : Nat → Option α} {Q : α → Prop} (h : EvtX g Q) (e : ∀ n, f (n + 1) = g n) : EvtX f Q := by
  obtain ⟨y, hy, hE⟩ := h
  exact ⟨y, hy, hE.next e⟩
theorem EvtX.bind {f : Nat → Option β} {g : Nat → β → Option α} {x : β} {Q : α → Prop} (h : Evt f x) (k : EvtX (fun n => g n x) Q) : EvtX (fun n => (f n).bind (g n)) Q := by
  obtain ⟨y, hy, hE⟩ := k
  exact ⟨y, hy, Evt.bind h hE⟩
theorem EvtX.loop {f : Nat → σ → (σ → Option α) → Option α} (I : σ → Prop) (μ : σ → Nat) {Q : α → Prop} {x : σ} (h : I x)
    (step : ∀ x, I x → (∃ y, Q y ∧ Round (fun n ag => f n x ag) y (fun _ => False)) ∨ (∃ x1, I x1 ∧ μ x1 < μ x ∧ ∀ y, Round (fun n ag => f n x ag) y (fun x' => x' = x1))) : EvtX (fun n => loopK (f n) n x) Q := loop_ex I μ Q h step
end Go.Fw
namespace Go.Cams
open Go Go.Fw
/-- The lifts of a motion, and of several. -/
def seg (f : Int) (v : Ct) : List Int := (List.range v.2.1.toNat).map fun k => liftP f v.2.2.1 v.1 (k : Nat) v.2.1
def toF (f : Int) (l : List Ct) : Int := l.foldl (fun _ v => v.2.2.1) f
def proF (f : Int) : List Ct → List Int
  | [] => []
  | v :: r => seg f v ++ proF v.2.2.1 r
theorem toF_snoc (f : Int) (l : List Ct) (v : Ct) : toF f (l ++ [v]) = v.2.2.1 := by simp [toF]
theorem proF_snoc : ∀ (l : List Ct) (f : Int) (v : Ct), proF f (l ++ [v]) = proF f l ++ seg (toF f l) v
  | [], f, v => by simp [proF, toF]
  | u :: r, f, v => by
    rw [List.cons_append, proF, proF_snoc r, proF, List.append_assoc]
    rfl
theorem seg_len (f : Int) (v : Ct) : (seg f v).length = v.2.1.toNat := by simp [seg]
theorem seg_take (f : Int) (v : Ct) {i : Int} (h : 0 ≤ i) (h1 : i < v.2.1) : (seg f v).take (i + 1).toNat = (seg f v).take i.toNat ++ [liftP f v.2.2.1 v.1 i v.2.1] := by
  rw [show (i + 1).toNat = i.toNat + 1 by omega, List.take_add_one]
  congr 1
  unfold seg
  rw [List.getElem?_map, List.getElem?_range (by omega)]
  simp only [Option.map_some, Option.toList]
  rw [show ((i.toNat : Nat) : Int) = i by omega]
theorem seg_el {f : Int} {v : Ct} {lo hi : Int} (w0 : 0 ≤ v.1) (w1 : v.1 ≤ 3) (n0 : 1 ≤ v.2.1) (n1 : v.2.1 ≤ 360) (f0 : lo ≤ f) (f1 : f ≤ hi) (t0 : lo ≤ v.2.2.1) (t1 : v.2.2.1 ≤ hi) : ∀ x ∈ seg f v, lo ≤ x ∧ x ≤ hi := fun x hx => by
  unfold seg at hx
  obtain ⟨k, hk, rfl⟩ := List.mem_map.1 hx
  have := List.mem_range.1 hk
  exact liftP_in w0 w1 (by omega) (by omega) n0 n1 f0 f1 t0 t1
structure MoIn (lo hi : Int) (v : Ct) : Prop where
  w : 0 ≤ v.1 ∧ v.1 ≤ 3
  n : 1 ≤ v.2.1 ∧ v.2.1 ≤ 360
  t : lo ≤ v.2.2.1 ∧ v.2.2.1 ≤ hi
theorem toF_in {lo hi : Int} : ∀ (l : List Ct) {f : Int}, (∀ v ∈ l, MoIn lo hi v) → lo ≤ f → f ≤ hi → lo ≤ toF f l ∧ toF f l ≤ hi
  | [], _, _, f0, f1 => ⟨f0, f1⟩
  | v :: r, f, h, _, _ => by
    have := (h v (by simp)).t
    exact toF_in r (f := v.2.2.1) (fun u hu => h u (by simp [hu])) this.1 this.2
theorem proF_el {lo hi : Int} : ∀ (l : List Ct) {f : Int}, (∀ v ∈ l, MoIn lo hi v) → lo ≤ f → f ≤ hi → ∀ x ∈ proF f l, lo ≤ x ∧ x ≤ hi
  | [], _, _, _, _ => fun x hx => by cases hx
  | v :: r, f, h, f0, f1 => fun x hx => by
    have hv := h v (by simp)
    rcases List.mem_append.1 hx with hx | hx
    · exact seg_el hv.w.1 hv.w.2 hv.n.1 hv.n.2 f0 f1 hv.t.1 hv.t.2 x hx
    · exact proF_el r (fun u hu => h u (by simp [hu])) hv.t.1 hv.t.2 x hx
theorem proF_len : ∀ (l : List Ct) (f : Int), (∀ v ∈ l, 1 ≤ v.2.1) → ((proF f l).length : Int) = sumM l
  | [], _, _ => rfl
  | v :: r, f, h => by
    have h1 := h v (by simp)
    have h2 := proF_len r v.2.2.1 fun u hu => h u (by simp [hu])
    simp only [proF, sumM, List.length_append, seg_len]
    omega
theorem SmPg.ins {p : Prg} (S : SmPg p) : ∀ v ∈ p.2.1, MoIn 0 59 v := fun v hv => by
  have := S.el v hv
  exact ⟨this.1, ⟨this.2.1.1, by omega⟩, this.2.2⟩
/-- A cam as it is drawn. -/
structure SmC (c : List Int) : Prop where
  len : 8 ≤ (c.length : Int) ∧ (c.length : Int) ≤ 45
  el : ∀ v ∈ c, 0 ≤ v ∧ v ≤ 59
theorem SmPg.cam {p : Prg} (S : SmPg p) : SmC (proF p.1 p.2.1) := by
  have h := proF_len p.2.1 p.1 fun v hv => (S.ins v hv).n.1
  have := S.sum
  exact ⟨by omega, proF_el p.2.1 S.ins S.t.1 S.t.2⟩
theorem SmC.rng {c : List Int} (S : SmC c) : Rng c := rng_bd (by have := S.len; omega) fun v hv => by have := S.el v hv; omega
theorem SmC.ok {c : List Int} (S : SmC c) : okC c = true := by
  unfold okC
  have hl := S.len
  simp only [Bool.and_eq_true, inR_iff, List.all_eq_true]
  refine ⟨by omega, fun v hv => ?_⟩
  have := S.el v hv
  unfold okV
  rw [wrap_id (x := v) (by omega) (by omega), inR_iff]
  omega
end Go.Cams
namespace Go.Fw
variable {α β σ : Type}
theorem EvtX.no {c : Bool} {f g : Nat → Option α} {Q : α → Prop} (h : ¬ c = true) (k : EvtX g Q) : EvtX (fun n => if c = true then f n else g n) Q := by
  obtain ⟨y, hy, hE⟩ := k
  exact ⟨y, hy, Evt.no h hE⟩
theorem EvtX.yes {c : Bool} {f g : Nat → Option α} {Q : α → Prop} (h : c = true) (k : EvtX f Q) : EvtX (fun n => if c = true then f n else g n) Q := by
  obtain ⟨y, hy, hE⟩ := k
  exact ⟨y, hy, Evt.yes h hE⟩
theorem EvtX.chk {c : Bool} {f : Nat → Option α} {Q : α → Prop} (h : c = true) (k : EvtX f Q) : EvtX (fun n => chk c (f n)) Q := by
  obtain ⟨y, hy, hE⟩ := k
  exact ⟨y, hy, Evt.chk h hE⟩
end Go.Fw

/- Cutters as they are drawn, and which can replace which, in plain terms. -/
namespace Go.Cams
open Go Go.Fw
def dst (H j : Nat) : Nat := if j ≤ H then H - j else j - H
def symK (H : Nat) (h : Nat → Int) : List Int := tb (2 * H + 1) fun j => h (dst H j)
structure Ris (H : Nat) (h : Nat → Int) : Prop where
  zero : h 0 = 0
  up : ∀ a b, a ≤ b → b ≤ H → h a ≤ h b
  hi : ∀ a, a ≤ H → h a ≤ 1000
theorem Ris.lo {H : Nat} {h : Nat → Int} (R : Ris H h) {a : Nat} (ha : a ≤ H) : 0 ≤ h a := by
  have := R.up 0 a (by omega) ha
  rw [R.zero] at this; exact this
theorem dst_le {H j : Nat} (h : j < 2 * H + 1) : dst H j ≤ H := by unfold dst; split <;> omega
theorem symK_len (H : Nat) (h : Nat → Int) : (symK H h).length = 2 * H + 1 := tb_len _ _
theorem symK_g {H : Nat} {h : Nat → Int} {j : Nat} (hj : j < 2 * H + 1) : g (symK H h) j = h (dst H j) := g_tb hj
theorem symK_rng {H : Nat} {h : Nat → Int} (R : Ris H h) (hH : H ≤ 15) : Rng (symK H h) := rng_bd (by rw [symK_len]; omega) fun v hv => by
  unfold symK tb at hv
  obtain ⟨j, hj, rfl⟩ := List.mem_map.1 hv
  have hd := dst_le (List.mem_range.1 hj)
  have h1 := R.lo hd
  have h2 := R.hi _ hd
  omega
theorem symK_ok {H : Nat} {h : Nat → Int} (R : Ris H h) (hH : H ≤ 15) : okK (symK H h) = true := by
  have hl := symK_len H h
  have hh : (symK H h).length / 2 = H := by omega
  unfold okK
  simp only [Bool.and_eq_true, decide_eq_true_eq, beq_iff_eq, inR_iff]
  refine ⟨⟨⟨by omega, by omega⟩, ?_⟩, ?_⟩
  · rw [hh, symK_g (by omega)]
    unfold dst
    rw [if_pos (Nat.le_refl _), Nat.sub_self, R.zero]
  · rw [hh, allTo_iff]
    intro i hi
    have d1 : dst H i = H - i := by unfold dst; rw [if_pos (by omega)]
    have d2 : dst H (2 * H + 1 - 1 - i) = H - i := by unfold dst; split <;> omega
    have h1 := R.lo (a := H - i) (by omega)
    have h2 := R.hi (H - i) (by omega)
    unfold kOne
    rw [hl, symK_g (by omega), symK_g (by omega), d1, d2, wrap_id (x := h (H - i)) (by omega) (by omega)]
    simp only [Bool.and_eq_true, inR_iff, Bool.or_eq_true, decide_eq_true_eq, beq_self_eq_true, and_true]
    refine ⟨by omega, ?_⟩
    by_cases h0 : i = 0
    · exact .inl h0
    · right
      have d3 : dst H (i - 1) = H - i + 1 := by unfold dst; rw [if_pos (by omega)]; omega
      rw [symK_g (by omega), d3]
      have := R.up (H - i) (H - i + 1) (by omega) (by omega)
      simp only [Bool.not_eq_true', decide_eq_false_iff_not]
      omega
theorem flat_sym (H : Nat) : List.replicate (2 * H + 1) (0 : Int) = symK H fun _ => 0 := tb_rep _ _
theorem flat_ris (H : Nat) : Ris H fun _ => 0 := ⟨rfl, fun _ _ _ _ => Int.le_refl _, fun _ _ => by omega⟩
structure SmK (k : List Int) : Prop where
  rng : Rng k
  ok : okK k = true
theorem SmK.of {H : Nat} {h : Nat → Int} (R : Ris H h) (hH : H ≤ 15) : SmK (symK H h) := ⟨symK_rng R hH, symK_ok R hH⟩
/-- A cutter that is set from the middle outward. -/
theorem symK_step {H i : Nat} {h : Nat → Int} {y : Int} (hi : 1 ≤ i) (hH : i ≤ H) :
    ((symK H fun a => if a < i then h a else 0).set (H - i) y).set (H + i) y = symK H fun a => if a < i + 1 then (if a = i then y else h a) else 0 := by
  unfold symK
  rw [tb_set, tb_set]
  apply tb_ext
  intro j hj
  have hd : (j ≤ H → dst H j = H - j) ∧ (H < j → dst H j = j - H) := by unfold dst; constructor <;> intro h <;> split <;> omega
  generalize dst H j = d at hd ⊢
  dsimp only
  by_cases h1 : j = H + i
  · rw [if_pos h1, if_pos (by omega), if_pos (by omega)]
  · rw [if_neg h1]
    by_cases h2 : j = H - i
    · rw [if_pos h2, if_pos (by omega), if_pos (by omega)]
    · rw [if_neg h2]
      by_cases h3 : d < i
      · rw [if_pos h3, if_pos (by omega), if_neg (by omega)]
      · rw [if_neg h3, if_neg (by omega)]
end Go.Cams

/- Which cutter can replace which, in plain terms. -/
namespace Go.Cams
open Go Go.Fw
/-- How high a cutter stands on another one. -/
def stTo (a b : List Int) (off : Nat) : Nat → Int
  | 0 => 0
  | i + 1 => max (stTo a b off i) (g b (off + i) - g a i)
def st (a b : List Int) (off : Nat) : Int := stTo a b off a.length
def siTo (a b : List Int) (off : Nat) : Nat → Int
  | 0 => g b off - g a 0
  | i + 1 => max (siTo a b off i) (g b (off + i) - g a i)
theorem stTo_ge (a b : List Int) (off : Nat) : ∀ (n i : Nat), i < n → g b (off + i) - g a i ≤ stTo a b off n
  | 0, _, h => absurd h (by omega)
  | n + 1, i, h => by
    by_cases e : i = n
    · subst e; unfold stTo; omega
    · have := stTo_ge a b off n i (by omega)
      unfold stTo; omega
theorem stTo_nn (a b : List Int) (off : Nat) : ∀ n, 0 ≤ stTo a b off n
  | 0 => Int.le_refl _
  | n + 1 => by have := stTo_nn a b off n; unfold stTo; omega
theorem stTo_le {a b : List Int} (off : Nat) (ha : ∀ i, i < a.length → 0 ≤ g a i) {m : Int} (h0 : 0 ≤ m) : ∀ n, n ≤ a.length → (∀ i, i < n → g b (off + i) ≤ m) → stTo a b off n ≤ m
  | 0, _, _ => h0
  | n + 1, hn, h => by
    have := stTo_le off ha h0 n (by omega) fun i hi => h i (by omega)
    have h1 := h n (by omega)
    have h2 := ha n (by omega)
    unfold stTo; omega
theorem siTo_eq (a b : List Int) (off : Nat) : ∀ n, max (stTo a b off n) (g b off - g a 0) = max 0 (siTo a b off n)
  | 0 => rfl
  | n + 1 => by have := siTo_eq a b off n; unfold stTo siTo; omega
theorem siTo_ge (a b : List Int) (off : Nat) : ∀ (n i : Nat), i < n → g b (off + i) - g a i ≤ siTo a b off n
  | 0, _, h => absurd h (by omega)
  | n + 1, i, h => by
    by_cases e : i = n
    · subst e; unfold siTo; omega
    · have := siTo_ge a b off n i (by omega)
      unfold siTo; omega
theorem si_st {a b : List Int} {off : Nat} (A : GoodK a) (B : GoodK b) (h : off + a.length ≤ b.length) : siTo a b off a.length = st a b off := by
  have h1 := siTo_eq a b off a.length
  have h2 := stTo_ge a b off a.length 0 A.lo
  have hlo := A.lo
  have h3 := siTo_ge a b off a.length (a.length / 2) (by omega)
  have h4 := (B.el (off + a.length / 2) (by omega)).1
  rw [A.mid] at h3
  rw [Nat.add_zero] at h2
  unfold st
  omega
/-- A cutter that stands on another one touches it at a step. -/
def cov (a b : List Int) (j off : Nat) : Bool := decide (off ≤ j ∧ j < off + a.length) && (st a b off + g a (j - off) == g b j)
def offs (a b : List Int) : Nat := b.length + 1 - a.length
def tch (a b : List Int) (j : Nat) : Bool := allTo (fun off => !cov a b j off) (offs a b) == false
def crB (a b : List Int) : Bool := allTo (tch a b) b.length
theorem tipTo_le (c k : List Int) (s : Int) {m : Int} (h0 : 0 ≤ m) : ∀ n, (∀ u : Nat, u < n → cAt c (s + u - half k) - g k u ≤ m) → tipTo c k s n ≤ m
  | 0, _ => h0
  | n + 1, h => by
    have h1 := tipTo_le c k s h0 n fun u hu => h u (by omega)
    have h2 := h n (by omega)
    rw [tipTo_succ]; omega
theorem cAt_sh (c : List Int) (x y : Int) : cAt c (x % (c.length : Int) + y) = cAt c (x + y) := by
  unfold cAt
  rw [Int.emod_add_emod]
/-- What a cutter leaves at a place, by one of its stands. -/
theorem lf_at {c k : List Int} (K : GoodK k) (p : Nat) (hp : p < c.length) : ∃ j, j < k.length ∧ lf c k p = tip c k (((p : Nat) + (j : Nat) - half k) % c.length) + g k j := by
  obtain ⟨_, _, h⟩ := lfTo_el c k p k.length
  rcases h with h | ⟨j, hj, h⟩
  · have hlo := K.lo
    refine ⟨k.length / 2, by omega, ?_⟩
    rw [K.mid]
    unfold half
    rw [show ((p : Nat) : Int) + ((k.length / 2 : Nat) : Int) - ((k.length / 2 : Nat) : Int) = (p : Int) by omega, Int.emod_eq_of_lt (by omega) (by omega)]
    unfold lf
    rw [h]; omega
  · exact ⟨j, hj, h⟩
theorem tch_some {a b : List Int} {j : Nat} (h : tch a b j = true) : ∃ off, off < offs a b ∧ cov a b j off = true := by
  unfold tch at h
  rw [beq_iff_eq] at h
  apply Classical.byContradiction
  intro hn
  have : allTo (fun off => !cov a b j off) (offs a b) = true := (allTo_iff _ _).2 fun off ho => by
    cases hc : cov a b j off with
    | true => exact absurd ⟨off, ho, hc⟩ hn
    | false => rfl
  rw [this] at h
  cases h
/-- What a cutter leaves that can replace another one is no more. -/
theorem lf_rep {c a k : List Int} (A : GoodK a) (K : GoodK k) (h : crB a k = true) (p : Nat) (hp : p < c.length) : lf c a p ≤ lf c k p := by
  obtain ⟨j, hj, e⟩ := lf_at K p hp
  have ht := (allTo_iff _ _).1 h j hj
  obtain ⟨off, ho, hc⟩ := tch_some ht
  unfold cov at hc
  simp only [Bool.and_eq_true, decide_eq_true_eq, beq_iff_eq] at hc
  obtain ⟨⟨o1, o2⟩, o3⟩ := hc
  unfold offs at ho
  have hao := A.odd
  have hko := K.odd
  have hal := A.lo
  obtain ⟨_, hl, _⟩ := lfTo_el c a p a.length
  have hle := hl (j - off) (by omega)
  have tp : tip c a (((p : Nat) + ((j - off : Nat) : Int) - half a) % c.length) ≤ tip c k (((p : Nat) + (j : Nat) - half k) % c.length) + st a k off := by
    have hst : 0 ≤ st a k off := stTo_nn a k off a.length
    refine tipTo_le c a _ ?_ a.length fun u hu => ?_
    · have : 0 ≤ tip c k (((p : Nat) + (j : Nat) - half k) % c.length) := by
        have hm := tipTo_succ
        have aux : ∀ n, 0 ≤ tipTo c k (((p : Nat) + (j : Nat) - half k) % c.length) n := by
          intro n
          induction n with
          | zero => exact Int.le_refl _
          | succ n ih => rw [tipTo_succ]; omega
        exact aux _
      omega
    · have hw : k.length - a.length - off + u < k.length := by omega
      have h1 := tipTo_mono c k (((p : Nat) + (j : Nat) - half k) % c.length) k.length (k.length - a.length - off + u) hw
      have h2 := K.sym (k.length - a.length - off + u) hw
      rw [show k.length - 1 - (k.length - a.length - off + u) = off + (a.length - 1 - u) by omega] at h2
      have h3 := stTo_ge a k off a.length (a.length - 1 - u) (by omega)
      have h4 := A.sym u hu
      have hx : cAt c (((p : Nat) + ((j - off : Nat) : Int) - half a) % c.length + u - half a) = cAt c (((p : Nat) + (j : Nat) - half k) % c.length + ((k.length - a.length - off + u : Nat) : Int) - half k) := by
        have q1 := cAt_sh c ((p : Nat) + ((j - off : Nat) : Int) - half a) (u - half a)
        have q2 := cAt_sh c ((p : Nat) + (j : Nat) - half k) (((k.length - a.length - off + u : Nat) : Int) - half k)
        rw [← Int.add_sub_assoc] at q1 q2
        rw [q1, q2]
        congr 1
        unfold half
        omega
      rw [hx]
      unfold tip
      unfold st
      omega
  unfold lf at hle ⊢ e
  omega
end Go.Cams
namespace Go.Cams
open Go Go.Fw
theorem ok_zero : okK [0] = true := by decide
theorem good_zero : GoodK [0] := goodK ⟨by decide, by decide⟩ ok_zero
theorem tip_zero {c : List Int} (hC : ∀ v ∈ c, 0 ≤ v ∧ v ≤ 10000) (h0 : 0 < c.length) (s : Int) : tip c [0] s = cAt c s := by
  have h := hC _ (cAt_mem h0 s)
  show max 0 (cAt c (s + ((0 : Nat) : Int) - half [0]) - g [0] 0) = cAt c s
  have e : s + ((0 : Nat) : Int) - half [0] = s := by unfold half; simp
  rw [e]
  show max 0 (cAt c s - 0) = _
  omega
/-- A cutter without width leaves the cam. -/
theorem left_flat {c : List Int} (h0 : 0 < c.length) (hC : ∀ v ∈ c, 0 ≤ v ∧ v ≤ 10000) : leftL c [0] = c := by
  have hl := leftL_len c [0]
  apply List.ext_getElem?
  intro p
  by_cases hp : p < c.length
  · have h1 := leftL_g h0 hC good_zero hp
    have h2 : lf c [0] p = g c p := by
      show min (tip c [0] p) (tip c [0] (((p : Nat) + ((0 : Nat) : Int) - half [0]) % c.length) + g [0] 0) = g c p
      rw [tip_zero hC h0, tip_zero hC h0]
      have e : ((p : Nat) : Int) + ((0 : Nat) : Int) - half [0] = p := by unfold half; simp
      rw [e, Int.emod_eq_of_lt (by omega) (by omega), cAt_self hp]
      show min (g c p) (g c p + 0) = _
      omega
    have a1 := (g_idx (l := leftL c [0]) (i := (p : Int)) (by omega) (by omega)).get
    have a2 := (g_idx (l := c) (i := (p : Int)) (by omega) (by omega)).get
    rw [Int.toNat_natCast] at a1 a2
    rw [a1, a2, h1, h2]
  · rw [List.getElem?_eq_none (by omega), List.getElem?_eq_none (by omega)]
theorem left_ok {c k : List Int} (h : okC c = true) (hr : Rng c) (G : GoodK k) : okC (leftL c k) = true ∧ Rng (leftL c k) := by
  have hl := okC_len h
  have hb := leftL_bd (show 0 < c.length by omega) (okC_el h hr) G
  have hr2 : Rng (leftL c k) := rng_bd (by rw [leftL_len]; omega) hb
  refine ⟨?_, hr2⟩
  unfold okC
  simp only [Bool.and_eq_true, inR_iff, List.all_eq_true]
  refine ⟨by rw [leftL_len]; exact hl, fun v hv => ?_⟩
  unfold okV
  rw [wrap_id (x := v) (by have := hb v hv; omega) (by have := hb v hv; omega), inR_iff]
  exact hb v hv
theorem nrTo_lt (c l : List Int) : ∀ n, ∀ v ∈ nrTo c l n, v < (n : Int)
  | 0, v, h => by cases h
  | n + 1, v, h => by
    rw [nrTo_succ] at h
    split at h
    · rcases List.mem_append.1 h with h | h
      · have := nrTo_lt c l n v h; omega
      · simp at h; omega
    · have := nrTo_lt c l n v h; omega
theorem nrTo_has (c l : List Int) (s : Nat) : ∀ n, s < n → (nrTo c l n).any (fun v => v == (s : Int)) = decide (g l s > g c s)
  | 0, h => absurd h (by omega)
  | n + 1, h => by
    rw [nrTo_succ]
    by_cases e : s = n
    · subst e
      have h0 : (nrTo c l s).any (fun v => v == (s : Int)) = false := by
        rw [List.any_eq_false]
        intro v hv
        have := nrTo_lt c l s v hv
        simp; omega
      split
      · rename_i hg
        rw [List.any_append, h0, decide_eq_true hg]
        simp
      · rename_i hg
        rw [h0, decide_eq_false hg]
    · have ih := nrTo_has c l s n (by omega)
      split
      · rw [List.any_append, ih]
        have : ((n : Int) == (s : Int)) = false := beq_eq_false_iff_ne.2 (by omega)
        simp [this]
      · exact ih
theorem bk_two {c k o : List Int} (h : 0 ≤ waste c k) : bkTo c [k, o] 2 = if waste c o < waste c k then (1, waste c o) else (0, waste c k) := by
  have h1 : bkTo c [k, o] 1 = (0, waste c k) := by
    rw [bkTo_succ, if_pos (.inl (show (-1 : Int) < 0 by decide))]; rfl
  rw [bkTo_succ, h1]
  by_cases h2 : waste c o < waste c k
  · rw [if_pos (.inr h2), if_pos h2]; rfl
  · rw [if_neg (fun hh => hh.elim (fun h3 => by have h3 : waste c k < 0 := h3; omega) (fun h3 => h2 h3)), if_neg h2]
theorem byte_of {l : List Int} (h : Dom (.slc (.int .u8)) l) : ∀ v ∈ l, 0 ≤ v ∧ v ≤ 255 := fun v hv => by
  have h1 := h.2 v hv
  have h2 : IntKind.u8.min ≤ v := h1.1
  have h3 : v ≤ IntKind.u8.max := h1.2
  simp only [IntKind.min, IntKind.max, IntKind.signed, IntKind.bits] at h2 h3
  exact ⟨by simpa using h2, by simpa using h3⟩
end Go.Cams

/- A cam that is read as a program is made again by it, in plain terms. -/
namespace Go.Cams
open Go Go.Fw
/-- Stretches that follow each other. -/
def ChS (s : Int) : List Ct → Int → Prop
  | [], e => s = e
  | v :: r, e => v.2.1 = s ∧ 1 ≤ v.2.2.1 ∧ ChS (s + v.2.2.1) r e
theorem ChS.app : ∀ {L M : List Ct} {s m e : Int}, ChS s L m → ChS m M e → ChS s (L ++ M) e
  | [], _, _, _, _, h, k => by rw [show _ = _ from h]; exact k
  | v :: L, _, _, _, _, h, k => ⟨h.1, h.2.1, ChS.app h.2.2 k⟩
theorem ChS.le : ∀ {L : List Ct} {s e : Int}, ChS s L e → s + L.length ≤ e
  | [], _, _, h => by rw [show _ = _ from h]; simp
  | v :: L, s, e, h => by
    have := ChS.le h.2.2
    have := h.2.1
    simp only [List.length_cons]; omega
theorem rs_chain (c : List Int) : ∀ (left : Nat) (s : Int), 0 ≤ s → s + left ≤ (c.length : Int) → ChS s (rs c s left) (s + left) := by
  intro left
  induction left using Nat.strongRecOn with
  | ind left ih =>
    intro s h0 h1
    by_cases hl : left = 0
    · subst hl
      rw [rs_zero]
      show s = _
      simp
    · have hpos : 0 < left := by omega
      obtain ⟨a1, a2, _, _⟩ := rl_spec (kd c) s hpos
      rw [rs_pos c s hpos]
      refine ⟨Int.emod_eq_of_lt h0 (by omega), by show (1 : Int) ≤ ((rl (kd c) s left : Nat) : Int); omega, ?_⟩
      have := ih (left - rl (kd c) s left) (by omega) (s + ((rl (kd c) s left : Nat) : Int)) (by omega) (by omega)
      rw [show s + ((rl (kd c) s left : Nat) : Int) + ((left - rl (kd c) s left : Nat) : Int) = s + left by omega] at this
      exact this
theorem strP_chain {c : List Int} (h0 : 0 < c.length) : ChS 0 (strP c) c.length := by
  unfold strP runsP
  by_cases h : bk c = c.length
  · rw [if_pos h]
    show ChS 0 (if (0 : Int) > 0 then _ else _) _
    rw [if_neg (by omega)]
    exact ⟨rfl, by show (1 : Int) ≤ (c.length : Int); omega, by show (0 : Int) + (c.length : Int) = _; omega⟩
  · rw [if_neg h]
    obtain ⟨f1, f2⟩ := first_long h h0
    have hb := bk_lt c h0 h
    obtain ⟨a1, a2, _, _⟩ := rl_spec (kd c) (-(bk c : Int)) h0
    rw [rs_pos c _ h0]
    by_cases hb0 : bk c = 0
    · have hz : (-(bk c : Int)) % (c.length : Int) = 0 := by rw [hb0]; simp
      show ChS 0 (if (-(bk c : Int)) % (c.length : Int) > 0 then _ else _) _
      rw [hz, if_neg (by omega)]
      refine ⟨rfl, by show (1 : Int) ≤ ((rl (kd c) (-(bk c : Int)) c.length : Nat) : Int); omega, ?_⟩
      have := rs_chain c (c.length - rl (kd c) (-(bk c : Int)) c.length) (-(bk c : Int) + ((rl (kd c) (-(bk c : Int)) c.length : Nat) : Int)) (by omega) (by omega)
      rw [show -(bk c : Int) + ((rl (kd c) (-(bk c : Int)) c.length : Nat) : Int) + ((c.length - rl (kd c) (-(bk c : Int)) c.length : Nat) : Int) = (c.length : Int) by omega] at this
      have e : (0 : Int) + ((rl (kd c) (-(bk c : Int)) c.length : Nat) : Int) = -(bk c : Int) + ((rl (kd c) (-(bk c : Int)) c.length : Nat) : Int) := by omega
      show ChS (0 + ((rl (kd c) (-(bk c : Int)) c.length : Nat) : Int)) _ _
      rw [e]
      exact this
    · have hz : (-(bk c : Int)) % (c.length : Int) = (c.length : Int) - bk c := by
        have := Int.add_emod_right (-(bk c : Int)) c.length
        rw [← this]
        exact (Int.emod_eq_of_lt (by omega) (by omega)).trans (by omega)
      show ChS 0 (if (-(bk c : Int)) % (c.length : Int) > 0 then _ else _) _
      rw [if_pos (by rw [hz]; omega)]
      dsimp only
      rw [hz]
      refine ChS.app (m := (c.length : Int) - bk c) ⟨rfl, by show (1 : Int) ≤ (c.length : Int) - bk c + ((rl (kd c) (-(bk c : Int)) c.length : Nat) : Int) - c.length; omega, ?_⟩ ⟨rfl, by show (1 : Int) ≤ (c.length : Int) - ((c.length : Int) - bk c); omega, by show (c.length : Int) - bk c + ((c.length : Int) - ((c.length : Int) - bk c)) = _; omega⟩
      have := rs_chain c (c.length - rl (kd c) (-(bk c : Int)) c.length) (-(bk c : Int) + ((rl (kd c) (-(bk c : Int)) c.length : Nat) : Int)) (by omega) (by omega)
      rw [show -(bk c : Int) + ((rl (kd c) (-(bk c : Int)) c.length : Nat) : Int) + ((c.length - rl (kd c) (-(bk c : Int)) c.length : Nat) : Int) = (c.length : Int) - bk c by omega] at this
      show ChS (0 + ((c.length : Int) - bk c + ((rl (kd c) (-(bk c : Int)) c.length : Nat) : Int) - c.length)) _ _
      rw [show (0 : Int) + ((c.length : Int) - bk c + ((rl (kd c) (-(bk c : Int)) c.length : Nat) : Int) - c.length) = -(bk c : Int) + ((rl (kd c) (-(bk c : Int)) c.length : Nat) : Int) by omega]
      exact this
theorem liftP_zero {f t w n : Int} (n0 : 1 ≤ n) (n1 : n ≤ 360) : liftP f t w 0 n = f := by
  have hd := shD_bd (w := w) n0 n1
  have hs : shN w 0 n = 0 := by
    unfold shN
    split
    · rw [if_pos (by omega)]; simp
    split
    · simp
    split
    · simp
    · rfl
  unfold liftP
  rw [hs, Int.mul_zero, nr_from (by omega), nr_zero (by omega)]
  omega
theorem seg_fit {c : List Int} {s l : Int} (l0 : 1 ≤ l) (l1 : l ≤ 360) (h : 0 ≤ fitL c s l) (v : Ct) (hv : v = motP c (v.1, s, l, ())) : seg (cAt c s) v = (List.range l.toNat).map fun k => cAt c (s + (k : Nat)) := by
  have hw : fitW c s l (fitL c s l) = true := by
    unfold fitL at h ⊢
    split
    · assumption
    split
    · assumption
    split
    · assumption
    split
    · assumption
    · rename_i a1 a2 a3 a4
      rw [if_neg a1, if_neg a2, if_neg a3, if_neg a4] at h
      omega
  rw [hv]
  unfold seg motP
  dsimp only
  apply List.map_congr_left
  intro k hk
  have hk := List.mem_range.1 hk
  by_cases k0 : k = 0
  · subst k0
    show liftP (cAt c s) (cAt c (s + l)) (fitL c s l) 0 l = cAt c (s + 0)
    rw [liftP_zero l0 l1, Int.add_zero]
  · have h1 := (allTo_iff _ _).1 hw (k - 1) (by omega)
    rw [beq_iff_eq] at h1
    rw [show (((k - 1 : Nat) : Int) + 1) = (k : Int) by omega] at h1
    exact h1.symm
theorem proF_fit {c : List Int} (hl : (c.length : Int) ≤ 360) : ∀ (L : List Ct) (s : Int), 0 ≤ s → ChS s L c.length → (∀ v ∈ L, 0 ≤ fitL c v.2.1 v.2.2.1) → proF (cAt c s) (L.map (motP c)) = (List.range ((c.length : Int) - s).toNat).map fun k => cAt c (s + (k : Nat))
  | [], s, _, h, _ => by
    have h : s = c.length := h
    rw [h]; simp [proF]
  | v :: r, s, h0, h, hf => by
    obtain ⟨h1, h2, h3⟩ := h
    have hle := h3.le
    have hv := hf v (by simp)
    rw [h1] at hv
    have e1 : motP c v = (fitL c s v.2.2.1, v.2.2.1, cAt c (s + v.2.2.1), ()) := by unfold motP; rw [h1]
    have ih := proF_fit hl r (s + v.2.2.1) (by omega) h3 fun u hu => hf u (by simp [hu])
    rw [List.map_cons, proF, e1]
    dsimp only
    rw [ih, seg_fit h2 (by omega) hv _ rfl]
    rw [show ((c.length : Int) - s).toNat = v.2.2.1.toNat + ((c.length : Int) - (s + v.2.2.1)).toNat by omega, List.range_add, List.map_append, List.map_map]
    congr 1
    apply List.map_congr_left
    intro k _
    show cAt c (s + v.2.2.1 + (k : Nat)) = cAt c (s + ((v.2.2.1.toNat + k : Nat) : Int))
    congr 1
    omega
end Go.Cams
namespace Go.Cams
open Go Go.Fw
theorem liftP_full {f t w n : Int} (w0 : 0 ≤ w) (w1 : w ≤ 3) (n0 : 1 ≤ n) (n1 : n ≤ 360) : liftP f t w n n = t := by
  have hd := shD_bd (w := w) n0 n1
  have hs : shN w n n = shD w n := by
    rcases (show w = 0 ∨ w = 1 ∨ w = 2 ∨ w = 3 by omega) with rfl | rfl | rfl | rfl
    · rfl
    · unfold shN shD
      rw [if_pos rfl, if_pos rfl, if_neg (by omega)]; grind
    · unfold shN shD
      rw [if_neg (by decide), if_pos rfl, if_neg (by decide), if_pos rfl]; grind
    · unfold shN shD
      rw [if_neg (by decide), if_neg (by decide), if_pos rfl, if_neg (by decide), if_neg (by decide), if_pos rfl]; grind
  unfold liftP
  rw [hs]
  have e : f * shD w n + (t - f) * shD w n = t * shD w n + 0 := by grind
  rw [e, nr_from (by omega), nr_zero (by omega)]
  omega
theorem lift_fit {c : List Int} {s l k : Int} (l0 : 1 ≤ l) (l1 : l ≤ 360) (h : 0 ≤ fitL c s l) (k0 : 0 ≤ k) (k1 : k ≤ l) : liftP (cAt c s) (cAt c (s + l)) (fitL c s l) k l = cAt c (s + k) := by
  by_cases hk : k = l
  · rw [hk, liftP_full h (fitL_bd c s l).2 l0 l1]
  · have hsg := seg_fit l0 l1 h (motP c (0, s, l, ())) rfl
    have h1 : ((seg (cAt c s) (motP c (0, s, l, ())))[k.toNat]?) = some (liftP (cAt c s) (cAt c (s + l)) (fitL c s l) k l) := by
      unfold seg motP
      dsimp only
      rw [List.getElem?_map, List.getElem?_range (by omega)]
      simp only [Option.map_some]
      rw [show ((k.toNat : Nat) : Int) = k by omega]
    rw [hsg, List.getElem?_map, List.getElem?_range (by omega)] at h1
    simp only [Option.map_some, Option.some.injEq] at h1
    rw [← h1, show ((k.toNat : Nat) : Int) = k by omega]
theorem chain_sum (c : List Int) : ∀ (L : List Ct) (s e : Int), ChS s L e → sumM (L.map (motP c)) = e - s
  | [], s, e, h => by rw [show s = e from h]; simp [sumM]
  | v :: r, s, e, h => by
    have ih := chain_sum c r _ _ h.2.2
    simp only [List.map_cons, sumM, ih]
    show v.2.2.1 + _ = _
    omega
theorem chain_last (c : List Int) : ∀ (M : List Ct) (v : Ct) (s e : Int), ChS s (M ++ [v]) e → v.2.1 + v.2.2.1 = e
  | [], v, s, e, h => by
    have h3 : s + v.2.2.1 = e := h.2.2
    rw [h.1]; exact h3
  | u :: M, v, s, e, h => chain_last c M v _ _ h.2.2
/-- What is read as a program. -/
theorem fp_cases {c : List Int} (S : SmC c) : (∃ r, (r = 3 ∨ r = 6) ∧ fpR c = ((0, [], ()), r, ())) ∨ (∃ L : List Ct, fpR c = ((g c 0, L, ()), 0, ()) ∧ RngPg (g c 0, L, ()) ∧ okPg (g c 0, L, ()) = true ∧ (∀ v ∈ L, MoIn 0 10000 v) ∧ proF (g c 0) L = c) := by
  have hl := S.len
  have hc0 : 0 < c.length := by omega
  have ok := S.ok
  have c0 : cAt c 0 = g c 0 := cAt_self (p := 0) hc0
  have cb : ∀ x, 0 ≤ cAt c x ∧ cAt c x ≤ 59 := fun x => S.el _ (cAt_mem hc0 x)
  have hch := strP_chain hc0
  unfold fpR
  rw [ok, if_neg (by decide)]
  split
  · exact .inl ⟨3, .inl rfl, rfl⟩
  rename_i h24
  split
  · rename_i hall
    right
    have hf : ∀ v ∈ strP c, 0 ≤ fitL c v.2.1 v.2.2.1 := fun v hv => by
      have := List.all_eq_true.1 hall v hv
      have : ¬ fitL c v.2.1 v.2.2.1 < 0 := by simpa using this
      omega
    have hel := (strP_el hc0).2
    have hin : ∀ v ∈ (strP c).map (motP c), (0 ≤ v.1 ∧ v.1 ≤ 3) ∧ (1 ≤ v.2.1 ∧ v.2.1 ≤ 45) ∧ (0 ≤ v.2.2.1 ∧ v.2.2.1 ≤ 59) := fun v hv => by
      obtain ⟨u, hu, rfl⟩ := List.mem_map.1 hv
      have h1 := hf u hu
      have h2 := (fitL_bd c u.2.1 u.2.2.1).2
      have h3 := (hel u hu).2.2
      have h4 := cb (u.2.1 + u.2.2.1)
      unfold motP
      dsimp only
      omega
    have hlm : (((strP c).map (motP c)).length : Int) = (strP c).length := by simp
    have g0 := cb 0
    rw [c0] at g0
    have hr : RngPg (g c 0, (strP c).map (motP c), ()) := ⟨by dsimp only; omega, by dsimp only; omega, fun v hv => by have := hin v hv; omega⟩
    refine ⟨(strP c).map (motP c), rfl, hr, ?_, fun v hv => ?_, ?_⟩
    · have hpos : 0 < (strP c).length := by
        apply Classical.byContradiction
        intro hn
        have e0 : strP c = [] := List.length_eq_zero_iff.1 (by omega)
        rw [e0] at hch
        have : (0 : Int) = c.length := hch
        omega
      obtain ⟨M, v, hM⟩ := last_split hpos
      have hlast := chain_last c M v 0 _ (hM ▸ hch)
      have hsum := chain_sum c (strP c) 0 _ hch
      have hmo : ((strP c).map (motP c)).all moOk = true := List.all_eq_true.2 fun v hv => by
        have h1 := hin v hv
        unfold moOk
        rw [hr.m.i1 hv, hr.m.i3 hv]
        simp only [Bool.and_eq_true, inR_iff, Bool.not_eq_true', decide_eq_false_iff_not]
        omega
      have hlt : lastT ((strP c).map (motP c)) = g c 0 := by
        rw [hM, List.map_append, List.map_cons, List.map_nil, lastT_snoc]
        show cAt c (v.2.1 + v.2.2.1) = _
        rw [hlast]
        have := cAt_add c 0
        rw [Int.zero_add] at this
        rw [this, c0]
      unfold okPg
      dsimp only
      rw [hmo, hlt, hsum, wrap_id (x := g c 0) (by omega) (by omega)]
      simp only [Bool.and_eq_true, inR_iff, beq_self_eq_true, and_true]
      omega
    · have := hin v hv
      exact ⟨this.1, by omega, by omega⟩
    · have h := proF_fit (by omega) (strP c) 0 (Int.le_refl _) hch hf
      rw [c0] at h
      rw [h]
      apply List.ext_getElem?
      intro p
      by_cases hp : p < c.length
      · rw [List.getElem?_map, List.getElem?_range (by omega)]
        simp only [Option.map_some, Int.zero_add]
        rw [cAt_self hp]
        have a2 := (g_idx (l := c) (i := (p : Int)) (by omega) (by omega)).get
        rw [Int.toNat_natCast] at a2
        exact a2.symm
      · rw [List.getElem?_eq_none (by simp; omega), List.getElem?_eq_none (by omega)]
  · exact .inl ⟨6, .inr rfl, rfl⟩
end Go.Cams
namespace Go.Cams
def fmR (c : List Int) (s l : Int) : Int × (Int × Unit) := if fitL c s l < 0 then (0, 6, ()) else (fitL c s l, 0, ())
end Go.Cams

/- The lifts of a motion rise evenly, in plain terms. -/
namespace Go.Cams
open Go Go.Fw
theorem shN_up {w k n : Int} (w0 : 0 ≤ w) (w1 : w ≤ 3) (k0 : 0 ≤ k) (k1 : k < n) : shN w k n ≤ shN w (k + 1) n := by
  obtain ⟨m, rfl⟩ : ∃ m, n = k + m + 1 := ⟨n - k - 1, by omega⟩
  have m0 : 0 ≤ m := by omega
  have kk := Int.mul_nonneg k0 k0
  have km := Int.mul_nonneg k0 m0
  have mm := Int.mul_nonneg m0 m0
  rcases (show w = 0 ∨ w = 1 ∨ w = 2 ∨ w = 3 by omega) with rfl | rfl | rfl | rfl
  · unfold shN; simp; omega
  · unfold shN
    rw [if_pos rfl, if_pos rfl]
    split
    · rename_i h
      split
      · have : 2 * (k + 1) * (k + 1) = 2 * k * k + (4 * k + 2) := by grind
        omega
      · rename_i h2
        have e : (k + m + 1) * (k + m + 1) - 2 * (k + m + 1 - (k + 1)) * (k + m + 1 - (k + 1)) - 2 * k * k = 2 * (k * m) - k * k - m * m + 2 * k + 2 * m + 1 := by grind
        have hk : k = m ∨ k = m + 1 ∨ k + 1 = m := by omega
        rcases hk with h3 | h3 | h3
        · subst h3; omega
        · subst h3
          have : 2 * ((m + 1) * m) - (m + 1) * (m + 1) - m * m = -1 := by grind
          omega
        · subst h3
          have : 2 * (k * (k + 1)) - k * k - (k + 1) * (k + 1) = -1 := by grind
          omega
    · rename_i h
      split
      · omega
      · have e : (k + m + 1) * (k + m + 1) - 2 * (k + m + 1 - (k + 1)) * (k + m + 1 - (k + 1)) - ((k + m + 1) * (k + m + 1) - 2 * (k + m + 1 - k) * (k + m + 1 - k)) = 4 * m + 2 := by grind
        omega
  · unfold shN
    rw [if_neg (by decide), if_pos rfl, if_neg (by decide), if_pos rfl]
    have e : 3 * (k + 1) * (k + 1) * (k + m + 1) - 2 * (k + 1) * (k + 1) * (k + 1) - (3 * k * k * (k + m + 1) - 2 * k * k * k) = 6 * (k * m) + 3 * k + 3 * m + 1 := by grind
    omega
  · unfold shN
    rw [if_neg (by decide), if_neg (by decide), if_pos rfl, if_neg (by decide), if_neg (by decide), if_pos rfl]
    have e : (k + 1) * (k + 1) * (k + 1) * (10 * (k + m + 1) * (k + m + 1) - 15 * (k + 1) * (k + m + 1) + 6 * (k + 1) * (k + 1)) - k * k * k * (10 * (k + m + 1) * (k + m + 1) - 15 * k * (k + m + 1) + 6 * k * k) = 30 * ((k * k) * (m * m)) + 30 * ((k * k) * m) + 10 * (k * k) + 30 * (k * (m * m)) + 20 * (k * m) + 5 * k + 10 * (m * m) + 5 * m + 1 := by grind
    have a1 := Int.mul_nonneg kk mm
    have a2 := Int.mul_nonneg kk m0
    have a3 := Int.mul_nonneg k0 mm
    omega
theorem nr_mono {x y d : Int} (hd : 0 < d) (h : x ≤ y) : nr x d ≤ nr y d := by
  unfold nr
  exact Int.ediv_le_ediv (by omega) (by omega)
/-- A lift that rises never falls between. -/
theorem liftP_up {f t w k n : Int} (w0 : 0 ≤ w) (w1 : w ≤ 3) (k0 : 0 ≤ k) (k1 : k < n) (n1 : n ≤ 360) (h : f ≤ t) : liftP f t w k n ≤ liftP f t w (k + 1) n := by
  have hd := shD_bd (w := w) (n := n) (by omega) n1
  have hs := shN_up w0 w1 k0 k1
  unfold liftP
  refine nr_mono (by omega) ?_
  have := Int.mul_le_mul_of_nonneg_left hs (show 0 ≤ t - f by omega)
  omega
end Go.Cams
namespace Go.Cams
open Go Go.Fw
/-- The greatest size of numbers, and its first place. -/
def grS (q : Int × Int × Int) (v : Int) : Int × Int × Int := if siz v > q.2.1 then (q.2.2, siz v, q.2.2 + 1) else (q.1, q.2.1, q.2.2 + 1)
def gr (l : List Int) : Int × Int × Int := l.foldl grS (0, -1, 0)
theorem gr_snoc (l : List Int) (v : Int) : gr (l ++ [v]) = grS (gr l) v := by simp [gr, List.foldl_append]
theorem grS_n (q : Int × Int × Int) (v : Int) : (grS q v).2.2 = q.2.2 + 1 := by unfold grS; split <;> rfl
theorem gr_n (l : List Int) : ∀ (q : Int × Int × Int), (l.foldl grS q).2.2 = q.2.2 + l.length := by
  induction l with
  | nil => intro q; simp
  | cons v l ih => intro q; rw [List.foldl_cons, ih, grS_n, List.length_cons]; omega
theorem gr_le : ∀ (l : List Int) (q : Int × Int × Int) (m : Int), ((l.foldl grS q).2.1 ≤ m) ↔ (q.2.1 ≤ m ∧ ∀ v ∈ l, siz v ≤ m)
  | [], q, m => by simp
  | v :: l, q, m => by
    rw [List.foldl_cons, gr_le l (grS q v) m]
    have : (grS q v).2.1 ≤ m ↔ q.2.1 ≤ m ∧ siz v ≤ m := by
      unfold grS
      split <;> simp only <;> omega
    rw [this]
    simp only [List.mem_cons, forall_eq_or_imp]
    exact ⟨fun h => ⟨h.1.1, h.1.2, h.2⟩, fun h => ⟨⟨h.1, h.2.1⟩, h.2.2⟩⟩
end Go.Cams

/- The least number of steps of a motion, its bends, and planned programs, in plain terms. -/
namespace Go.Cams
open Go Go.Fw
/-- The changes of a motion. -/
def chgs (f t w : Int) (n : Nat) : List Int := tb n fun k => liftP f t w ((k : Nat) + 1) n - liftP f t w (k : Nat) n
theorem tb_mem {α : Type} {n : Nat} {G : Nat → α} {v : α} (h : v ∈ tb n G) : ∃ i, i < n ∧ v = G i := by
  simp only [tb, List.mem_map, List.mem_range] at h
  obtain ⟨i, hi, e⟩ := h
  exact ⟨i, hi, e.symm⟩
theorem mem_tb {α : Type} {n : Nat} {G : Nat → α} {i : Nat} (h : i < n) : G i ∈ tb n G := by
  simp only [tb, List.mem_map, List.mem_range]
  exact ⟨i, h, rfl⟩
theorem tb_at {α : Type} {n : Nat} {G : Nat → α} {i : Int} (h0 : 0 ≤ i) (h1 : i < (n : Int)) : At (tb n G) i (G i.toNat) := by
  obtain ⟨v, hv⟩ := at_of (l := tb n G) h0 (by rw [tb_len]; exact h1)
  have e := hv.get
  rw [tb_get (show i.toNat < n by omega)] at e
  rw [Option.some.inj e]; exact hv
theorem siz_nn (v : Int) : 0 ≤ siz v := by unfold siz; split <;> omega
theorem siz_le {v m : Int} (h1 : -m ≤ v) (h2 : v ≤ m) : siz v ≤ m := by unfold siz; split <;> omega
theorem chg_bd {f t w : Int} {n i : Nat} (f0 : 0 ≤ f) (f1 : f ≤ 10000) (t0 : 0 ≤ t) (t1 : t ≤ 10000) (w0 : 0 ≤ w) (w1 : w ≤ 3) (hn : n ≤ 360) (h : i < n) : -10000 ≤ liftP f t w ((i : Nat) + 1) n - liftP f t w (i : Nat) n ∧ liftP f t w ((i : Nat) + 1) n - liftP f t w (i : Nat) n ≤ 10000 := by
  have b1 := liftP_in (f := f) (t := t) (w := w) (k := (i : Int)) (n := (n : Int)) (lo := 0) (hi := 10000) w0 w1 (by omega) (by omega) (by omega) (by omega) f0 f1 t0 t1
  have b2 := liftP_in (f := f) (t := t) (w := w) (k := (i : Int) + 1) (n := (n : Int)) (lo := 0) (hi := 10000) w0 w1 (by omega) (by omega) (by omega) (by omega) f0 f1 t0 t1
  omega
theorem chgs_bd {f t w : Int} {n : Nat} (f0 : 0 ≤ f) (f1 : f ≤ 10000) (t0 : 0 ≤ t) (t1 : t ≤ 10000) (w0 : 0 ≤ w) (w1 : w ≤ 3) (hn : n ≤ 360) : ∀ v ∈ chgs f t w n, -10000 ≤ v ∧ v ≤ 10000 := fun v hv => by
  obtain ⟨i, hi, rfl⟩ := tb_mem hv
  exact chg_bd f0 f1 t0 t1 w0 w1 hn hi
/-- Are all changes within a bound? -/
def okN (w r m : Int) (n : Nat) : Bool := decide ((gr (chgs 0 r w n)).2.1 ≤ m)
theorem okN_all {w r m : Int} (hm : 0 ≤ m) (n : Nat) : allTo (fun j => decide (siz (liftP 0 r w ((j : Nat) + 1) n - liftP 0 r w (j : Nat) n) ≤ m)) n = okN w r m n := by
  rw [Bool.eq_iff_iff, allTo_iff]
  unfold okN
  rw [decide_eq_true_iff]
  unfold gr
  rw [gr_le]
  constructor
  · intro h
    refine ⟨by show (-1 : Int) ≤ m; omega, fun v hv => ?_⟩
    obtain ⟨i, hi, rfl⟩ := tb_mem hv
    exact of_decide_eq_true (h i hi)
  · intro h i hi
    exact decide_eq_true (h.2 _ (mem_tb (G := fun k : Nat => liftP 0 r w ((k : Nat) + 1) n - liftP 0 r w (k : Nat) n) hi))
def lsF (w r m : Int) : Nat → Nat → Int × (Int × Unit)
  | 0, _ => (0, 6, ())
  | f + 1, n => if okN w r m n = true then ((n : Int), 0, ()) else lsF w r m f (n + 1)
def lsR (w r m : Int) : Int × (Int × Unit) := lsF w r m 360 1
theorem lsF_spec (w r m : Int) : ∀ f n, 1 ≤ n → (n = 1 ∨ okN w r m (n - 1) = false) → (lsF w r m f n = (0, 6, ())) ∨ ∃ k : Nat, lsF w r m f n = ((k : Int), 0, ()) ∧ n ≤ k ∧ k < n + f ∧ okN w r m k = true ∧ (k = 1 ∨ okN w r m (k - 1) = false)
  | 0, n, _, _ => .inl rfl
  | f + 1, n, h1, h => by
    unfold lsF
    by_cases hk : okN w r m n = true
    · rw [if_pos hk]
      exact .inr ⟨n, rfl, Nat.le_refl _, by omega, hk, h⟩
    · rw [if_neg hk]
      rcases lsF_spec w r m f (n + 1) (by omega) (.inr (by simpa using hk)) with e | ⟨k, e, k1, k2, k3, k4⟩
      · exact .inl e
      · exact .inr ⟨k, e, by omega, by omega, k3, k4⟩
theorem lsR_spec (w r m : Int) : lsR w r m = (0, 6, ()) ∨ ∃ k : Nat, lsR w r m = ((k : Int), 0, ()) ∧ 1 ≤ k ∧ k ≤ 360 ∧ okN w r m k = true ∧ (k = 1 ∨ okN w r m (k - 1) = false) := by
  rcases lsF_spec w r m 360 1 (Nat.le_refl _) (.inl rfl) with e | ⟨k, e, k1, k2, k3, k4⟩
  · exact .inl e
  · exact .inr ⟨k, e, k1, by omega, k3, k4⟩
/-- Of a motion that rises a change is its own size. -/
theorem okN_wide {w r m : Int} (w0 : 0 ≤ w) (w1 : w ≤ 3) (r0 : 0 ≤ r) (hm : 0 ≤ m) {n : Nat} (n1 : n ≤ 360) : (!okN w r m n) = !allTo (fun j => decide (liftP 0 r w ((j : Nat) + 1) n - liftP 0 r w (j : Nat) n ≤ m)) n := by
  rw [← okN_all hm]
  congr 1
  rw [Bool.eq_iff_iff, allTo_iff, allTo_iff]
  have key : ∀ i, i < n → siz (liftP 0 r w ((i : Nat) + 1) n - liftP 0 r w (i : Nat) n) = liftP 0 r w ((i : Nat) + 1) n - liftP 0 r w (i : Nat) n := fun i hi => by
    have := liftP_up (f := 0) (t := r) (w := w) (k := (i : Nat)) (n := n) w0 w1 (by omega) (by omega) (by omega) r0
    unfold siz
    rw [if_neg (by omega)]
  exact ⟨fun h i hi => by rw [← key i hi]; exact h i hi, fun h i hi => by rw [key i hi]; exact h i hi⟩
/-! ### Bends of a motion -/
def chg (f t w : Int) (n k : Nat) : Int := if k < n then liftP f t w ((k : Nat) + 1) n - liftP f t w (k : Nat) n else 0
def bnd (f t w : Int) (n k : Nat) : Int := chg f t w n k - (if k = 0 then 0 else chg f t w n (k - 1))
def bnds (f t w : Int) (n : Nat) : List Int := tb (n + 1) fun k => bnd f t w n k
theorem chg_in {f t w : Int} {n i : Nat} (f0 : 0 ≤ f) (f1 : f ≤ 10000) (t0 : 0 ≤ t) (t1 : t ≤ 10000) (w0 : 0 ≤ w) (w1 : w ≤ 3) (hn : n ≤ 360) : -10000 ≤ chg f t w n i ∧ chg f t w n i ≤ 10000 := by
  unfold chg
  split
  · rename_i h; exact chg_bd f0 f1 t0 t1 w0 w1 hn h
  · omega
theorem bnd_in {f t w : Int} {n i : Nat} (f0 : 0 ≤ f) (f1 : f ≤ 10000) (t0 : 0 ≤ t) (t1 : t ≤ 10000) (w0 : 0 ≤ w) (w1 : w ≤ 3) (hn : n ≤ 360) : -20000 ≤ bnd f t w n i ∧ bnd f t w n i ≤ 20000 := by
  have h1 := chg_in (i := i) f0 f1 t0 t1 w0 w1 hn
  have h2 := chg_in (i := i - 1) f0 f1 t0 t1 w0 w1 hn
  unfold bnd
  split <;> omega
theorem chgs_more (f t w : Int) (n : Nat) : chgs f t w n ++ [0] = tb (n + 1) fun k => chg f t w n k := by
  rw [← tb_snoc]
  congr 1
  · exact tb_ext fun j hj => by unfold chg; rw [if_pos hj]
  · unfold chg; rw [if_neg (by omega)]
def mxS (l : List Int) : Int := l.foldl (fun m v => max m (siz v)) 0
theorem mxS_snoc (l : List Int) (v : Int) : mxS (l ++ [v]) = max (mxS l) (siz v) := by simp [mxS, List.foldl_append]
theorem mxS_le' : ∀ (l : List Int) (q m : Int), (l.foldl (fun m v => max m (siz v)) q ≤ m) ↔ (q ≤ m ∧ ∀ v ∈ l, siz v ≤ m)
  | [], q, m => by simp
  | v :: l, q, m => by
    rw [List.foldl_cons, mxS_le' l _ m]
    simp only [List.mem_cons, forall_eq_or_imp]
    constructor
    · rintro ⟨h1, h2⟩; exact ⟨by omega, by omega, h2⟩
    · rintro ⟨h1, h2, h3⟩; exact ⟨by omega, h3⟩
theorem gr_mxS {l : List Int} (h : l ≠ []) : (gr l).2.1 = mxS l := by
  have key : ∀ m : Int, (gr l).2.1 ≤ m ↔ mxS l ≤ m := fun m => by
    unfold gr mxS
    rw [gr_le, mxS_le']
    obtain ⟨v, r, rfl⟩ := List.exists_cons_of_ne_nil h
    constructor
    · rintro ⟨_, h2⟩
      have := h2 v (by simp)
      have := siz_nn v
      exact ⟨by omega, h2⟩
    · rintro ⟨h1, h2⟩
      exact ⟨by show (-1 : Int) ≤ m; omega, h2⟩
  exact Int.le_antisymm ((key _).2 (Int.le_refl _)) ((key _).1 (Int.le_refl _))
theorem mxS_nn (l : List Int) : 0 ≤ mxS l := ((mxS_le' l 0 (mxS l)).1 (Int.le_refl _)).1
theorem bnds_ne (f t w : Int) (n : Nat) : bnds f t w n ≠ [] := fun h => by
  have := congrArg List.length h
  simp [bnds, tb_len] at this
theorem bnds_snoc (f t w : Int) (n i : Nat) : tb i (fun k => bnd f t w n k) ++ [bnd f t w n i] = tb (i + 1) fun k => bnd f t w n k := tb_snoc i fun k => bnd f t w n k
/-- The easiest law. -/
def esF (s : Nat → Int) : Nat → Int × Int
  | 0 => (0, s 0)
  | k + 1 => if s (k + 1) < (esF s k).2 then (((k : Nat) : Int) + 1, s (k + 1)) else esF s k
def esS (f t : Int) (n : Nat) (w : Nat) : Int := mxS (bnds f t (w : Int) n)
def esR (f t : Int) (n : Nat) : Int × (Int × (Int × Unit)) := ((esF (esS f t n) 3).1, (esF (esS f t n) 3).2, 0, ())
theorem esF_in {s : Nat → Int} (h : ∀ k, 0 ≤ s k) : ∀ k, 0 ≤ (esF s k).1 ∧ (esF s k).1 ≤ (k : Int) ∧ 0 ≤ (esF s k).2
  | 0 => ⟨Int.le_refl _, Int.le_refl _, h 0⟩
  | k + 1 => by
    have := esF_in h k
    have := h (k + 1)
    unfold esF
    split
    · simp only; omega
    · omega
/-! ### Planned programs -/
def mosP (law : Int) (to S : Nat → Int) (n : Nat) : List Ct := tb n fun i => (law, S i, to i, ())
def pick (z S : Nat → Int) : Nat → Nat
  | 0 => 0
  | i + 1 => if z i * S (pick z S i) > z (pick z S i) * S i then i else pick z S i
theorem pick_lt (z S : Nat → Int) {n : Nat} (h : 0 < n) : ∀ i, i ≤ n → pick z S i < n
  | 0, _ => h
  | i + 1, hi => by
    have := pick_lt z S h i (by omega)
    unfold pick
    split <;> omega
theorem pick_one (z S : Nat → Int) : pick z S 1 = 0 := by unfold pick; split <;> rfl
def more (z S : Nat → Int) (n : Nat) : Nat → Int := fun i => if i = pick z S n then S i + 1 else S i
def plan (z : Nat → Int) (n : Nat) : Nat → Nat → Int
  | 0 => fun _ => 1
  | k + 1 => more z (plan z n k) n
def sumN (S : Nat → Int) : Nat → Int
  | 0 => 0
  | i + 1 => sumN S i + S i
theorem sumN_up (S : Nat → Int) (a : Nat) : ∀ n, sumN (fun i => if i = a then S i + 1 else S i) n = sumN S n + if a < n then 1 else 0
  | 0 => by simp [sumN]
  | n + 1 => by
    unfold sumN
    rw [sumN_up S a n]
    by_cases h : n = a
    · subst h; rw [if_pos rfl, if_neg (by omega), if_pos (by omega)]; omega
    · rw [if_neg h]
      by_cases h2 : a < n
      · rw [if_pos h2, if_pos (by omega)]; omega
      · rw [if_neg h2, if_neg (by omega)]; omega
theorem sumN_one (n : Nat) : sumN (fun _ => 1) n = n := by
  induction n with
  | zero => rfl
  | succ n ih => unfold sumN; rw [ih]; omega
theorem sumN_el {S : Nat → Int} (h : ∀ i, 1 ≤ S i) : ∀ {n i : Nat}, i < n → S i + (n : Int) - 1 ≤ sumN S n
  | 0, i, hi => by omega
  | n + 1, i, hi => by
    have h0 : ∀ n : Nat, (n : Int) ≤ sumN S n := fun n => by
      induction n with
      | zero => exact Int.le_refl _
      | succ n ih => unfold sumN; have := h n; omega
    unfold sumN
    by_cases e : i = n
    · subst e; have := h0 i; omega
    · have := sumN_el h (n := n) (i := i) (by omega)
      have := h n
      omega
structure GoodP2 (n k : Nat) (S : Nat → Int) : Prop where
  one : ∀ i, 1 ≤ S i
  sum : sumN S n = n + k
theorem plan_good (z : Nat → Int) {n : Nat} (h : 0 < n) : ∀ k, GoodP2 n k (plan z n k)
  | 0 => ⟨fun _ => Int.le_refl _, by show sumN (fun _ => 1) n = _; rw [sumN_one]; omega⟩
  | k + 1 => by
    have ih := plan_good z h k
    refine ⟨fun i => ?_, ?_⟩
    · have := ih.one i
      show 1 ≤ more z (plan z n k) n i
      unfold more
      split <;> omega
    · show sumN (more z (plan z n k) n) n = _
      unfold more
      rw [sumN_up, ih.sum, if_pos (pick_lt z _ h n (Nat.le_refl _))]
      omega
theorem GoodP2.le {n k : Nat} {S : Nat → Int} (h : GoodP2 n k S) {i : Nat} (hi : i < n) : 1 ≤ S i ∧ S i ≤ k + 1 := by
  have h1 := sumN_el h.one hi
  rw [h.sum] at h1
  exact ⟨h.one i, by omega⟩
theorem mosP_set (law : Int) (to S : Nat → Int) (n a : Nat) : (mosP law to S n).set a (law, S a + 1, to a, ()) = mosP law to (fun i => if i = a then S i + 1 else S i) n := by
  unfold mosP
  rw [tb_set]
  exact tb_ext fun j _ => by
    by_cases h : j = a
    · subst h; simp
    · simp [h]
/-- Where a planned program's motions lead, and how far they are. -/
def toL (l : List Int) (i : Nat) : Int := g l ((i + 1) % l.length)
def zL (l : List Int) (i : Nat) : Int := siz (toL l i - g l i)
theorem toL_in {l : List Int} (h : 0 < l.length) (he : ∀ v ∈ l, 0 ≤ v ∧ v ≤ 10000) (i : Nat) : 0 ≤ toL l i ∧ toL l i ≤ 10000 := he _ (g_mem (Nat.mod_lt _ h))
theorem zL_in {l : List Int} {i : Nat} (h : 0 < l.length) (he : ∀ v ∈ l, 0 ≤ v ∧ v ≤ 10000) (hi : i < l.length) : 0 ≤ zL l i ∧ zL l i ≤ 10000 := by
  have a := toL_in h he i
  have b := he _ (g_mem hi)
  exact ⟨siz_nn _, siz_le (by omega) (by omega)⟩
theorem toL_at {l : List Int} {i : Nat} (h : 0 < l.length) (hi : i < l.length) : At l (Int.tmod ((i : Int) + 1) (l.length : Int)) (toL l i) := by
  have hm := Nat.mod_lt (i + 1) h
  have e : Int.tmod ((i : Int) + 1) (l.length : Int) = (((i + 1) % l.length : Nat) : Int) := by
    rw [Int.tmod_eq_emod_of_nonneg (by omega), Int.natCast_emod, Int.natCast_add]
    rfl
  rw [e]
  have := g_idx (l := l) (i := (((i + 1) % l.length : Nat) : Int)) (by omega) (by omega)
  rwa [Int.toNat_natCast] at this
theorem mosP_sum (law : Int) (to S : Nat → Int) : ∀ n, sumM (mosP law to S n) = sumN S n
  | 0 => rfl
  | n + 1 => by
    unfold mosP
    rw [← tb_snoc, sumM_snoc]
    show sumM (mosP law to S n) + S n = _
    rw [mosP_sum law to S n]
    rfl
theorem mosP_rng {law : Int} {to S : Nat → Int} {n : Nat} (l0 : 0 ≤ law) (l1 : law ≤ 3) (hn : n ≤ 24) (ht : ∀ i, i < n → 0 ≤ to i ∧ to i ≤ 10000) (hS : ∀ i, i < n → 1 ≤ S i ∧ S i ≤ 360) : RngMo (mosP law to S n) := by
  refine ⟨by unfold mosP; rw [tb_len]; omega, fun v hv => ?_⟩
  obtain ⟨i, hi, rfl⟩ := tb_mem hv
  have := ht i hi
  have := hS i hi
  simp only
  omega
theorem mosP_ok {law : Int} {to S : Nat → Int} {n : Nat} {s : Int} (l0 : 0 ≤ law) (l1 : law ≤ 3) (h0 : 0 < n) (hn : n ≤ 24) (ht : ∀ i, i < n → 0 ≤ to i ∧ to i ≤ 10000) (hS : ∀ i, i < n → 1 ≤ S i ∧ S i ≤ 360) (s0 : 8 ≤ sumN S n) (s1 : sumN S n ≤ 360) (hs : to (n - 1) = s) (hs0 : 0 ≤ s) (hs1 : s ≤ 10000) : okPg (s, mosP law to S n, ()) = true := by
  have hl : (mosP law to S n).length = n := tb_len _ _
  unfold okPg
  simp only [Bool.and_eq_true, inR_iff, List.all_eq_true, beq_iff_eq]
  refine ⟨⟨⟨⟨by rw [hl]; omega, by rw [wrap_id (by omega) (by omega)]; omega⟩, fun v hv => ?_⟩, by rw [mosP_sum]; omega⟩, ?_⟩
  · obtain ⟨i, hi, rfl⟩ := tb_mem hv
    have a1 := ht i hi
    have a2 := hS i hi
    unfold moOk
    simp only [Bool.and_eq_true, inR_iff, Bool.not_eq_true', decide_eq_false_iff_not]
    rw [wrap_id (x := law) (by omega) (by omega), wrap_id (x := to i) (by omega) (by omega)]
    omega
  · have ha := tb_at (n := n) (G := fun i => ((law, S i, to i, ()) : Ct)) (i := (n : Int) - 1) (by omega) (by omega)
    unfold lastT
    rw [hl]
    show ((idx (tb n fun i => ((law, S i, to i, ()) : Ct)) ((n : Int) - 1)).map fun v => v.2.2.1).getD 0 = s
    rw [ha.idx]
    show to ((n : Int) - 1).toNat = s
    rw [show ((n : Int) - 1).toNat = n - 1 by omega]
    exact hs
end Go.Cams

/- Drawn cams, lag and feet, in plain terms. -/
namespace Go.Cams
open Go Go.Fw
/-- A cam as it is drawn. -/
structure SmD (c : List Int) : Prop where
  len : 8 ≤ (c.length : Int) ∧ (c.length : Int) ≤ 36
  el : ∀ v ∈ c, 0 ≤ v ∧ v ≤ 60
theorem SmD.rng {c : List Int} (S : SmD c) : Rng c := rng_bd (by have := S.len; omega) fun v hv => by have := S.el v hv; omega
theorem okC_of {c : List Int} (h : 8 ≤ (c.length : Int) ∧ (c.length : Int) ≤ 360) (he : ∀ v ∈ c, 0 ≤ v ∧ v ≤ 10000) : okC c = true := by
  unfold okC
  simp only [Bool.and_eq_true, inR_iff, List.all_eq_true]
  exact ⟨h, fun v hv => by
    have := he v hv
    unfold okV
    rw [inR_iff, wrap_id (by omega) (by omega)]
    exact this⟩
theorem SmD.ok {c : List Int} (S : SmD c) : okC c = true := okC_of (by have := S.len; omega) fun v hv => by have := S.el v hv; omega
def grow (b : Int) (m : Nat) : Nat → List Int × Int → List Int × Int
  | 0, s => s
  | k + 1, s => if s.1.length < m then grow b m k (s.1 ++ [max 0 (min 60 (s.2 + b))], max 0 (min 60 (s.2 + b))) else s
structure GoodG2 (m : Nat) (s : List Int × Int) : Prop where
  el : ∀ v ∈ s.1, 0 ≤ v ∧ v ≤ 60
  lf : 0 ≤ s.2 ∧ s.2 ≤ 60
  le : s.1.length ≤ m
theorem grow_one {b : Int} {m : Nat} {s : List Int × Int} (h : GoodG2 m s) (hl : s.1.length < m) : GoodG2 m (s.1 ++ [max 0 (min 60 (s.2 + b))], max 0 (min 60 (s.2 + b))) := by
  have hb : 0 ≤ max 0 (min 60 (s.2 + b)) ∧ max 0 (min 60 (s.2 + b)) ≤ 60 := by omega
  refine ⟨fun v hv => ?_, hb, by simp; omega⟩
  rcases List.mem_append.1 hv with hv | hv
  · exact h.el v hv
  · simp at hv; rw [hv]; exact hb
theorem grow_good {b : Int} {m : Nat} : ∀ k {s : List Int × Int}, GoodG2 m s → GoodG2 m (grow b m k s) ∧ s.1.length ≤ (grow b m k s).1.length
  | 0, s, h => ⟨h, Nat.le_refl _⟩
  | k + 1, s, h => by
    unfold grow
    by_cases hl : s.1.length < m
    · rw [if_pos hl]
      have := grow_good (b := b) k (grow_one (b := b) h hl)
      exact ⟨this.1, by have h2 := this.2; simp at h2; omega⟩
    · rw [if_neg hl]; exact ⟨h, Nat.le_refl _⟩
theorem grow_more {b : Int} {m : Nat} {k : Nat} {s : List Int × Int} (h : GoodG2 m s) (hl : s.1.length < m) (hk : 0 < k) : s.1.length < (grow b m k s).1.length := by
  obtain ⟨k, rfl⟩ : ∃ j, k = j + 1 := ⟨k - 1, by omega⟩
  unfold grow
  rw [if_pos hl]
  have := (grow_good (b := b) k (grow_one (b := b) h hl)).2
  simp at this
  omega
/-! ### What lies beside -/
def wTo (op : Int → Int → Int) (h : Int → Int) (f : Nat) (x : Int) : Nat → Int
  | 0 => h x
  | i + 1 => op (wTo op h f x i) (h (x + ((i : Nat) - (f : Nat) : Int)))
def upW (h : Int → Int) (f : Nat) (x : Int) : Int := wTo max h f x (2 * f + 1)
def dnW (h : Int → Int) (f : Nat) (x : Int) : Int := wTo min h f x (2 * f + 1)
theorem wTo_max {h : Int → Int} {f : Nat} {x m : Int} : ∀ k, wTo max h f x k ≤ m ↔ h x ≤ m ∧ ∀ i, i < k → h (x + ((i : Nat) - (f : Nat) : Int)) ≤ m
  | 0 => by simp [wTo]
  | k + 1 => by
    unfold wTo
    constructor
    · intro H
      have h1 := (wTo_max k).1 (show wTo max h f x k ≤ m by omega)
      refine ⟨h1.1, fun i hi => ?_⟩
      by_cases e : i = k
      · subst e; omega
      · exact h1.2 i (by omega)
    · rintro ⟨h1, h2⟩
      have h3 := (wTo_max k).2 ⟨h1, fun i hi => h2 i (by omega)⟩
      have := h2 k (by omega)
      omega
theorem wTo_min {h : Int → Int} {f : Nat} {x m : Int} : ∀ k, m ≤ wTo min h f x k ↔ m ≤ h x ∧ ∀ i, i < k → m ≤ h (x + ((i : Nat) - (f : Nat) : Int))
  | 0 => by simp [wTo]
  | k + 1 => by
    unfold wTo
    constructor
    · intro H
      have h1 := (wTo_min k).1 (show m ≤ wTo min h f x k by omega)
      refine ⟨h1.1, fun i hi => ?_⟩
      by_cases e : i = k
      · subst e; omega
      · exact h1.2 i (by omega)
    · rintro ⟨h1, h2⟩
      have h3 := (wTo_min k).2 ⟨h1, fun i hi => h2 i (by omega)⟩
      have := h2 k (by omega)
      omega
theorem upW_le {h : Int → Int} {f : Nat} {x m : Int} : upW h f x ≤ m ↔ ∀ d : Int, -f ≤ d → d ≤ f → h (x + d) ≤ m := by
  unfold upW
  rw [wTo_max]
  constructor
  · rintro ⟨_, h2⟩ d d0 d1
    have := h2 (d + f).toNat (by omega)
    rwa [show (((d + f).toNat : Nat) : Int) - (f : Nat) = d by omega] at this
  · intro H
    refine ⟨by have := H 0 (by omega) (by omega); rwa [Int.add_zero] at this, fun i hi => H _ (by omega) (by omega)⟩
theorem le_dnW {h : Int → Int} {f : Nat} {x m : Int} : m ≤ dnW h f x ↔ ∀ d : Int, -f ≤ d → d ≤ f → m ≤ h (x + d) := by
  unfold dnW
  rw [wTo_min]
  constructor
  · rintro ⟨_, h2⟩ d d0 d1
    have := h2 (d + f).toNat (by omega)
    rwa [show (((d + f).toNat : Nat) : Int) - (f : Nat) = d by omega] at this
  · intro H
    refine ⟨by have := H 0 (by omega) (by omega); rwa [Int.add_zero] at this, fun i hi => H _ (by omega) (by omega)⟩
def rcW (h : Int → Int) (f : Nat) : Int → Int := dnW (upW h f) f
theorem le_upW (h : Int → Int) (f : Nat) (x : Int) : h x ≤ upW h f x := by
  have := (upW_le (h := h) (f := f) (x := x) (m := upW h f x)).1 (Int.le_refl _) 0 (by omega) (by omega)
  rwa [Int.add_zero] at this
theorem dnW_le (h : Int → Int) (f : Nat) (x : Int) : dnW h f x ≤ h x := by
  have := (le_dnW (h := h) (f := f) (x := x) (m := dnW h f x)).1 (Int.le_refl _) 0 (by omega) (by omega)
  rwa [Int.add_zero] at this
theorem upW_mono {h k : Int → Int} (H : ∀ x, h x ≤ k x) (f : Nat) (x : Int) : upW h f x ≤ upW k f x :=
  upW_le.2 fun d d0 d1 => Int.le_trans (H _) ((upW_le (h := k) (f := f) (x := x)).1 (Int.le_refl _) d d0 d1)
theorem dnW_mono {h k : Int → Int} (H : ∀ x, h x ≤ k x) (f : Nat) (x : Int) : dnW h f x ≤ dnW k f x :=
  le_dnW.2 fun d d0 d1 => Int.le_trans ((le_dnW (h := h) (f := f) (x := x)).1 (Int.le_refl _) d d0 d1) (H _)
theorem le_rcW (h : Int → Int) (f : Nat) (x : Int) : h x ≤ rcW h f x := le_dnW.2 fun d d0 d1 => by
  have := (upW_le (h := h) (f := f) (x := x + d) (m := upW h f (x + d))).1 (Int.le_refl _) (-d) (by omega) (by omega)
  rwa [show x + d + -d = x by omega] at this
theorem up_dn (k : Int → Int) (f : Nat) (x : Int) : upW (dnW k f) f x ≤ k x := upW_le.2 fun d d0 d1 => by
  have := (le_dnW (h := k) (f := f) (x := x + d) (m := dnW k f (x + d))).1 (Int.le_refl _) (-d) (by omega) (by omega)
  rwa [show x + d + -d = x by omega] at this
theorem rcW_rcW (h : Int → Int) (f : Nat) (x : Int) : rcW (rcW h f) f x = rcW h f x :=
  Int.le_antisymm (dnW_mono (fun y => up_dn (upW h f) f y) f x) (le_rcW (rcW h f) f x)
theorem rcW_up (h : Int → Int) (f : Nat) (x : Int) : rcW h f x ≤ upW h f x := dnW_le _ _ _
theorem wTo_congr {op : Int → Int → Int} {h k : Int → Int} (H : ∀ x, h x = k x) (f : Nat) (x : Int) : ∀ i, wTo op h f x i = wTo op k f x i
  | 0 => H x
  | i + 1 => by unfold wTo; rw [wTo_congr H f x i, H]
theorem wTo_per {op : Int → Int → Int} {c : List Int} (f : Nat) (x : Int) : ∀ i, wTo op (cAt c) f (x % c.length) i = wTo op (cAt c) f x i
  | 0 => cAt_mod c x
  | i + 1 => by unfold wTo; rw [wTo_per f x i, cAt_mod']
theorem wTo_bd {op : Int → Int → Int} (ho : ∀ a b : Int, op a b = a ∨ op a b = b) {h : Int → Int} {lo hi : Int} (H : ∀ x, lo ≤ h x ∧ h x ≤ hi) (f : Nat) (x : Int) : ∀ i, lo ≤ wTo op h f x i ∧ wTo op h f x i ≤ hi
  | 0 => H x
  | i + 1 => by
    unfold wTo
    rcases ho (wTo op h f x i) (h (x + ((i : Nat) - (f : Nat) : Int))) with e | e <;> rw [e]
    · exact wTo_bd ho H f x i
    · exact H _
theorem max_or (a b : Int) : max a b = a ∨ max a b = b := by omega
theorem min_or (a b : Int) : min a b = a ∨ min a b = b := by omega
def wL (op : Int → Int → Int) (c : List Int) (f : Nat) : List Int := tb c.length fun i => wTo op (cAt c) f (i : Nat) (2 * f + 1)
theorem wL_len (op : Int → Int → Int) (c : List Int) (f : Nat) : (wL op c f).length = c.length := tb_len _ _
theorem wL_at {op : Int → Int → Int} {c : List Int} (h0 : 0 < c.length) (f : Nat) (x : Int) : cAt (wL op c f) x = wTo op (cAt c) f x (2 * f + 1) := by
  unfold cAt
  rw [wL_len]
  have h1 := Int.emod_nonneg x (show (c.length : Int) ≠ 0 by omega)
  have h2 := Int.emod_lt_of_pos x (show (0 : Int) < c.length by omega)
  unfold wL
  rw [g_tb (by omega), show (((x % (c.length : Int)).toNat : Nat) : Int) = x % (c.length : Int) by omega]
  exact wTo_per f x _
theorem wL_el {op : Int → Int → Int} (ho : ∀ a b : Int, op a b = a ∨ op a b = b) {c : List Int} (h0 : 0 < c.length) {lo hi : Int} (H : ∀ v ∈ c, lo ≤ v ∧ v ≤ hi) (f : Nat) : ∀ v ∈ wL op c f, lo ≤ v ∧ v ≤ hi := fun v hv => by
  obtain ⟨i, hi, rfl⟩ := tb_mem hv
  exact wTo_bd ho (fun x => H _ (cAt_mem h0 x)) f _ _
def rcL (c : List Int) (f : Nat) : List Int := wL min (wL max c f) f
theorem rcL_len (c : List Int) (f : Nat) : (rcL c f).length = c.length := by unfold rcL; rw [wL_len, wL_len]
theorem rcL_at {c : List Int} (h0 : 0 < c.length) (f : Nat) (x : Int) : cAt (rcL c f) x = rcW (cAt c) f x := by
  unfold rcL
  rw [wL_at (by rw [wL_len]; exact h0)]
  unfold rcW dnW
  exact wTo_congr (fun y => wL_at h0 f y) f x _
theorem cAt_ext {a b : List Int} (h : a.length = b.length) (H : ∀ i : Nat, i < b.length → cAt a i = cAt b i) : a = b := by
  apply List.ext_getElem? 
  intro i
  by_cases hi : i < b.length
  · have := H i hi
    rw [cAt_self (by omega), cAt_self hi] at this
    unfold g at this
    rw [List.getD_eq_getElem?_getD, List.getD_eq_getElem?_getD, List.getElem?_eq_getElem (by omega), List.getElem?_eq_getElem hi] at this
    rw [List.getElem?_eq_getElem (by omega), List.getElem?_eq_getElem hi]
    simpa using this
  · rw [List.getElem?_eq_none (by omega), List.getElem?_eq_none (by omega)]
theorem rcL_idem {c : List Int} (h0 : 0 < c.length) (f : Nat) : rcL (rcL c f) f = rcL c f :=
  cAt_ext (by rw [rcL_len]) fun i _ => by
    rw [rcL_at (by rw [rcL_len]; exact h0), rcL_at h0]
    have : ∀ x, rcW (cAt (rcL c f)) f x = rcW (rcW (cAt c) f) f x := fun x => by
      unfold rcW dnW
      exact wTo_congr (fun y => wTo_congr (fun z => rcL_at h0 f z) f y _) f x _
    rw [this, rcW_rcW]
theorem rcL_zero {c : List Int} (h0 : 0 < c.length) : rcL c 0 = c :=
  cAt_ext (rcL_len c 0) fun i _ => by
    rw [rcL_at h0]
    have h1 := le_rcW (cAt c) 0 i
    have h2 := rcW_up (cAt c) 0 i
    have h3 : upW (cAt c) 0 (i : Int) ≤ cAt c i := upW_le.2 fun d d0 d1 => by rw [show d = 0 by omega, Int.add_zero]; exact Int.le_refl _
    omega
theorem rcL_el {c : List Int} (h0 : 0 < c.length) {lo hi : Int} (H : ∀ v ∈ c, lo ≤ v ∧ v ≤ hi) (f : Nat) : ∀ v ∈ rcL c f, lo ≤ v ∧ v ≤ hi :=
  wL_el min_or (by rw [wL_len]; exact h0) (wL_el max_or h0 H f) f
/-- Where two cams differ. -/
def offTo (r c : List Int) : Nat → List Int
  | 0 => []
  | i + 1 => if g r i != g c i then offTo r c i ++ [((i : Nat) : Int)] else offTo r c i
theorem offTo_len (r c : List Int) : ∀ i, (offTo r c i).length ≤ i
  | 0 => Nat.le_refl _
  | i + 1 => by
    have := offTo_len r c i
    unfold offTo
    split
    · simp; omega
    · omega
theorem offTo_same (c : List Int) : ∀ i, offTo c c i = []
  | 0 => rfl
  | i + 1 => by unfold offTo; rw [offTo_same c i]; simp
/-- The widest foot. -/
def wfF (c : List Int) : Nat → Nat → Nat
  | 0, f => f
  | k + 1, f => if rcL c (f + 1) = c then wfF c k (f + 1) else f
theorem wfF_spec (c : List Int) : ∀ k f, (∀ j, j ≤ f → rcL c j = c) → f ≤ wfF c k f ∧ wfF c k f ≤ f + k ∧ ∀ j, j ≤ wfF c k f → rcL c j = c
  | 0, f, h => ⟨Nat.le_refl _, Nat.le_refl _, h⟩
  | k + 1, f, h => by
    unfold wfF
    by_cases hc : rcL c (f + 1) = c
    · rw [if_pos hc]
      have := wfF_spec c k (f + 1) fun j hj => by
        by_cases e : j = f + 1
        · rw [e]; exact hc
        · exact h j (by omega)
      exact ⟨by omega, by omega, this.2.2⟩
    · rw [if_neg hc]
      exact ⟨Nat.le_refl _, by omega, h⟩
/-! ### Lag -/
def lgTo (c : List Int) (r x : Int) : Nat → Int
  | 0 => cAt c x
  | j + 1 => max (lgTo c r x j) (cAt c (x - (j : Nat)) - r * (j : Nat))
def lgL (c : List Int) (r : Int) : List Int := tb c.length fun i => lgTo c r (i : Nat) c.length
theorem lgL_len (c : List Int) (r : Int) : (lgL c r).length = c.length := tb_len _ _
theorem lgTo_one (c : List Int) (r x : Int) : lgTo c r x 1 = cAt c x := by
  unfold lgTo lgTo
  simp
theorem lgTo_le {c : List Int} {r x m : Int} : ∀ k, lgTo c r x k ≤ m ↔ cAt c x ≤ m ∧ ∀ j, j < k → cAt c (x - (j : Nat)) - r * (j : Nat) ≤ m
  | 0 => by simp [lgTo]
  | k + 1 => by
    unfold lgTo
    constructor
    · intro H
      have h1 := (lgTo_le k).1 (show lgTo c r x k ≤ m by omega)
      refine ⟨h1.1, fun i hi => ?_⟩
      by_cases e : i = k
      · subst e; omega
      · exact h1.2 i (by omega)
    · rintro ⟨h1, h2⟩
      have h3 := (lgTo_le k).2 ⟨h1, fun i hi => h2 i (by omega)⟩
      have := h2 k (by omega)
      omega
theorem lgTo_per (c : List Int) (r x : Int) : ∀ k, lgTo c r (x % c.length) k = lgTo c r x k
  | 0 => cAt_mod c x
  | k + 1 => by
    unfold lgTo
    rw [lgTo_per c r x k]
    have := cAt_mod' c x (-(k : Nat))
    rw [show x % (c.length : Int) + -(k : Nat) = x % (c.length : Int) - (k : Nat) by omega, show x + -((k : Nat) : Int) = x - (k : Nat) by omega] at this
    rw [this]
theorem lgL_at {c : List Int} (h0 : 0 < c.length) (r x : Int) : cAt (lgL c r) x = lgTo c r x c.length := by
  unfold cAt
  rw [lgL_len]
  have h1 := Int.emod_nonneg x (show (c.length : Int) ≠ 0 by omega)
  have h2 := Int.emod_lt_of_pos x (show (0 : Int) < c.length by omega)
  unfold lgL
  rw [g_tb (by omega), show (((x % (c.length : Int)).toNat : Nat) : Int) = x % (c.length : Int) by omega]
  exact lgTo_per c r x _
theorem lgTo_bd {c : List Int} (h0 : 0 < c.length) {r lo hi : Int} (hr : 0 ≤ r) (H : ∀ v ∈ c, lo ≤ v ∧ v ≤ hi) (x : Int) (k : Nat) : lo ≤ lgTo c r x k ∧ lgTo c r x k ≤ hi := by
  have h1 := (lgTo_le (c := c) (r := r) (x := x) (m := lgTo c r x k) k).1 (Int.le_refl _)
  have hx := H _ (cAt_mem h0 x)
  refine ⟨by omega, (lgTo_le k).2 ⟨hx.2, fun j _ => ?_⟩⟩
  have := H _ (cAt_mem h0 (x - (j : Nat)))
  have := Int.mul_nonneg hr (show (0 : Int) ≤ (j : Nat) by omega)
  omega
theorem lgL_el {c : List Int} (h0 : 0 < c.length) {r lo hi : Int} (hr : 0 ≤ r) (H : ∀ v ∈ c, lo ≤ v ∧ v ≤ hi) : ∀ v ∈ lgL c r, lo ≤ v ∧ v ≤ hi := fun v hv => by
  obtain ⟨i, hi, rfl⟩ := tb_mem hv
  exact lgTo_bd h0 hr H _ _
/-- The least rate. -/
def lrV (c : List Int) : Int := max 1 (-(mnL (chgL c)))
theorem chgL_mem {c : List Int} {v : Int} (h : v ∈ chgL c) : ∃ x : Int, v = cAt c (x + 1) - cAt c x := by
  simp only [chgL, List.mem_map, List.mem_range] at h
  obtain ⟨i, _, rfl⟩ := h
  exact ⟨(i : Nat), rfl⟩
theorem mnL_ge {l : List Int} {v : Int} (h : v ∈ l) : mnL l ≤ v := (mnF_ge l _).2 v h
theorem mnL_mem {l : List Int} (h : l ≠ []) : mnL l ∈ l := by
  have key : ∀ (l : List Int) (a : Int), mnF l a = a ∨ mnF l a ∈ l := by
    intro l
    induction l with
    | nil => intro a; exact .inl rfl
    | cons v l ih =>
      intro a
      have e : mnF (v :: l) a = mnF l (min a v) := rfl
      rw [e]
      rcases ih (min a v) with h | h
      · rw [h]
        by_cases hm : a ≤ v
        · left; omega
        · right; rw [show min a v = v by omega]; simp
      · right; exact List.mem_cons_of_mem _ h
  unfold mnL
  rcases key l (l.headD 0) with e | e
  · rw [e]
    obtain ⟨v, r, rfl⟩ := List.exists_cons_of_ne_nil h
    simp
  · exact e
theorem chg_mem {c : List Int} (h0 : 0 < c.length) (x : Int) : cAt c (x + 1) - cAt c x ∈ chgL c := (chgL_at h0 x).mem
theorem chgL_ne {c : List Int} (h0 : 0 < c.length) : chgL c ≠ [] := fun e => by
  have h : c.length = 0 := by rw [← chgL_len c, e]; rfl
  omega
theorem lr_fall {c : List Int} (h0 : 0 < c.length) (x : Int) : cAt c x - cAt c (x + 1) ≤ lrV c := by
  have := mnL_ge (chg_mem h0 x)
  unfold lrV
  omega
theorem lr_le {c : List Int} (h0 : 0 < c.length) {m : Int} (h1 : 1 ≤ m) (H : ∀ x, cAt c x - cAt c (x + 1) ≤ m) : lrV c ≤ m := by
  have hne : chgL c ≠ [] := chgL_ne h0
  obtain ⟨x, e⟩ := chgL_mem (mnL_mem hne)
  have := H x
  unfold lrV
  omega
theorem lr_is {c : List Int} (h0 : 0 < c.length) (h : 1 < lrV c) : ∃ x, cAt c x - cAt c (x + 1) = lrV c := by
  have hne : chgL c ≠ [] := chgL_ne h0
  obtain ⟨x, e⟩ := chgL_mem (mnL_mem hne)
  refine ⟨x, ?_⟩
  unfold lrV at h ⊢
  omega
theorem lr_bd {c : List Int} (h0 : 0 < c.length) {hi : Int} (hh : 1 ≤ hi) (H : ∀ v ∈ c, 0 ≤ v ∧ v ≤ hi) : 1 ≤ lrV c ∧ lrV c ≤ hi :=
  ⟨by unfold lrV; omega, lr_le h0 hh fun x => by
    have := H _ (cAt_mem h0 x)
    have := H _ (cAt_mem h0 (x + 1))
    omega⟩
theorem fall_far {c : List Int} (h0 : 0 < c.length) (x : Int) : ∀ j : Nat, cAt c (x - (j : Nat)) - lrV c * (j : Nat) ≤ cAt c x
  | 0 => by simp
  | j + 1 => by
    have h1 := fall_far h0 x j
    have h2 := lr_fall h0 (x - ((j + 1 : Nat) : Int))
    rw [show x - ((j + 1 : Nat) : Int) + 1 = x - (j : Nat) by omega] at h2
    have h3 : lrV c * ((j + 1 : Nat) : Int) = lrV c * (j : Nat) + lrV c := by rw [Int.natCast_add, Int.mul_add]; simp
    rw [h3]
    omega
theorem lg_same {c : List Int} (h0 : 0 < c.length) : lgL c (lrV c) = c :=
  cAt_ext (lgL_len _ _) fun i _ => by
    rw [lgL_at h0]
    have h1 := (lgTo_le (c := c) (r := lrV c) (x := (i : Nat)) (m := lgTo c (lrV c) (i : Nat) c.length) c.length).1 (Int.le_refl _)
    have h2 : lgTo c (lrV c) (i : Nat) c.length ≤ cAt c (i : Nat) := (lgTo_le _).2 ⟨Int.le_refl _, fun j _ => fall_far h0 _ j⟩
    omega
theorem le_lg {c : List Int} (h0 : 0 < c.length) (r x : Int) : cAt c x ≤ cAt (lgL c r) x := by
  rw [lgL_at h0]
  exact ((lgTo_le (c := c) (r := r) (x := x) (m := lgTo c r x c.length) c.length).1 (Int.le_refl _)).1
theorem lg_slow {c : List Int} (h2 : 2 ≤ c.length) {r : Int} (h : ∃ x, cAt c x - cAt c (x + 1) > r) : lgL c r ≠ c := fun e => by
  obtain ⟨x, hx⟩ := h
  have h1 := lgL_at (c := c) (by omega) r (x + 1)
  rw [e] at h1
  have h3 := ((lgTo_le (c := c) (r := r) (x := x + 1) (m := lgTo c r (x + 1) c.length) c.length).1 (Int.le_refl _)).2 1 (by omega)
  rw [show x + 1 - ((1 : Nat) : Int) = x by omega, show r * ((1 : Nat) : Int) = r by omega] at h3
  omega
theorem lg_fall {c : List Int} (h0 : 0 < c.length) {r : Int} (hr : 0 ≤ r) (x : Int) : cAt (lgL c r) x - cAt (lgL c r) (x + 1) ≤ r := by
  rw [lgL_at h0, lgL_at h0]
  have hU := (lgTo_le (c := c) (r := r) (x := x + 1) (m := lgTo c r (x + 1) c.length) c.length).1 (Int.le_refl _)
  have : lgTo c r x c.length ≤ lgTo c r (x + 1) c.length + r := by
    have key : ∀ j : Nat, j < c.length → cAt c (x - (j : Nat)) - r * (j : Nat) ≤ lgTo c r (x + 1) c.length + r := fun j hj => by
      by_cases e : j + 1 < c.length
      · have := hU.2 (j + 1) e
        rw [show x + 1 - ((j + 1 : Nat) : Int) = x - (j : Nat) by omega] at this
        have h3 : r * ((j + 1 : Nat) : Int) = r * (j : Nat) + r := by rw [Int.natCast_add, Int.mul_add]; simp
        omega
      · have h1 := hU.1
        have h2 := cAt_add c (x - (j : Nat))
        rw [show x - (j : Nat) + (c.length : Int) = x + 1 by omega] at h2
        have := Int.mul_nonneg hr (show (0 : Int) ≤ (j : Nat) by omega)
        omega
    refine (lgTo_le _).2 ⟨?_, key⟩
    have := key 0 h0
    simpa using this
  omega
end Go.Cams
namespace Go.Cams
open Go Go.Fw
def nxF (l : List Int) (a : Int) : Int := l.foldl (fun m v => max m (-v)) a
theorem nxF_snoc (l : List Int) (v a : Int) : nxF (l ++ [v]) a = max (nxF l a) (-v) := by simp [nxF, List.foldl_append]
theorem nxF_le : ∀ (l : List Int) (q m : Int), nxF l q ≤ m ↔ (q ≤ m ∧ ∀ v ∈ l, -v ≤ m)
  | [], q, m => by simp [nxF]
  | v :: l, q, m => by
    have e : nxF (v :: l) q = nxF l (max q (-v)) := rfl
    rw [e, nxF_le l _ m]
    simp only [List.mem_cons, forall_eq_or_imp]
    constructor
    · rintro ⟨h1, h2⟩; exact ⟨by omega, by omega, h2⟩
    · rintro ⟨h1, h2, h3⟩; exact ⟨by omega, h3⟩
theorem lr_nx {c : List Int} (h0 : 0 < c.length) : nxF (chgL c) 1 = lrV c := by
  apply Int.le_antisymm
  · rw [nxF_le]
    unfold lrV
    exact ⟨by omega, fun v hv => by have := mnL_ge hv; omega⟩
  · have h := (nxF_le (chgL c) 1 (nxF (chgL c) 1)).1 (Int.le_refl _)
    have := h.2 _ (mnL_mem (chgL_ne h0))
    unfold lrV
    omega
end Go.Cams

/- Cams that are made of cams, and runs, in plain terms. -/
namespace Go.Cams
open Go Go.Fw
theorem cAt_idx {l : List Int} {i : Nat} (h : i < l.length) : At l (i : Int) (cAt l (i : Nat)) := by
  have := g_idx (l := l) (i := (i : Int)) (by omega) (by omega)
  rw [Int.toNat_natCast] at this
  rw [cAt_self h]; exact this
theorem tb_cAt (l : List Int) : tb l.length (fun i => cAt l (i : Nat)) = l := by
  rw [tb_self (l := l) rfl]
  rw [tb_len]
  exact tb_ext fun j hj => by rw [← tb_self (l := l) rfl]; exact cAt_self hj
theorem cAt_tb {n : Nat} {G : Nat → Int} {i : Nat} (h : i < n) : cAt (tb n G) (i : Nat) = G i := by rw [cAt_self (by rw [tb_len]; exact h), g_tb h]
theorem nr_mul (x z : Int) {t : Int} (ht : 0 < t) : nr (x * t + z) t = x + nr z t := by
  unfold nr
  rw [show 2 * (x * t + z) + t = (2 * z + t) + x * (2 * t) by grind, Int.add_mul_ediv_right _ _ (by omega)]
  omega
theorem nrz {t : Int} (ht : 0 < t) : nr 0 t = 0 := by
  unfold nr
  rw [Int.mul_zero, Int.zero_add, Int.ediv_eq_zero_of_lt (by omega) (by omega)]
theorem nrf (x : Int) {t : Int} (ht : 0 < t) : nr (x * t) t = x := by
  have := nr_mul x 0 ht
  rw [Int.add_zero, nrz ht, Int.add_zero] at this
  exact this
theorem nr_half (x : Int) : nr (x * 2) 2 = x := nrf x (by omega)
theorem nr_one (x : Int) : nr x 1 = x := by have := nrf x (t := 1) (by omega); rwa [Int.mul_one] at this
theorem dm {t r : Int} (q : Int) (r0 : 0 ≤ r) (r1 : r < t) : (t * q + r) / t = q ∧ (t * q + r) % t = r := by
  rw [Int.add_comm]
  constructor
  · rw [Int.add_mul_ediv_left _ _ (by omega), Int.ediv_eq_zero_of_lt r0 r1, Int.zero_add]
  · rw [Int.add_mul_emod_self_left, Int.emod_eq_of_lt r0 r1]
theorem nrs {d k t : Int} (ht : 1 ≤ t) : siz (nr (d * (k + 1)) t - nr (d * k) t) ≤ siz d := by
  unfold nr
  obtain ⟨A, hA⟩ : ∃ A, A = 2 * (d * k) + t := ⟨_, rfl⟩
  rw [show 2 * (d * (k + 1)) + t = A + 2 * d by rw [hA]; grind, ← hA]
  have e : ∀ z : Int, (A + z * (2 * t)) / (2 * t) = A / (2 * t) + z := fun z => Int.add_mul_ediv_right _ _ (by omega)
  by_cases h : 0 ≤ d
  · have h1 : A / (2 * t) ≤ (A + 2 * d) / (2 * t) := Int.ediv_le_ediv (by omega) (by omega)
    have h3 := Int.mul_nonneg h (show 0 ≤ t - 1 by omega)
    have h2 : (A + 2 * d) / (2 * t) ≤ (A + d * (2 * t)) / (2 * t) := Int.ediv_le_ediv (by omega) (by
      have : d * (2 * t) = 2 * (d * (t - 1)) + 2 * d := by grind
      omega)
    rw [e] at h2
    unfold siz
    split <;> split <;> omega
  · have h1 : (A + 2 * d) / (2 * t) ≤ A / (2 * t) := Int.ediv_le_ediv (by omega) (by omega)
    have h3 := Int.mul_nonneg (show 0 ≤ -d by omega) (show 0 ≤ t - 1 by omega)
    have h2 : (A + d * (2 * t)) / (2 * t) ≤ (A + 2 * d) / (2 * t) := Int.ediv_le_ediv (by omega) (by
      have : d * (2 * t) = 2 * d - 2 * (-d * (t - 1)) := by grind
      omega)
    rw [e] at h2
    unfold siz
    split <;> split <;> omega
theorem cAt_mul (c : List Int) (x q : Int) : cAt c (x + c.length * q) = cAt c x := by
  unfold cAt
  rw [Int.add_mul_emod_self_left]
def adL (a b : List Int) : List Int := tb a.length fun i => cAt a (i : Nat) + cAt b (i : Nat)
def blL (a b : List Int) (s : Int) : List Int := tb a.length fun i => nr (cAt a (i : Nat) * (100 - s) + cAt b (i : Nat) * s) 100
def rsL (c : List Int) (y : Int) : List Int := tb c.length fun i => cAt c (i : Nat) + y
def scL (c : List Int) (t o : Int) : List Int := tb c.length fun i => nr (cAt c (i : Nat) * t) o
theorem rs_back (c : List Int) (y : Int) : rsL (rsL c y) (-y) = c := by
  have hl : (rsL c y).length = c.length := tb_len _ _
  unfold rsL at hl ⊢
  rw [hl]
  rw [← tb_cAt c]
  rw [tb_cAt c]
  conv => rhs; rw [← tb_cAt c]
  exact tb_ext fun j hj => by rw [cAt_tb hj]; omega
theorem sc_back (c : List Int) : scL (scL c 2 1) 1 2 = c := by
  have hl : (scL c 2 1).length = c.length := tb_len _ _
  unfold scL at hl ⊢
  rw [hl]
  conv => rhs; rw [← tb_cAt c]
  exact tb_ext fun j hj => by rw [cAt_tb hj, nr_one, Int.mul_one, nr_half]
theorem bl_in {x y s : Int} (s0 : 0 ≤ s) (s1 : s ≤ 100) : min x y ≤ nr (x * (100 - s) + y * s) 100 ∧ nr (x * (100 - s) + y * s) 100 ≤ max x y := by
  have a1 := Int.mul_le_mul_of_nonneg_right (show min x y ≤ x by omega) (show 0 ≤ 100 - s by omega)
  have a2 := Int.mul_le_mul_of_nonneg_right (show min x y ≤ y by omega) s0
  have b1 := Int.mul_le_mul_of_nonneg_right (show x ≤ max x y by omega) (show 0 ≤ 100 - s by omega)
  have b2 := Int.mul_le_mul_of_nonneg_right (show y ≤ max x y by omega) s0
  have e1 : min x y * (100 - s) + min x y * s = min x y * 100 := by grind
  have e2 : max x y * (100 - s) + max x y * s = max x y * 100 := by grind
  exact nr_in (by omega) (by omega) (by omega)
/-- A refined cam. -/
def rfG (a : List Int) (t x : Int) : Int := nr (cAt a (x / t) * t + (cAt a (x / t + 1) - cAt a (x / t)) * (x % t)) t
def rfL (a : List Int) (t : Nat) : List Int := tb (a.length * t) fun i => rfG a t (i : Nat)
theorem rfL_len (a : List Int) (t : Nat) : (rfL a t).length = a.length * t := tb_len _ _
theorem rfG_eq (a : List Int) {t : Int} (ht : 0 < t) (x : Int) : rfG a t x = cAt a (x / t) + nr ((cAt a (x / t + 1) - cAt a (x / t)) * (x % t)) t := nr_mul _ _ ht
theorem rfG_per (a : List Int) {t : Int} (ht : 0 < t) (x q : Int) : rfG a t (x + a.length * t * q) = rfG a t x := by
  unfold rfG
  have e : x + (a.length : Int) * t * q = x + (a.length : Int) * q * t := by grind
  rw [e, Int.add_mul_ediv_right _ _ (by omega), Int.add_mul_emod_self_right, cAt_mul, show x / t + (a.length : Int) * q + 1 = x / t + 1 + (a.length : Int) * q by omega, cAt_mul]
theorem rfL_at {a : List Int} (h0 : 0 < a.length) {t : Nat} (ht : 0 < t) (x : Int) : cAt (rfL a t) x = rfG a t x := by
  have hp : 0 < a.length * t := Nat.mul_pos h0 ht
  have hpi : ((a.length * t : Nat) : Int) = (a.length : Int) * (t : Int) := by simp
  unfold cAt
  rw [rfL_len]
  have h1 := Int.emod_nonneg x (show ((a.length * t : Nat) : Int) ≠ 0 by omega)
  have h2 := Int.emod_lt_of_pos x (show (0 : Int) < ((a.length * t : Nat) : Int) by omega)
  unfold rfL
  rw [g_tb (by omega), show (((x % ((a.length * t : Nat) : Int)).toNat : Nat) : Int) = x % ((a.length * t : Nat) : Int) by omega]
  have h3 := Int.emod_add_mul_ediv x ((a.length * t : Nat) : Int)
  have h4 := rfG_per a (t := (t : Int)) (by omega) (x % ((a.length * t : Nat) : Int)) (x / ((a.length * t : Nat) : Int))
  rw [← hpi, h3] at h4
  exact h4.symm
theorem rfG_step (a : List Int) {t : Int} (ht : 0 < t) (x : Int) : rfG a t (x + 1) - rfG a t x = nr ((cAt a (x / t + 1) - cAt a (x / t)) * (x % t + 1)) t - nr ((cAt a (x / t + 1) - cAt a (x / t)) * (x % t)) t := by
  have h1 := Int.emod_nonneg x (show t ≠ 0 by omega)
  have h2 := Int.emod_lt_of_pos x ht
  have h3 := Int.mul_ediv_add_emod x t
  obtain ⟨q, hq⟩ : ∃ q, q = x / t := ⟨_, rfl⟩
  obtain ⟨k, hk⟩ : ∃ k, k = x % t := ⟨_, rfl⟩
  rw [rfG_eq a ht, rfG_eq a ht, ← hq, ← hk]
  rw [← hq, ← hk] at h3
  rw [← hk] at h1 h2
  by_cases h : k + 1 < t
  · have := dm (t := t) (r := k + 1) q (by omega) h
    rw [show t * q + (k + 1) = x + 1 by omega] at this
    rw [this.1, this.2]
    omega
  · have := dm (t := t) (r := 0) (q + 1) (by omega) (by omega)
    have e : t * (q + 1) = t * q + t := by grind
    rw [show t * (q + 1) + 0 = x + 1 by omega] at this
    rw [this.1, this.2, Int.mul_zero, nrz ht, show k + 1 = t by omega, nrf _ ht]
    omega
theorem rf_steep {a : List Int} (h0 : 0 < a.length) {t : Nat} (ht : 0 < t) : (gr (chgL (rfL a t))).2.1 ≤ (gr (chgL a)).2.1 := by
  have hT := (gr_le (chgL a) (0, -1, 0) (gr (chgL a)).2.1).1 (Int.le_refl _)
  refine (gr_le _ _ _).2 ⟨hT.1, fun v hv => ?_⟩
  obtain ⟨x, rfl⟩ := chgL_mem hv
  rw [rfL_at h0 ht, rfL_at h0 ht, rfG_step a (by omega)]
  have h1 := nrs (d := cAt a (x / t + 1) - cAt a (x / t)) (k := x % t) (t := t) (by omega)
  have h2 := hT.2 _ (chg_mem h0 (x / t))
  omega
theorem rf_thin {a : List Int} (h0 : 0 < a.length) {t : Nat} (ht : 0 < t) : tb a.length (fun i => cAt (rfL a t) ((i : Nat) * (t : Int))) = a := by
  conv => rhs; rw [← tb_cAt a]
  refine tb_ext fun j hj => ?_
  rw [rfL_at h0 ht, rfG_eq a (by omega)]
  have := dm (t := (t : Int)) (r := 0) (j : Nat) (by omega) (by omega)
  rw [show (t : Int) * (j : Nat) + 0 = (j : Nat) * (t : Int) by rw [Int.add_zero, Int.mul_comm]] at this
  rw [this.1, this.2, Int.mul_zero, nrz (by omega), Int.add_zero]
theorem rfG_in {a : List Int} (h0 : 0 < a.length) {lo hi : Int} (H : ∀ v ∈ a, lo ≤ v ∧ v ≤ hi) {t : Int} (ht : 0 < t) (x : Int) : lo ≤ rfG a t x ∧ rfG a t x ≤ hi := by
  have h1 := Int.emod_nonneg x (show t ≠ 0 by omega)
  have h2 := Int.emod_lt_of_pos x ht
  have a1 := H _ (cAt_mem h0 (x / t))
  have a2 := H _ (cAt_mem h0 (x / t + 1))
  obtain ⟨p, hp⟩ : ∃ p, p = cAt a (x / t) := ⟨_, rfl⟩
  obtain ⟨q, hq⟩ : ∃ q, q = cAt a (x / t + 1) := ⟨_, rfl⟩
  obtain ⟨k, hk⟩ : ∃ k, k = x % t := ⟨_, rfl⟩
  unfold rfG
  rw [← hp, ← hq, ← hk]
  rw [← hp] at a1
  rw [← hq] at a2
  rw [← hk] at h1 h2
  have e : p * t + (q - p) * k = p * (t - k) + q * k := by grind
  have b1 := Int.mul_le_mul_of_nonneg_right a1.1 (show 0 ≤ t - k by omega)
  have b2 := Int.mul_le_mul_of_nonneg_right a2.1 h1
  have c1 := Int.mul_le_mul_of_nonneg_right a1.2 (show 0 ≤ t - k by omega)
  have c2 := Int.mul_le_mul_of_nonneg_right a2.2 h1
  have d1 : lo * (t - k) + lo * k = lo * t := by grind
  have d2 : hi * (t - k) + hi * k = hi * t := by grind
  exact nr_in ht (by omega) (by omega)
/-! ### Runs -/
def lenS : List Ct → Int
  | [] => 0
  | v :: r => v.2.2.1 + lenS r
theorem lenS_snoc : ∀ (l : List Ct) (v : Ct), lenS (l ++ [v]) = lenS l + v.2.2.1
  | [], v => by simp [lenS]
  | u :: l, v => by rw [List.cons_append, lenS, lenS_snoc l v, lenS]; omega
def RunOk (c : List Int) : Int → List Ct → Prop
  | _, [] => True
  | s, v :: r => v.1 = kd c s ∧ v.2.1 = s % c.length ∧ 1 ≤ v.2.2.1 ∧ (∀ k : Int, 0 ≤ k → k < v.2.2.1 → kd c (s + k) = v.1) ∧ (r ≠ [] → kd c (s + v.2.2.1) ≠ v.1) ∧ RunOk c (s + v.2.2.1) r
theorem rs_run (c : List Int) : ∀ (left : Nat) (s : Int), RunOk c s (rs c s left) ∧ lenS (rs c s left) = left := by
  intro left
  induction left using Nat.strongRecOn with
  | _ left ih =>
    intro s
    by_cases h : left = 0
    · subst h; rw [rs_zero]; exact ⟨trivial, rfl⟩
    rw [rs_pos c s (by omega)]
    obtain ⟨a1, a2, a3, a4⟩ := rl_spec (kd c) s (left := left) (by omega)
    obtain ⟨h1, h2⟩ := ih (left - rl (kd c) s left) (by omega) (s + (rl (kd c) s left : Nat))
    refine ⟨⟨rfl, rfl, by show (1 : Int) ≤ ((rl (kd c) s left : Nat) : Int); omega, fun k k0 k1 => ?_, fun hr => ?_, h1⟩, ?_⟩
    · have k1 : k < ((rl (kd c) s left : Nat) : Int) := k1
      have := a3 k.toNat (by omega)
      rwa [show ((k.toNat : Nat) : Int) = k by omega] at this
    · refine a4 (Nat.lt_of_le_of_ne a2 fun e => hr ?_)
      rw [e, Nat.sub_self, rs_zero]
    · rw [lenS, h2]
      show ((rl (kd c) s left : Nat) : Int) + _ = _
      omega
theorem kd_sub (c : List Int) (x : Int) : kd c (x - c.length) = kd c x := by
  have := kd_add c (x - c.length)
  rw [show x - (c.length : Int) + c.length = x by omega] at this
  exact this.symm
theorem runsP_run {c : List Int} (h0 : 0 < c.length) : ∃ s, RunOk c s (runsP c) ∧ lenS (runsP c) = c.length ∧ (1 < (runsP c).length → kd c (s - 1) ≠ kd c s) := by
  obtain ⟨k1, k2, k3⟩ := bk_spec c
  unfold runsP
  by_cases h : bk c = c.length
  · rw [if_pos h]
    refine ⟨0, ⟨rfl, by simp, by show (1 : Int) ≤ (c.length : Int); omega, fun k k0 k1' => ?_, fun hr => absurd rfl hr, trivial⟩, by simp [lenS], fun hl => by simp at hl⟩
    have k1' : k < (c.length : Int) := k1'
    rw [Int.zero_add]
    by_cases e : k = 0
    · rw [e]
    · have := k2 ((c.length : Int) - k - 1).toNat (by omega)
      rw [show -((((c.length : Int) - k - 1).toNat : Nat) : Int) - 1 = k - c.length by omega, kd_sub] at this
      exact this
  · rw [if_neg h]
    obtain ⟨h1, h2⟩ := rs_run c c.length (-(bk c : Int))
    refine ⟨_, h1, h2, fun _ => ?_⟩
    have h3 := k3 (by omega)
    have h4 : kd c (-(bk c : Int)) = kd c 0 := by
      by_cases e : bk c = 0
      · rw [e]; rfl
      · have := k2 (bk c - 1) (by omega)
        rwa [show -(((bk c - 1 : Nat)) : Int) - 1 = -(bk c : Int) by omega] at this
    rw [h4]
    exact h3
structure RunAt (c : List Int) (s : Int) (L : List Ct) (i : Nat) (v : Ct) : Prop where
  kind : v.1 = kd c (s + lenS (L.take i))
  start : v.2.1 = (s + lenS (L.take i)) % c.length
  one : 1 ≤ v.2.2.1
  all : ∀ k : Int, 0 ≤ k → k < v.2.2.1 → kd c (s + lenS (L.take i) + k) = v.1
  next : i + 1 < L.length → kd c (s + lenS (L.take i) + v.2.2.1) ≠ v.1
theorem RunOk.at {c : List Int} : ∀ {L : List Ct} {s : Int} {i : Nat} {v : Ct}, RunOk c s L → L[i]? = some v → RunAt c s L i v
  | [], _, _, _, _, h => by simp at h
  | u :: r, s, 0, v, ⟨h1, h2, h3, h4, h5, _⟩, h => by
    simp at h
    subst h
    have e : s + lenS ((u :: r).take 0) = s := by simp [lenS]
    refine ⟨by rw [e]; exact h1, by rw [e]; exact h2, h3, by rw [e]; exact h4, fun hl => ?_⟩
    rw [e]
    exact h5 fun e => by rw [e] at hl; simp at hl
  | u :: r, s, i + 1, v, ⟨_, _, _, _, _, h6⟩, h => by
    simp at h
    have A := RunOk.at h6 h
    have e : s + lenS ((u :: r).take (i + 1)) = s + u.2.2.1 + lenS (r.take i) := by rw [List.take_succ_cons, lenS]; omega
    exact ⟨by rw [e]; exact A.kind, by rw [e]; exact A.start, A.one, by rw [e]; exact A.all, fun hl => by rw [e]; exact A.next (by simp at hl; omega)⟩
theorem lenS_nn {c : List Int} : ∀ {L : List Ct} {s : Int}, RunOk c s L → ∀ i, 0 ≤ lenS (L.take i) ∧ lenS (L.take i) ≤ lenS L
  | [], _, _, i => by simp [lenS]
  | u :: r, s, h, 0 => by
    have := (lenS_nn h.2.2.2.2.2 r.length).2
    have h2 := (lenS_nn h.2.2.2.2.2 r.length).1
    rw [List.take_length] at h2
    have := h.2.2.1
    simp only [List.take_zero, lenS]
    omega
  | u :: r, s, h, i + 1 => by
    have := lenS_nn h.2.2.2.2.2 i
    have := h.2.2.1
    rw [List.take_succ_cons, lenS, lenS]
    omega
theorem run_next {c : List Int} (h0 : 0 < c.length) {L : List Ct} {s : Int} (R : RunOk c s L) (hs : lenS L = c.length) (hk : 1 < L.length → kd c (s - 1) ≠ kd c s) {i : Nat} {v w : Ct} (hl : 1 < L.length) (hi : i < L.length) (hv : L[i]? = some v) (hw : L[(i + 1) % L.length]? = some w) : w.1 ≠ v.1 ∧ w.2.1 = (v.2.1 + v.2.2.1) % c.length := by
  have A := R.at hv
  have B := R.at hw
  have hlen : lenS (L.take (i + 1)) = lenS (L.take i) + v.2.2.1 := by rw [List.take_add_one, hv, Option.toList_some, lenS_snoc]
  by_cases h : i + 1 < L.length
  · rw [Nat.mod_eq_of_lt h] at B
    have e : s + lenS (L.take (i + 1)) = s + lenS (L.take i) + v.2.2.1 := by omega
    refine ⟨?_, ?_⟩
    · rw [B.kind, e]; exact A.next h
    · rw [B.start, A.start, e, Int.emod_add_emod]
  · have hi2 : i + 1 = L.length := by omega
    rw [hi2, Nat.mod_self] at B
    rw [hi2, List.take_length] at hlen
    have e0 : s + lenS (L.take 0) = s := by simp [lenS]
    have e1 : s + lenS (L.take i) + v.2.2.1 = s + c.length := by omega
    refine ⟨?_, ?_⟩
    · have h1 := A.all (v.2.2.1 - 1) (by have := A.one; omega) (by omega)
      rw [show s + lenS (L.take i) + (v.2.2.1 - 1) = s - 1 + c.length by omega, kd_add] at h1
      rw [B.kind, e0, ← h1]
      exact fun e => hk hl e.symm
    · rw [B.start, A.start, e0, Int.emod_add_emod, e1, Int.add_emod_right]
theorem kd_pos (c : List Int) (x : Int) : decide (cAt c (x + 1) - cAt c x > 0) = (kd c x == 1) := by
  unfold kd kdOf
  split
  · rename_i h; rw [decide_eq_true h]; rfl
  · rename_i h
    rw [decide_eq_false h]
    split <;> rfl
theorem kd_neg (c : List Int) (x : Int) : decide (cAt c (x + 1) - cAt c x < 0) = (kd c x == -1) := by
  unfold kd kdOf
  split
  · rename_i h; rw [decide_eq_false (by omega)]; rfl
  · split
    · rename_i h; rw [decide_eq_true h]; rfl
    · rename_i h; rw [decide_eq_false h]; rfl
end Go.Cams

/- Plans of cuts leave what a cutter leaves at best, in plain terms. -/
namespace Go.Cams
open Go Go.Fw
theorem la_spec (t : List Int) (above layer w : Int) : ∀ (s : Nat) {o p : List Ct}, la t above layer w s o = some p →
    (∀ v ∈ o, v ∈ p) ∧ (∀ v ∈ p, v ∈ o ∨ ∃ u : Nat, u < s ∧ g t u < above ∧ v = ((u : Int), max layer (g t u), w, ())) ∧ (∀ u : Nat, u < s → g t u < above → ((u : Int), max layer (g t u), w, ()) ∈ p)
  | 0, o, p, h => by
    simp only [la, Option.some.injEq] at h
    subst h
    exact ⟨fun _ h => h, fun _ h => .inl h, fun u hu => by omega⟩
  | s + 1, o, p, h => by
    simp only [la] at h
    cases hl : la t above layer w s o with
    | none => rw [hl] at h; cases h
    | some q =>
      obtain ⟨h1, h2, h3⟩ := la_spec t above layer w s hl
      rw [hl] at h
      simp only [Option.bind_some] at h
      split at h
      · rename_i hge
        cases h
        exact ⟨h1, fun v hv => (h2 v hv).imp id fun ⟨u, a, b⟩ => ⟨u, by omega, b⟩, fun u hu ha => by
          by_cases e : u = s
          · subst e; omega
          · exact h3 u (by omega) ha⟩
      · rename_i hlt
        split at h
        · cases h
        · cases h
          refine ⟨fun v hv => List.mem_append_left _ (h1 v hv), fun v hv => ?_, fun u hu ha => ?_⟩
          · rcases List.mem_append.1 hv with hv | hv
            · exact (h2 v hv).imp id fun ⟨u, a, b⟩ => ⟨u, by omega, b⟩
            · simp at hv
              exact .inr ⟨s, by omega, by omega, hv⟩
          · by_cases e : u = s
            · subst e; exact List.mem_append_right _ (by simp)
            · exact List.mem_append_left _ (h3 u (by omega) ha)
/-- A cut of a plan. -/
def PlCut (t : List Int) (B w : Int) (v : Ct) : Prop := ∃ u : Nat, u < t.length ∧ v.1 = (u : Int) ∧ g t u ≤ v.2.1 ∧ v.2.1 ≤ B ∧ v.2.2.1 = w
theorem pl_spec {t : List Int} {deep w B : Int} (hd : 1 ≤ deep) (hB : 0 ≤ B) (ht : ∀ v ∈ t, 0 ≤ v ∧ v ≤ B) : ∀ (f : Nat) {above : Int} {o L : List Ct}, above ≤ B → pl t deep w f above o = (L, 0, ()) → (∀ v ∈ o, PlCut t B w v) → (∀ u : Nat, u < t.length → above ≤ g t u → ((u : Int), g t u, w, ()) ∈ o) →
    (∀ v ∈ L, PlCut t B w v) ∧ ∀ u : Nat, u < t.length → ((u : Int), g t u, w, ()) ∈ L
  | 0, above, o, L, _, h, _, _ => by
    have h3 : (3 : Int) = 0 := congrArg (fun x => x.2.1) h
    omega
  | f + 1, above, o, L, ha, h, ho, hD => by
    unfold pl at h
    cases hl : la t above (max (above - deep) 0) w t.length o with
    | none =>
      rw [hl] at h
      have h3 : (3 : Int) = 0 := congrArg (fun x => x.2.1) h
      omega
    | some p =>
      obtain ⟨h1, h2, h3⟩ := la_spec t above _ w t.length hl
      rw [hl] at h
      simp only at h
      have hp : ∀ v ∈ p, PlCut t B w v := fun v hv => by
        rcases h2 v hv with h | ⟨u, a, b, rfl⟩
        · exact ho v h
        · have := ht _ (g_mem (l := t) (i := u) a)
          exact ⟨u, a, rfl, by show g t u ≤ max _ (g t u); omega, by show max _ (g t u) ≤ B; omega, rfl⟩
      have hD' : ∀ u : Nat, u < t.length → max (above - deep) 0 ≤ g t u → ((u : Int), g t u, w, ()) ∈ p := fun u hu hm => by
        by_cases hge : above ≤ g t u
        · exact h1 _ (hD u hu hge)
        · have := h3 u hu (by omega)
          rwa [show max (max (above - deep) 0) (g t u) = g t u by omega] at this
      split at h
      · rename_i hmn
        cases h
        refine ⟨hp, fun u hu => hD' u hu ?_⟩
        have := mnL_ge (g_mem (l := t) (i := u) hu)
        omega
      · exact pl_spec hd hB ht f (by omega) h hp hD'
theorem cutTo_none (k : List Int) (s tp : Int) {o : List Int} : ∀ i, 0 ≤ (cutTo k s tp o i).2 ∧ ((cutTo k s tp o i).2 = 0 → (cutTo k s tp o i).1 = o)
  | 0 => ⟨Int.le_refl _, fun _ => rfl⟩
  | i + 1 => by
    obtain ⟨h1, h2⟩ := cutTo_none k s tp (o := o) i
    unfold cutTo
    split
    · rename_i hgt
      simp only
      exact ⟨by omega, fun h => by omega⟩
    · exact ⟨h1, h2⟩
/-- Cuts of one cutter alone. -/
structure OneK (m : Nat) (L : List Ct) : Prop where
  l : (L.length : Int) ≤ 400
  el : ∀ v ∈ L, (0 ≤ v.1 ∧ v.1 < (m : Int)) ∧ (0 ≤ v.2.1 ∧ v.2.1 ≤ 10000) ∧ v.2.2.1 = 0
theorem OneK.rng {m : Nat} {L : List Ct} (h : OneK m L) (hm : m ≤ 360) : RngC L := ⟨by have := h.l; omega, fun v hv => by have := h.el v hv; omega⟩
theorem OneK.cuts {m : Nat} {L : List Ct} (h : OneK m L) (hm : m ≤ 360) {k : List Int} (hk : okK k = true) : okCuts L [k] = true := by
  have hr := h.rng hm
  simp only [okCuts, okCt, Bool.and_eq_true, inR_iff, decide_eq_true_eq, List.all_eq_true]
  refine ⟨⟨by simp, by simp [okKs, hk]⟩, h.l, fun v hv => ?_⟩
  have := h.el v hv
  simp only [ctOk, Bool.and_eq_true, inR_iff]
  rw [hr.i1 hv, hr.i2 hv, hr.i3 hv, wrap_id (by simp) (by simp)]
  simp only [List.length_cons, List.length_nil]
  omega
theorem OneK.on {m : Nat} {L : List Ct} (h : OneK m L) (hm : m ≤ 360) : onCt L (m : Int) = true := by
  have hr := h.rng hm
  simp only [onCt, List.all_eq_true]
  intro v hv
  have := h.el v hv
  rw [hr.i1 hv]
  simp
  omega
theorem OneK.code {c : List Int} {L : List Ct} (h : OneK c.length L) (ok : okC c = true) {k : List Int} (hk : okK k = true) : gvCode c [k] L = 0 := by
  have := okC_len ok
  unfold gvCode
  rw [if_pos ok, if_pos (h.cuts (by omega) hk), if_pos (h.on (by omega))]
theorem OneK.toL {m : Nat} {L : List Ct} (h : OneK m L) (m0 : 0 < m) (hm : m ≤ 360) {k : List Int} (hk : okK k = true) : GoodL m [k] L :=
  ⟨m0, by omega, by simp [okKs, hk], by simp, h.l, fun v hv => by have := h.el v hv; simp; omega⟩
theorem kOf_one {k : List Int} {v : Ct} (h : v.2.2.1 = 0) : kOf [k] v = k := by unfold kOf; rw [h]; rfl
theorem doF_el {m : Nat} {k : List Int} {o : List Int} (m0 : 0 < m) (ho : o.length = m) (p : Nat) (hp : p < m) : ∀ (L : List Ct), (∀ v ∈ L, v.2.2.1 = 0) →
    (doF [k] L o).1.length = m ∧ g (doF [k] L o).1 p ≤ g o p ∧ (∀ v ∈ L, ∀ j, j < k.length → place k v.1 m j = p → g (doF [k] L o).1 p ≤ v.2.1 + g k j) ∧ (g (doF [k] L o).1 p = g o p ∨ ∃ v ∈ L, ∃ j, j < k.length ∧ place k v.1 m j = p ∧ g (doF [k] L o).1 p = v.2.1 + g k j) := by
  intro L
  have key : ∀ n, ∀ L : List Ct, L.length = n → (∀ v ∈ L, v.2.2.1 = 0) →
    (doF [k] L o).1.length = m ∧ g (doF [k] L o).1 p ≤ g o p ∧ (∀ v ∈ L, ∀ j, j < k.length → place k v.1 m j = p → g (doF [k] L o).1 p ≤ v.2.1 + g k j) ∧ (g (doF [k] L o).1 p = g o p ∨ ∃ v ∈ L, ∃ j, j < k.length ∧ place k v.1 m j = p ∧ g (doF [k] L o).1 p = v.2.1 + g k j) := by
    intro n
    induction n with
    | zero =>
      intro L hL _
      have : L = [] := List.length_eq_zero_iff.1 hL
      subst this
      exact ⟨ho, Int.le_refl _, fun v hv => (by cases hv), .inl rfl⟩
    | succ n ih =>
      intro L hL h0
      obtain ⟨M, v, rfl⟩ := last_split (L := L) (by omega)
      obtain ⟨l1, h1, h2, h3⟩ := ih M (by simp at hL; omega) fun u hu => h0 u (by simp [hu])
      rw [doF_snoc]
      have hk : kOf [k] v = k := kOf_one (h0 v (by simp))
      unfold cut1
      rw [hk]
      obtain ⟨c1, c2, c3⟩ := cutTo_el k v.1 v.2.1 (o := (doF [k] M o).1) (by omega) p (by omega) k.length
      rw [l1] at c2 c3
      refine ⟨by rw [cutTo_len]; exact l1, by simp only; omega, fun u hu j hj hpj => ?_, ?_⟩
      · rcases List.mem_append.1 hu with hu | hu
        · have := h2 u hu j hj hpj
          simp only
          omega
        · simp at hu
          subst hu
          exact c2 j hj hpj
      · rcases c3 with c3 | ⟨j, a, b, d⟩
        · simp only [c3]
          exact h3.imp id fun ⟨u, hu, x⟩ => ⟨u, by simp [hu], x⟩
        · exact .inr ⟨v, by simp, j, a, b, d⟩
  exact key _ L rfl
theorem tip_top {c k : List Int} (hr : Rng c) (ok : okC c = true) (G : GoodK k) (s : Int) : 0 ≤ tip c k s ∧ tip c k s ≤ mxL c := by
  have hl := okC_len ok
  have hC := okC_el ok hr
  have hb := mxL_bd hr ok
  refine ⟨(tipTo_bd (by omega) hC G.el s k.length (Nat.le_refl _)).1, tipTo_le c k s hb.1 k.length fun u hu => ?_⟩
  have h1 : cAt c (s + u - half k) ≤ mxL c := (mxF_ge c _).2 _ (cAt_mem (by omega) _)
  have := (G.el u hu).1
  omega
/-- What a plan makes of a flat blank. -/
theorem plan_left {c k : List Int} (hr : Rng c) (ok : okC c = true) (G : GoodK k) {high : Int} (hh : mxL c < high) (h1 : high ≤ 10000) {L : List Ct} (hL : ∀ v ∈ L, PlCut (tipsL c k c.length) high 0 v) (hT : ∀ u : Nat, u < c.length → ((u : Int), g (tipsL c k c.length) u, 0, ()) ∈ L) :
    (doF [k] L (List.replicate c.length high)).1 = leftL c k := by
  have hl := okC_len ok
  have hC := okC_el ok hr
  have h0 : 0 < c.length := by omega
  have hfl : (List.replicate c.length high).length = c.length := by simp
  have hz : ∀ v ∈ L, v.2.2.1 = 0 := fun v hv => by obtain ⟨u, _, _, _, _, e⟩ := hL v hv; exact e
  have hlen := (doF_el (k := k) (o := List.replicate c.length high) h0 hfl 0 h0 L hz).1
  apply List.ext_getElem?
  intro p
  by_cases hp : p < c.length
  · obtain ⟨_, a1, a2, a3⟩ := doF_el (k := k) (o := List.replicate c.length high) h0 hfl p hp L hz
    obtain ⟨b1, b2, b3⟩ := leftTo_el k h0 p hp c.length
    rw [g_flat _ _ hp] at a1 a3
    have hlp : g (leftTo c k c.length) p ≤ tip c k (p : Nat) := by
      rw [left_eq h0 hC G p hp]
      exact (lfTo_el c k (p : Nat) k.length).1
    have htp := tip_top hr ok G (p : Nat)
    have e : g (doF [k] L (List.replicate c.length high)).1 p = g (leftTo c k c.length) p := by
      apply Int.le_antisymm
      · rcases b3 with b3 | ⟨u, j, hu, hj, hpl, b3⟩
        · omega
        · have := a2 _ (hT u hu) j hj hpl
          rw [g_tips c k hu] at this
          rw [b3]; exact this
      · rcases a3 with a3 | ⟨v, hv, j, hj, hpl, a3⟩
        · omega
        · obtain ⟨u, hu, e1, e2, _, _⟩ := hL v hv
          rw [tipsL_len] at hu
          rw [e1] at hpl
          have := b2 u hu j hj hpl
          rw [g_tips c k hu] at e2
          omega
    unfold leftL
    have l2 := leftTo_len c k c.length
    unfold g at e
    rw [List.getD_eq_getElem?_getD, List.getD_eq_getElem?_getD, List.getElem?_eq_getElem (by omega), List.getElem?_eq_getElem (by omega)] at e
    rw [List.getElem?_eq_getElem (by omega), List.getElem?_eq_getElem (by omega)]
    simpa using e
  · rw [List.getElem?_eq_none (by omega), List.getElem?_eq_none (by rw [leftL_len]; omega)]
theorem left_low {c k : List Int} (hr : Rng c) (ok : okC c = true) (G : GoodK k) {p : Nat} (hp : p < c.length) : g (leftL c k) p ≤ mxL c := by
  have hC := okC_el ok hr
  have h1 := leftL_g (by omega) hC G hp
  have h2 := (lfTo_el c k (p : Nat) k.length).1
  have h3 := tip_top hr ok G (p : Nat)
  unfold lf at h1
  omega
theorem notOver_self (l : List Int) : notOver l l = true := by
  unfold notOver
  rw [allTo_iff]
  intro i _
  simp
theorem fi_none {α : Type} {p : α → Bool} {l : List α} (h : ∀ v ∈ l, p v = false) : fi p l 0 < 0 := by
  have := fi_any p l 0 (Int.le_refl _)
  rw [List.any_eq_false.2 fun v hv => by simp [h v hv]] at this
  have := of_decide_eq_false this
  omega
/-! ### Cuts without those that take nothing -/
def shTo (H : List Int) (L : List Ct) : Nat → List Ct
  | 0 => []
  | i + 1 => if H.any (fun v => v == (i : Int)) = true then shTo H L i else match L[i]? with | some v => shTo H L i ++ [v] | none => shTo H L i
theorem shTo_sub (H : List Int) (L : List Ct) : ∀ i, (shTo H L i).length ≤ i ∧ ∀ v ∈ shTo H L i, v ∈ L
  | 0 => ⟨Nat.le_refl _, fun v hv => (by cases hv)⟩
  | i + 1 => by
    obtain ⟨h1, h2⟩ := shTo_sub H L i
    unfold shTo
    split
    · exact ⟨by omega, h2⟩
    · split
      · rename_i v hv
        refine ⟨by simp; omega, fun u hu => ?_⟩
        rcases List.mem_append.1 hu with hu | hu
        · exact h2 u hu
        · simp at hu; rw [hu]; exact List.mem_of_getElem? hv
      · exact ⟨by omega, h2⟩
theorem idF_do (K : List (List Int)) (o : List Int) : ∀ (l : List Ct), (idF K l o).1 = (doF K l o).1 := by
  intro l
  have key : ∀ n, ∀ l : List Ct, l.length = n → (idF K l o).1 = (doF K l o).1 := by
    intro n
    induction n with
    | zero =>
      intro l hl
      have : l = [] := List.length_eq_zero_iff.1 hl
      subst this; rfl
    | succ n ih =>
      intro l hl
      obtain ⟨M, v, rfl⟩ := last_split (L := l) (by omega)
      rw [idF_snoc, doF_snoc]
      unfold idS
      rw [ih M (by simp at hl; omega)]
  exact key _ l rfl
theorem idF_cnt (K : List (List Int)) (o : List Int) (L : List Ct) : ∀ i, i ≤ L.length → (idF K (L.take i) o).2.2 = (i : Int) ∧ ∀ v ∈ (idF K (L.take i) o).2.1, v < (i : Int)
  | 0, _ => by simp [idF]
  | i + 1, h => by
    obtain ⟨h1, h2⟩ := idF_cnt K o L i (by omega)
    have e : L.take (i + 1) = L.take i ++ [L[i]] := by rw [List.take_add_one, List.getElem?_eq_getElem (by omega)]; rfl
    rw [e, idF_snoc]
    unfold idS
    simp only
    refine ⟨by omega, fun v hv => ?_⟩
    split at hv
    · rcases List.mem_append.1 hv with hv | hv
      · have := h2 v hv; omega
      · simp at hv; omega
    · have := h2 v hv; omega
theorem idF_has (K : List (List Int)) (o : List Int) (L : List Ct) {i : Nat} {v : Ct} (hv : L[i]? = some v) : ∀ m, i < m → m ≤ L.length → (idF K (L.take m) o).2.1.any (fun u => u == (i : Int)) = decide ((cut1 K v (doF K (L.take i) o).1).2 = 0)
  | 0, h, _ => by omega
  | m + 1, h, hm => by
    have e : L.take (m + 1) = L.take m ++ [L[m]] := by rw [List.take_add_one, List.getElem?_eq_getElem (by omega)]; rfl
    obtain ⟨h1, h2⟩ := idF_cnt K o L m (by omega)
    rw [e, idF_snoc]
    unfold idS
    simp only
    by_cases him : i = m
    · subst him
      have ev : L[i] = v := by rw [List.getElem?_eq_getElem (by omega)] at hv; exact Option.some.inj hv
      have hno : (idF K (L.take i) o).2.1.any (fun u => u == (i : Int)) = false := List.any_eq_false.2 fun u hu => by have := h2 u hu; simp; omega
      rw [ev, idF_do]
      split
      · rename_i hz
        rw [List.any_append, hno, h1, decide_eq_true hz]
        simp
      · rename_i hz
        rw [hno, decide_eq_false hz]
    · have ih := idF_has K o L hv m (by omega) (by omega)
      split
      · rw [List.any_append, ih, h1]
        have : (([(m : Int)] : List Int).any fun u => u == (i : Int)) = false := by simp; omega
        rw [this, Bool.or_false]
      · exact ih
theorem sh_do {K : List (List Int)} {o : List Int} {L : List Ct} : ∀ i, i ≤ L.length → (doF K (shTo (idF K L o).2.1 L i) o).1 = (doF K (L.take i) o).1
  | 0, _ => rfl
  | i + 1, h => by
    have ih := sh_do (K := K) (o := o) (L := L) i (by omega)
    have hv : L[i]? = some L[i] := List.getElem?_eq_getElem (by omega)
    have hh := idF_has K o L hv L.length (by omega) (Nat.le_refl _)
    rw [List.take_length] at hh
    have e : L.take (i + 1) = L.take i ++ [L[i]] := by rw [List.take_add_one, hv]; rfl
    rw [e, doF_snoc]
    unfold shTo
    rw [hh]
    by_cases hz : (cut1 K L[i] (doF K (L.take i) o).1).2 = 0
    · rw [decide_eq_true hz, if_pos rfl, ih]
      unfold cut1 at hz ⊢
      exact ((cutTo_none _ _ _ _).2 hz).symm
    · rw [decide_eq_false hz, if_neg (by decide), hv]
      simp only
      rw [doF_snoc, ih]
end Go.Cams

/- Fillings keep within their bounds, least bounds are least, and what is reached proves it, in plain terms. -/
namespace Go.Cams
open Go Go.Fw
theorem bs_spec {P : Int → Bool} : ∀ (n : Nat) (lo hi : Int), (hi - lo).toNat ≤ n → lo ≤ hi → (∀ a b, lo ≤ a → a ≤ b → b ≤ hi → P a = true → P b = true) → P hi = true → (∀ b, lo ≤ b → b < bs P n lo hi → P b = false) ∧ P (bs P n lo hi) = true
  | 0, lo, hi, h, hl, _, ht => by
    unfold bs
    have : lo = hi := by omega
    subst this
    exact ⟨fun b h1 h2 => by omega, ht⟩
  | n + 1, lo, hi, h, hl, hm, ht => by
    unfold bs
    by_cases hlt : lo < hi
    · rw [if_pos hlt]
      by_cases hp : P ((lo + hi) / 2) = true
      · rw [if_pos hp]
        exact bs_spec n lo ((lo + hi) / 2) (by omega) (by omega) (fun a b h1 h2 h3 => hm a b h1 h2 (by omega)) hp
      · rw [if_neg hp]
        obtain ⟨h1, h2⟩ := bs_spec n ((lo + hi) / 2 + 1) hi (by omega) (by omega) (fun a b h1 h2 h3 => hm a b (by omega) h2 h3) ht
        refine ⟨fun b b0 b1 => ?_, h2⟩
        by_cases hb : (lo + hi) / 2 + 1 ≤ b
        · exact h1 b hb b1
        · cases e : P b with
          | false => rfl
          | true => exact absurd (hm b _ b0 (by omega) (by omega) e) hp
    · rw [if_neg hlt]
      have : lo = hi := by omega
      subst this
      exact ⟨fun b h1 h2 => by omega, ht⟩
theorem can_mono {q q' : Nat → Nat → Nat → Nat → Bool} (H : ∀ k x y z, q k x y z = true → q' k x y z = true) : ∀ d k x y, can q d k x y = true → can q' d k x y = true
  | 0, _, _, _, _ => rfl
  | d + 1, k, x, y, h => by
    simp only [can] at h ⊢
    obtain ⟨z, hz, h⟩ := any64.1 h
    simp only [Bool.and_eq_true] at h
    exact any64.2 ⟨z, hz, by simp [H _ _ _ _ h.1, can_mono H d (k + 1) y z h.2]⟩
theorem cq_mono {c : List Int} {f m lo a b : Int} (h : a ≤ b) (hc : cq c f m lo a = true) : cq c f m lo b = true :=
  can_mono (fun k x y z hq => by
    unfold qq sp at hq ⊢
    simp only [Bool.and_eq_true, decide_eq_true_eq] at hq ⊢
    exact ⟨⟨by omega, by omega⟩, hq.2⟩) _ _ _ _ hc
theorem can_seq {q : Nat → Nat → Nat → Nat → Bool} (H : Nat → Nat) : ∀ d k, (∀ j, k ≤ j → j < k + d → H (j + 2) < 64 ∧ q j (H j) (H (j + 1)) (H (j + 2)) = true) → can q d k (H k) (H (k + 1)) = true
  | 0, _, _ => rfl
  | d + 1, k, h => by
    simp only [can]
    have h1 := h k (Nat.le_refl _) (by omega)
    have h2 := can_seq H d (k + 1) fun j h3 h4 => h j (by omega) (by omega)
    exact any64.2 ⟨H (k + 2), h1.1, by simp [h1.2, h2]⟩
/-- The heights of a cam from two steps ahead of a stretch on. -/
def hN (c : List Int) (f lo : Int) (j : Nat) : Nat := (hgt c lo (f - 2 + j)).toNat
theorem cq_own {c : List Int} {f m lo b B : Int} (G : GoodS c f m lo B) (hh : ∀ x, 0 ≤ hgt c lo x ∧ hgt c lo x ≤ 63) (hb : ∀ k : Nat, (k : Int) < m + 2 → -b ≤ bendP c (f + (k : Nat) - 1) ∧ bendP c (f + (k : Nat) - 1) ≤ b) : cq c f m lo b = true := by
  have hm := G.hm
  have := can_seq (q := qq c f m lo b) (hN c f lo) (m.toNat + 2) 0 fun j _ hj => by
    have e : ∀ j : Nat, ((hN c f lo j : Nat) : Int) = hgt c lo (f - 2 + j) := fun j => by have := hh (f - 2 + j); unfold hN; omega
    have h0 := hh (f - 2 + ((j + 2 : Nat) : Int))
    have h1 := hb j (by omega)
    refine ⟨by unfold hN; omega, ?_⟩
    unfold qq sp al
    rw [Bool.and_eq_true, Bool.or_eq_true, decide_eq_true_iff, decide_eq_true_iff, decide_eq_true_iff, e, e, e]
    have e1 : f - 2 + ((j + 2 : Nat) : Int) = f + (j : Nat) - 1 + 1 := by omega
    have e2 : f - 2 + ((j + 1 : Nat) : Int) = f + (j : Nat) - 1 := by omega
    have e3 : f - 2 + ((j : Nat) : Int) = f + (j : Nat) - 1 - 1 := by omega
    rw [e1, e2, e3]
    unfold bendP at h1
    unfold hgt
    refine ⟨by omega, .inr ?_⟩
    rw [show f + ((j : Nat) : Int) - 1 + 1 = f + (j : Nat) by omega]
  unfold cq px py
  have e0 : hN c f lo 0 = (hgt c lo (f - 2)).toNat := by unfold hN; rw [show f - 2 + ((0 : Nat) : Int) = f - 2 by omega]
  have e1 : hN c f lo 1 = (hgt c lo (f - 1)).toNat := by unfold hN; rw [show f - 2 + ((1 : Nat) : Int) = f - 1 by omega]
  rw [e0, e1] at this
  exact this
theorem cq_top {c : List Int} {f m lo B : Int} (G : GoodS c f m lo B) : cq c f m lo 128 = true := by
  have hm := G.hm
  have hp := G.px
  have hq := G.py
  have h3 := G.h3
  have h4 := G.h4
  have := can_seq (q := qq c f m lo 128) (fun j => if j = 0 then px c f lo else if j = 1 then py c f lo else if ((j : Nat) : Int) = m + 2 then (hgt c lo (f + m)).toNat else if ((j : Nat) : Int) = m + 3 then (hgt c lo (f + m + 1)).toNat else 0) (m.toNat + 2) 0 fun j _ hj => by
    have hb : ∀ j : Nat, (if j = 0 then px c f lo else if j = 1 then py c f lo else if ((j : Nat) : Int) = m + 2 then (hgt c lo (f + m)).toNat else if ((j : Nat) : Int) = m + 3 then (hgt c lo (f + m + 1)).toNat else 0) < 64 := fun j => by
      split
      · exact hp.2
      split
      · exact hq.2
      split
      · omega
      split
      · omega
      · omega
    refine ⟨hb _, ?_⟩
    have b1 := hb j
    have b2 := hb (j + 1)
    have b3 := hb (j + 2)
    unfold qq sp al
    rw [Bool.and_eq_true, Bool.or_eq_true, decide_eq_true_iff, decide_eq_true_iff, decide_eq_true_iff]
    refine ⟨by omega, ?_⟩
    by_cases hjm : (j : Int) < m
    · exact .inl hjm
    · right
      rw [if_neg (by omega), if_neg (by omega)]
      by_cases e : (((j + 2 : Nat)) : Int) = m + 2
      · rw [if_pos e, show (j : Int) = m by omega]; omega
      · rw [if_neg e, if_pos (by omega), show f + (j : Int) = f + m + 1 by omega]; omega
  exact this
theorem lbV_spec {c : List Int} {f m lo B : Int} (G : GoodS c f m lo B) : (∀ b, 0 ≤ b → b < lbV c f m lo → cq c f m lo b = false) ∧ cq c f m lo (lbV c f m lo) = true :=
  bs_spec (P := fun b => cq c f m lo b) 128 0 128 (by decide) (by omega) (fun _ _ _ h _ => cq_mono h) (cq_top G)
/-! ### What a filling is -/
def FilOk (q : Nat → Nat → Nat → Nat → Bool) (lo : Int) (M : Nat) : Nat → Nat → Nat → List Int → Prop
  | k, x, y, [] => x < 64 ∧ y < 64 ∧ can q (M - k) k x y = true
  | k, x, y, v :: r => ∃ z : Nat, z < 64 ∧ v = lo + z ∧ q k x y z = true ∧ FilOk q lo M (k + 1) y z r
theorem fil_ok {q : Nat → Nat → Nat → Nat → Bool} {lo : Int} {M : Nat} : ∀ (d k x y : Nat), x < 64 → y < 64 → d + k ≤ M → can q (M - k) k x y = true → FilOk q lo M k x y (fil q lo M d k x y)
  | 0, k, x, y, hx, hy, _, h => ⟨hx, hy, h⟩
  | d + 1, k, x, y, hx, hy, hM, h => by
    rw [show M - k = (M - (k + 1)) + 1 by omega] at h
    obtain ⟨z1, z2, _⟩ := fstZ_some (p := fun z => q k x y z && can q (M - (k + 1)) (k + 1) y z) h
    simp only [Bool.and_eq_true] at z2
    exact ⟨_, z1, rfl, z2.1, fil_ok d (k + 1) y _ hy z1 (by omega) z2.2⟩
theorem filOk_seq {c : List Int} {f m b lo : Int} {M : Nat} : ∀ (l : List Int) (k x y : Nat), FilOk (qq c f m lo b) lo M k x y l → ∀ H : Nat → Int, H k = x → H (k + 1) = y → (∀ (i : Nat) v, l[i]? = some v → H (k + 2 + i) = v - lo) →
    (∀ i : Nat, i < l.length → -b ≤ H (k + i + 2) - 2 * H (k + i + 1) + H (k + i) ∧ H (k + i + 2) - 2 * H (k + i + 1) + H (k + i) ≤ b) ∧ ∃ x' y' : Nat, x' < 64 ∧ y' < 64 ∧ H (k + l.length) = x' ∧ H (k + l.length + 1) = y' ∧ can (qq c f m lo b) (M - (k + l.length)) (k + l.length) x' y' = true
  | [], k, x, y, ⟨hx, hy, h⟩, H, h0, h1, _ => ⟨fun i hi => (by cases hi), x, y, hx, hy, h0, h1, h⟩
  | v :: r, k, x, y, ⟨z, hz, ev, hq, h⟩, H, h0, h1, hl => by
    have hv := hl 0 v rfl
    have hH2 : H (k + 1 + 1) = (z : Int) := by rw [show k + 1 + 1 = k + 2 + 0 by omega, hv, ev]; omega
    obtain ⟨a, x', y', b1, b2, b3, b4, b5⟩ := filOk_seq r (k + 1) y z h H h1 hH2 fun i u hu => by
      have := hl (i + 1) u (by simpa using hu)
      rwa [show k + 2 + (i + 1) = k + 1 + 2 + i by omega] at this
    refine ⟨fun i hi => ?_, x', y', b1, b2, ?_, ?_, ?_⟩
    · cases i with
      | zero =>
        unfold qq sp at hq
        simp only [Bool.and_eq_true, decide_eq_true_eq] at hq
        rw [show k + 0 + 2 = k + 1 + 1 by omega, show k + 0 + 1 = k + 1 by omega, show k + 0 = k by omega, hH2, h1, h0]
        omega
      | succ i =>
        have := a i (by simp at hi; omega)
        rw [show k + 1 + i + 2 = k + (i + 1) + 2 by omega, show k + 1 + i + 1 = k + (i + 1) + 1 by omega, show k + 1 + i = k + (i + 1) by omega] at this
        exact this
    · rw [List.length_cons, show k + (r.length + 1) = k + 1 + r.length by omega]; exact b3
    · rw [List.length_cons, show k + (r.length + 1) + 1 = k + 1 + r.length + 1 by omega]; exact b4
    · rw [List.length_cons, show k + (r.length + 1) = k + 1 + r.length by omega]; exact b5
/-- Elements of a cam into which lifts are put. -/
theorem putP_at {c : List Int} (h0 : 0 < c.length) (f : Int) : ∀ (n : Nat) (l : List Int), l.length = n → n ≤ c.length → ∀ j : Nat, j < c.length → cAt (putP c f l) (f + j) = match l[j]? with | some v => wr .i16 v | none => cAt c (f + j)
  | 0, l, hl, _, j, hj => by
    have : l = [] := List.length_eq_zero_iff.1 hl
    subst this
    simp [putP]
  | n + 1, l, hl, hn, j, hj => by
    obtain ⟨M, v, rfl⟩ : ∃ M v, l = M ++ [v] := ⟨l.dropLast, l.getLast (by intro e; rw [e] at hl; simp at hl), (List.dropLast_concat_getLast _).symm⟩
    have hM : M.length = n := by simp at hl; omega
    have ih := putP_at h0 f n M hM (by omega) j hj
    have lP := putP_len M c f
    rw [putP_snoc]
    have ep : ∀ x : Int, 0 ≤ x % (c.length : Int) ∧ x % (c.length : Int) < (c.length : Int) := fun x => ⟨Int.emod_nonneg _ (by omega), Int.emod_lt_of_pos _ (by omega)⟩
    have p1 := ep (f + j)
    have p2 := ep (f + M.length)
    unfold cAt at ih ⊢
    rw [List.length_set, lP, g_set]
    rw [lP] at ih
    by_cases hjn : j = n
    · subst hjn
      rw [hM]
      rw [if_pos ⟨rfl, by omega⟩, List.getElem?_append_right (by omega), hM]
      simp
    · have hne : ¬ ((f + (M.length : Int)) % (c.length : Int)).toNat = ((f + (j : Int)) % (c.length : Int)).toNat := fun e => by
        have e2 : (f + (M.length : Int)) % (c.length : Int) = (f + (j : Int)) % (c.length : Int) := by omega
        have h5 := Int.emod_emod_of_dvd ((f + (M.length : Int)) - (f + (j : Int))) (Int.dvd_refl (c.length : Int))
        have h6 : ((f + (M.length : Int)) - (f + (j : Int))) % (c.length : Int) = 0 := Int.emod_eq_emod_iff_emod_sub_eq_zero.1 e2
        have h7 : (c.length : Int) ∣ ((f + (M.length : Int)) - (f + (j : Int))) := Int.dvd_of_emod_eq_zero h6
        obtain ⟨t, ht⟩ := h7
        have h8 : (f + (M.length : Int)) - (f + (j : Int)) = (n : Int) - (j : Int) := by omega
        rw [h8] at ht
        rcases (show t = 0 ∨ t ≥ 1 ∨ t ≤ -1 by omega) with h9 | h9 | h9
        · rw [h9, Int.mul_zero] at ht; omega
        · have := Int.mul_le_mul_of_nonneg_left h9 (show (0 : Int) ≤ c.length by omega)
          omega
        · have := Int.mul_le_mul_of_nonneg_left h9 (show (0 : Int) ≤ c.length by omega)
          omega
      rw [if_neg (fun e => hne e.1), ih]
      by_cases hjlt : j < n
      · rw [List.getElem?_append_left (by omega)]
      · rw [List.getElem?_eq_none (by omega), List.getElem?_eq_none (by simp; omega)]
theorem putP_in {c : List Int} (h0 : 0 < c.length) (f : Int) {l : List Int} (hl : l.length ≤ c.length) {j : Nat} {v : Int} (hv : l[j]? = some v) : cAt (putP c f l) (f + j) = wr .i16 v := by
  have hj := (List.getElem?_eq_some_iff.1 hv).1
  rw [putP_at h0 f l.length l rfl hl j (by omega), hv]
theorem putP_out {c : List Int} (h0 : 0 < c.length) (f : Int) {l : List Int} {j : Nat} (hj : l.length ≤ j) (hj2 : j < c.length) : cAt (putP c f l) (f + j) = cAt c (f + j) := by
  rw [putP_at h0 f l.length l rfl (by omega) j hj2, List.getElem?_eq_none hj]
theorem putP_ahead {c : List Int} (h0 : 0 < c.length) (f : Int) {l : List Int} {d : Nat} (d0 : 0 < d) (hd : l.length + d ≤ c.length) : cAt (putP c f l) (f - d) = cAt c (f - d) := by
  have := putP_out h0 f (l := l) (j := c.length - d) (by omega) (by omega)
  have e : f + ((c.length - d : Nat) : Int) = f - d + c.length := by omega
  have lP := putP_len l c f
  rw [e, cAt_add] at this
  have h2 := cAt_add (putP c f l) (f - d)
  rw [lP] at h2
  rw [h2] at this
  exact this
/-- A filling keeps within its bound. -/
theorem fill_bends {c : List Int} {f m b lo : Int} (G : GoodS c f m lo b) (hc : cq c f m lo b = true) (k : Nat) (hk : (k : Int) < m + 2) : siz (bendP (putP c f (filP c f m lo b)) (f + (k : Nat) - 1)) ≤ b := by
  have hm := G.hm
  have hm2 := G.hm2
  have hl := G.len
  have hlo := G.hlo
  have h0 : 0 < c.length := by omega
  obtain ⟨l, el⟩ : ∃ l, l = filP c f m lo b := ⟨_, rfl⟩
  have ll : l.length = m.toNat := by rw [el]; unfold filP; exact fil_len _ _ _ _ _ _ _
  have hel := filP_el hc
  have hok : FilOk (qq c f m lo b) lo (m.toNat + 2) 0 (px c f lo) (py c f lo) l := by
    rw [el]; exact fil_ok _ _ _ _ G.px.2 G.py.2 (by omega) hc
  rw [← el] at hel ⊢
  have hw : ∀ v ∈ l, wr .i16 v = v := fun v hv => by have := hel v hv; exact wrap16 (by omega) (by omega)
  obtain ⟨H, eH⟩ : ∃ H : Nat → Int, ∀ j, H j = hgt (putP c f l) lo (f - 2 + (j : Nat)) := ⟨fun j => hgt (putP c f l) lo (f - 2 + (j : Nat)), fun _ => rfl⟩
  have a0 : H 0 = px c f lo := by
    rw [eH, ← G.px.1]
    unfold hgt
    have := putP_ahead h0 f (l := l) (d := 2) (by omega) (by omega)
    rw [show f - 2 + ((0 : Nat) : Int) = f - ((2 : Nat) : Int) by omega, this]
    rfl
  have a1 : H 1 = py c f lo := by
    rw [eH, ← G.py.1]
    unfold hgt
    have := putP_ahead h0 f (l := l) (d := 1) (by omega) (by omega)
    rw [show f - 2 + ((1 : Nat) : Int) = f - ((1 : Nat) : Int) by omega, this]
    rfl
  obtain ⟨s1, x', y', x1, y1, e1, e2, hcan⟩ := filOk_seq l 0 _ _ hok H a0 a1 fun i v hv => by
    rw [eH, show f - 2 + ((0 + 2 + i : Nat) : Int) = f + (i : Nat) by omega]
    unfold hgt
    rw [putP_in h0 f (by omega) hv, hw v (List.mem_of_getElem? hv)]
  rw [Nat.zero_add] at e1 e2 hcan
  have hend : ∀ j : Nat, m.toNat ≤ j → j ≤ m.toNat + 1 → H (j + 2) = hgt c lo (f + (j : Nat)) := fun j h1 h2 => by
    rw [eH, show f - 2 + ((j + 2 : Nat) : Int) = f + (j : Nat) by omega]
    unfold hgt
    rw [putP_out h0 f (by omega) (by omega)]
  rw [ll, show m.toNat + 2 - m.toNat = 1 + 1 by omega] at hcan
  simp only [can] at hcan
  obtain ⟨z, hz, hcan⟩ := any64.1 hcan
  simp only [Bool.and_eq_true] at hcan
  obtain ⟨hq1, hcan⟩ := hcan
  obtain ⟨w, hw2, hcan⟩ := any64.1 hcan
  simp only [Bool.and_true] at hcan
  unfold qq sp al at hq1 hcan
  simp only [Bool.and_eq_true, Bool.or_eq_true, decide_eq_true_eq] at hq1 hcan
  have z1 := hend m.toNat (by omega) (by omega)
  have z2 := hend (m.toNat + 1) (by omega) (by omega)
  have hz' : (z : Int) = hgt c lo (f + (m.toNat : Nat)) := hq1.2.resolve_left (by omega)
  have hw' : (w : Int) = hgt c lo (f + ((m.toNat + 1 : Nat) : Int)) := hcan.2.resolve_left (by omega)
  rw [ll] at e1 e2 s1
  have hbend : bendP (putP c f l) (f + (k : Nat) - 1) = H (k + 2) - 2 * H (k + 1) + H k := by
    rw [eH, eH, eH]
    unfold bendP hgt
    rw [show f - 2 + ((k + 2 : Nat) : Int) = f + (k : Nat) - 1 + 1 by omega, show f - 2 + ((k + 1 : Nat) : Int) = f + (k : Nat) - 1 by omega, show f - 2 + ((k : Nat) : Int) = f + (k : Nat) - 1 - 1 by omega]
    omega
  rw [hbend]
  have hb := G.hb
  refine siz_le ?_ ?_ <;>
  · rcases (show k < m.toNat ∨ k = m.toNat ∨ k = m.toNat + 1 by omega) with h | h | h
    · have := s1 k h
      rw [Nat.zero_add] at this
      omega
    · subst h
      omega
    · subst h
      rw [show m.toNat + 1 + 2 = m.toNat + 1 + 2 from rfl, show m.toNat + 1 + 1 = m.toNat + 2 by omega]
      omega
/-- The lifts that a stretch has itself. -/
def ownL (c : List Int) (f : Int) (n : Nat) : List Int := tb n fun i => cAt c (f + (i : Nat))
theorem put_own {c : List Int} (hr : Rng c) (h0 : 0 < c.length) {f : Int} {n : Nat} (hn : n ≤ c.length) : putP c f (ownL c f n) = c := by
  have ll : (ownL c f n).length = n := tb_len _ _
  have key : ∀ j : Nat, j < c.length → cAt (putP c f (ownL c f n)) (f + j) = cAt c (f + j) := fun j hj => by
    by_cases h : j < n
    · have hg : (ownL c f n)[j]? = some (cAt c (f + (j : Nat))) := tb_get h
      rw [putP_in h0 f (by omega) hg]
      have := hr.el _ (cAt_mem h0 (f + (j : Nat)))
      exact wrap16 (by omega) (by omega)
    · exact putP_out h0 f (by omega) hj
  have lP := putP_len (ownL c f n) c f
  refine cAt_ext lP fun i hi => ?_
  have hj := key (((i : Int) - f) % c.length).toNat (by
    have := Int.emod_lt_of_pos ((i : Int) - f) (show (0 : Int) < c.length by omega)
    have := Int.emod_nonneg ((i : Int) - f) (show (c.length : Int) ≠ 0 by omega)
    omega)
  have e0 := Int.emod_nonneg ((i : Int) - f) (show (c.length : Int) ≠ 0 by omega)
  have e1 := Int.emod_add_mul_ediv ((i : Int) - f) (c.length : Int)
  have e2 : f + (((((i : Int) - f) % c.length).toNat : Nat) : Int) + (c.length : Int) * (((i : Int) - f) / (c.length : Int)) = (i : Int) := by omega
  have m1 := cAt_mul c (f + (((((i : Int) - f) % c.length).toNat : Nat) : Int)) (((i : Int) - f) / (c.length : Int))
  have m2 := cAt_mul (putP c f (ownL c f n)) (f + (((((i : Int) - f) % c.length).toNat : Nat) : Int)) (((i : Int) - f) / (c.length : Int))
  rw [lP] at m2
  rw [e2] at m1 m2
  rw [m1, m2]
  exact hj
/-! ### What is reached -/
theorem reach_end {c : List Int} {f m b lo : Int} (G : GoodS c f m lo b) : (gR (fwd (qq c f m lo b) (px c f lo) (py c f lo) (m.toNat + 2)) = List.replicate 64 (0 : Int)) ↔ cq c f m lo b = false := by
  have h := fwd_can (q := qq c f m lo b) G.px.2 G.py.2 (m.toNat + 2) (m.toNat + 2) (Nat.le_refl _)
  rw [gR_ne_zero]
  constructor
  · intro h0
    cases e : cq c f m lo b with
    | false => rfl
    | true =>
      obtain ⟨x, y, hx, hy, h1, _⟩ := h.2 e
      rw [h0 x y hx hy] at h1
      cases h1
  · intro hc x y hx hy
    cases e : fwd (qq c f m lo b) (px c f lo) (py c f lo) (m.toNat + 2) x y with
    | false => rfl
    | true =>
      have := h.1 ⟨x, y, hx, hy, e, by rw [Nat.sub_self]; rfl⟩
      unfold cq at hc
      rw [hc] at this
      cases this
/-- Pairs to which those ahead of x, y lead. -/
def lg2 (F : Nat → Nat → Bool) (S : Nat → Nat → Nat → Bool) (x y : Nat) : List Int := gR fun y' z => (List.range 64).any fun x' => (decide (x' < x) || (x' == x && decide (y' < y))) && F x' y' && S x' y' z
theorem lg2_zero (F : Nat → Nat → Bool) (S : Nat → Nat → Nat → Bool) : lg2 F S 0 0 = List.replicate 64 (0 : Int) := by
  rw [gR_zero]
  exact gR_ext fun y z _ _ => List.any_eq_false.2 fun x' _ => by simp
theorem lg2_next (F : Nat → Nat → Bool) (S : Nat → Nat → Nat → Bool) (x : Nat) : lg2 F S x 64 = lg2 F S (x + 1) 0 := gR_ext fun y z hy _ => by
  congr 1
  funext x'
  congr 2
  rw [Bool.eq_iff_iff]
  simp
  omega
theorem lg2_full (F : Nat → Nat → Bool) (S : Nat → Nat → Nat → Bool) : lg2 F S 64 0 = gR fun y z => (List.range 64).any fun x' => F x' y && S x' y z := gR_ext fun y z _ _ => by
  rw [Bool.eq_iff_iff, any64, any64]
  constructor
  · rintro ⟨x, hx, h⟩
    simp only [Bool.and_eq_true] at h
    exact ⟨x, hx, by simp [h.1.2, h.2]⟩
  · rintro ⟨x, hx, h⟩
    simp only [Bool.and_eq_true] at h
    exact ⟨x, hx, by simp [h.1, h.2, hx]⟩
theorem lg2_get (F : Nat → Nat → Bool) (S : Nat → Nat → Nat → Bool) {x y : Nat} (hy : y < 64) : (lg2 F S x y)[y]? = some (row fun z => (List.range 64).any fun x' => decide (x' < x) && F x' y && S x' y z) := by
  unfold lg2
  rw [gR_get _ hy]
  refine congrArg some (row_congr fun z _ => ?_)
  congr 1
  funext x'
  simp
theorem lg2_skip {F : Nat → Nat → Bool} {S : Nat → Nat → Nat → Bool} {x y : Nat} (h : F x y = false) : lg2 F S x y = lg2 F S x (y + 1) := gR_ext fun y' z _ _ => by
  congr 1
  funext x'
  by_cases h1 : x' = x
  · subst h1
    by_cases h2 : y' = y
    · subst h2; simp [h]
    · have : decide (y' < y) = decide (y' < y + 1) := by rw [decide_eq_decide]; omega
      rw [this]
  · have : (x' == x) = false := by simpa using h1
    rw [this]; simp
theorem lg2_put {F : Nat → Nat → Bool} {S : Nat → Nat → Nat → Bool} {x y : Nat} (hx : x < 64) (h : F x y = true) : (lg2 F S x y).set y (bitsI .or .u64 (row fun z => (List.range 64).any fun x' => decide (x' < x) && F x' y && S x' y z) (row (S x y))) = lg2 F S x (y + 1) := by
  rw [row_or]
  unfold lg2
  rw [gR_set]
  refine gR_ext fun y' z _ _ => ?_
  by_cases h1 : y' = y
  · subst h1
    rw [if_pos rfl, Bool.eq_iff_iff, Bool.or_eq_true, any64, any64]
    constructor
    · rintro (⟨u, hu, h2⟩ | h2)
      · simp only [Bool.and_eq_true, decide_eq_true_eq] at h2
        exact ⟨u, hu, by simp [h2.1.1, h2.1.2, h2.2]⟩
      · exact ⟨x, hx, by simp [h, h2]⟩
    · rintro ⟨u, hu, h2⟩
      simp only [Bool.and_eq_true, Bool.or_eq_true, decide_eq_true_eq, beq_iff_eq] at h2
      obtain ⟨⟨h3, h4⟩, h5⟩ := h2
      rcases h3 with h3 | ⟨rfl, _⟩
      · exact .inl ⟨u, hu, by simp [h3, h4, h5]⟩
      · exact .inr h5
  · rw [if_neg h1]
    congr 1
    funext x'
    have : decide (y' < y) = decide (y' < y + 1) := by rw [decide_eq_decide]; omega
    rw [this]
theorem row_not (p : Nat → Bool) : bitsI .andNot .u64 (row p) (row p) = 0 := by
  unfold row
  show IntKind.u64.wrap ((BitVec.ofInt 64 ((mkN p 64 : Nat) : Int) &&& ~~~ BitVec.ofInt 64 ((mkN p 64 : Nat) : Int)).toNat : Int) = 0
  rw [show ∀ a : BitVec 64, a &&& ~~~ a = 0 from fun a => by simp]
  rfl
end Go.Cams

/- What strokes a machine's stops draw: traced with a stroke at hand, and by lengthening the last one. -/
namespace Go.Cams
open Go Go.Fw
def lastM (s : Stk) : Mk := s.getLastD []
def trS (p : List Stk × Stk) (s : Stp) : List Stk × Stk :=
  if s.2.1 = false then (if p.2 = [] then p.1 else p.1 ++ [p.2], [])
  else if p.2.length = 60 then (p.1 ++ [p.2], [lastM p.2, s.1]) else (p.1, p.2 ++ [s.1])
def trL (l : List Stp) : List Stk × Stk := l.foldl trS ([], [])
def shutT (p : List Stk × Stk) : List Stk := if p.2 = [] then p.1 else p.1 ++ [p.2]
theorem trL_snoc (l : List Stp) (s : Stp) : trL (l ++ [s]) = trS (trL l) s := by simp [trL]
def extT (out : List Stk) (m : Mk) : List Stk :=
  if (out.getLastD []).length = 60 then out ++ [[lastM (out.getLastD []), m]] else out.set (out.length - 1) (out.getLastD [] ++ [m])
/-- What both find. -/
def trR (l : List Stp) : List Stk := if (trL l).2 ≠ [] ∧ (l.headD ([], false, ())).2.1 = true then extT (shutT (trL l)) (l.headD ([], false, ())).1 else shutT (trL l)
structure TrOk (p : List Stk × Stk) (n : Nat) : Prop where
  len : p.1.length + (if p.2 = [] then 0 else 1) ≤ n
  el : ∀ s ∈ p.1, s.length ≤ 60 ∧ ∀ m ∈ s, OnP m
  now : p.2.length ≤ 60 ∧ ∀ m ∈ p.2, OnP m
theorem lastM_mem {s : Stk} (h : s ≠ []) : lastM s ∈ s := by
  unfold lastM
  rw [List.getLastD_eq_getLast?, List.getLast?_eq_some_getLast h]
  simp
theorem TrOk.step {p : List Stk × Stk} {n : Nat} {s : Stp} (h : TrOk p n) (hs : OnP s.1) : TrOk (trS p s) (n + 1) := by
  have h1 := h.len
  unfold trS
  split
  · split
    · rename_i e
      rw [if_pos e] at h1
      exact ⟨by simp; omega, h.el, by simp⟩
    · rename_i e
      rw [if_neg e] at h1
      refine ⟨by simp; omega, fun t ht => ?_, by simp⟩
      rcases List.mem_append.1 ht with ht | ht
      · exact h.el t ht
      · rw [List.mem_singleton.1 ht]; exact h.now
  · split
    · rename_i e
      have hne : p.2 ≠ [] := fun e' => by rw [e'] at e; simp at e
      rw [if_neg hne] at h1
      refine ⟨by simp; omega, fun t ht => ?_, by simp, fun m hm => ?_⟩
      · rcases List.mem_append.1 ht with ht | ht
        · exact h.el t ht
        · rw [List.mem_singleton.1 ht]; exact h.now
      · simp only [List.mem_cons, List.not_mem_nil, or_false] at hm
        rcases hm with rfl | rfl
        · exact h.now.2 _ (lastM_mem hne)
        · exact hs
    · rename_i e
      refine ⟨?_, h.el, by simp; have := h.now.1; omega, fun m hm => ?_⟩
      · rw [if_neg (by simp)]
        show p.1.length + 1 ≤ n + 1
        split at h1 <;> omega
      · rcases List.mem_append.1 hm with hm | hm
        · exact h.now.2 m hm
        · rw [List.mem_singleton.1 hm]; exact hs
theorem trOk_take (l : List Stp) (h : ∀ s ∈ l, OnP s.1) : ∀ i, i ≤ l.length → TrOk (trL (l.take i)) i
  | 0, _ => ⟨by simp [trL], by simp [trL], by simp [trL]⟩
  | i + 1, hi => by
    rw [List.take_succ_eq_append_getElem (by omega), trL_snoc]
    exact (trOk_take l h i (by omega)).step (h _ (List.getElem_mem _))
theorem trS_nil (p : List Stk × Stk) (s : Stp) : (trS p s).2 = [] ↔ s.2.1 = false := by
  unfold trS
  split
  · rename_i h; simp [h]
  · rename_i h
    split <;> simp [h]
theorem shut_up (p : List Stk × Stk) {s : Stp} (h : s.2.1 = false) : shutT (trS p s) = shutT p := by simp [trS, h, shutT]
theorem shut_new {p : List Stk × Stk} {s : Stp} (h : s.2.1 = true) (hp : p.2 = []) : shutT (trS p s) = shutT p ++ [[s.1]] := by simp [trS, h, shutT, hp]
theorem getLastD_snoc {α : Type} (l : List α) (x d : α) : (l ++ [x]).getLastD d = x := by
  rw [List.getLastD_eq_getLast?]; simp
theorem shut_ext {p : List Stk × Stk} {s : Stp} (h : s.2.1 = true) (hp : p.2 ≠ []) : shutT (trS p s) = extT (shutT p) s.1 := by
  have e : shutT p = p.1 ++ [p.2] := by simp [shutT, hp]
  rw [e]
  unfold extT
  rw [getLastD_snoc]
  simp only [trS, h, Bool.true_eq_false, if_false]
  split
  · simp [shutT]
  · simp only [shutT]
    rw [if_neg (by simp)]
    have : (p.1 ++ [p.2]).length - 1 = p.1.length := by simp
    rw [this, List.set_append_right _ _ (Nat.le_refl _)]
    simp
theorem trR_eq (l : List Stp) : trR l = if (trL l).2 = [] then (trL l).1 else if (l.headD ([], false, ())).2.1 = true then shutT (trS (trL l) (l.headD ([], false, ()))) else (trL l).1 ++ [(trL l).2] := by
  unfold trR
  by_cases h : (trL l).2 = []
  · simp [h, shutT]
  · by_cases h2 : (l.headD ([], false, ())).2.1 = true
    · rw [if_pos ⟨h, h2⟩, if_neg h, if_pos h2, shut_ext h2 h]
    · rw [if_neg (fun e => h2 e.2), if_neg h, if_neg h2]
      simp [shutT, h]
theorem TrOk.shut {p : List Stk × Stk} {n : Nat} (h : TrOk p n) : (shutT p).length ≤ n ∧ ∀ s ∈ shutT p, s.length ≤ 60 ∧ ∀ m ∈ s, OnP m := by
  have h1 := h.len
  unfold shutT
  split
  · rename_i e
    rw [if_pos e] at h1
    exact ⟨by omega, h.el⟩
  · rename_i e
    rw [if_neg e] at h1
    refine ⟨by simp; omega, fun t ht => ?_⟩
    rcases List.mem_append.1 ht with ht | ht
    · exact h.el t ht
    · rw [List.mem_singleton.1 ht]; exact h.now
theorem trR_ok (l : List Stp) (hl : 0 < l.length) (h : ∀ s ∈ l, OnP s.1) : (trR l).length ≤ l.length + 1 ∧ ∀ s ∈ trR l, s.length ≤ 60 ∧ ∀ m ∈ s, OnP m := by
  have hk := trOk_take l h l.length (Nat.le_refl _)
  rw [List.take_length] at hk
  have e := trR_eq l
  rw [e]
  split
  · rename_i e2
    have := hk.shut
    simp only [shutT, e2, if_true] at this
    exact ⟨by omega, this.2⟩
  · rename_i e2
    split
    · have hm : l.headD ([], false, ()) ∈ l := by
        cases l with
        | nil => simp at hl
        | cons a r => simp
      exact (hk.step (h _ hm)).shut
    · have := hk.shut
      simp only [shutT, e2, if_false] at this
      exact ⟨by omega, this.2⟩
theorem onP_rng {m : Mk} (h : OnP m) : ∀ v ∈ m, -32768 ≤ v ∧ v ≤ 32767 := by
  have hx := h.x; have hy := h.y; have hl := h.len
  match m, hl with
  | [a, b], _ =>
    have hx : 0 ≤ a ∧ a ≤ 63 := hx
    have hy : 0 ≤ b ∧ b ≤ 63 := hy
    intro v hv
    simp only [List.mem_cons, List.not_mem_nil, or_false] at hv
    rcases hv with rfl | rfl <;> omega
/-- What a machine draws, and the code. -/
def soR (m : Mch) : List Stk × Int × Unit := if okM m = true then (if ((trR (stopsM m)).length : Int) > 20 then ([], 3, ()) else (trR (stopsM m), 0, ())) else ([], 1, ())
theorem soR_rng {m : Mch} (hr : RngM m) : RngT (soR m).1 ∧ (soR m).1.length ≤ 20 ∧ totT (soR m).1 ≤ 1200 := by
  have e0 : RngT [] ∧ ([] : List Stk).length ≤ 20 ∧ totT [] ≤ 1200 := ⟨⟨by simp, by simp⟩, by simp, by simp [totT, totL]⟩
  unfold soR
  split
  · rename_i h
    split
    · exact e0
    · rename_i h2
      have G := goodM h
      have lx := okC_len G.x
      have hl : (stopsM m).length = m.1.length := by simp [stopsM]
      have hon : ∀ s ∈ stopsM m, OnP s.1 := by
        intro s hs
        simp only [stopsM, List.mem_map, List.mem_range] at hs
        obtain ⟨i, hi, rfl⟩ := hs
        exact stop_on hr G hi
      have hk := trR_ok (stopsM m) (by omega) hon
      have h20 : (trR (stopsM m)).length ≤ 20 := by omega
      refine ⟨⟨by show ((trR (stopsM m)).length : Int) * 24 ≤ _; omega, fun s hs => ⟨by have := (hk.2 s hs).1; omega, fun k hm => ⟨((hk.2 s hs).2 k hm).len, onP_rng ((hk.2 s hs).2 k hm)⟩⟩⟩, h20, ?_⟩
      have : ∀ K : List Stk, (∀ s ∈ K, s.length ≤ 60) → totT K ≤ 60 * K.length := by
        intro K
        induction K with
        | nil => intro _; simp [totT, totL]
        | cons a r ih =>
          intro h
          have h1 := ih fun s hs => h s (by simp [hs])
          have h2 := h a (by simp)
          have e : totT (a :: r) = a.length + totT r := by unfold totT; rw [List.map_cons, totL_cons, shad_len]
          rw [e, List.length_cons]
          omega
      have := this _ fun s hs => (hk.2 s hs).1
      show totT (trR (stopsM m)) ≤ 1200
      omega
  · exact e0
theorem mkTs_at : ∀ (K : List Stk) (k : Int) {i : Nat} {v : Stk}, (mkTs K k)[i]? = some v → ∃ s, K[i]? = some s ∧ v = mkSk s.length (k + 2 * totT (K.take i))
  | [], k, i, v, h => by simp [mkTs] at h
  | s :: K, k, 0, v, h => by
    simp only [mkTs, List.getElem?_cons_zero, Option.some.injEq] at h
    exact ⟨s, by simp, by rw [← h]; simp [totT, totL]⟩
  | s :: K, k, i + 1, v, h => by
    simp only [mkTs, List.getElem?_cons_succ] at h
    obtain ⟨t, h1, h2⟩ := mkTs_at K _ h
    refine ⟨t, by simpa using h1, ?_⟩
    have e : totT (s :: K.take i) = s.length + totT (K.take i) := by unfold totT; rw [List.map_cons, totL_cons, shad_len]
    rw [h2, List.take_succ_cons, e]
    congr 1
    omega
theorem mkTs_len : ∀ (K : List Stk) (k : Int), (mkTs K k).length = K.length
  | [], _ => rfl
  | s :: K, k => by simp [mkTs, mkTs_len K]
theorem mkSk_at (n : Nat) (k : Int) {i : Int} {v : Mk} (h : At (mkSk n k) i v) (h0 : 0 ≤ i) : v = [wr .i16 (k + 2 * i), wr .i16 (k + 2 * i + 1)] := by
  have := h.get
  unfold mkSk at this
  rw [List.getElem?_map] at this
  cases hr : (List.range n)[i.toNat]? with
  | none => rw [hr] at this; cases this
  | some j =>
    rw [hr] at this
    have hj : j = i.toNat := by
      obtain ⟨hl, e⟩ := List.getElem?_eq_some_iff.1 hr
      rw [← e, List.getElem_range]
    subst hj
    simp only [Option.map_some, Option.some.injEq] at this
    rw [← this, show ((i.toNat : Nat) : Int) = i by omega]
theorem mkSk_len (n : Nat) (k : Int) : (mkSk n k).length = n := by simp [mkSk]
end Go.Cams

/- What is drawn, as a set of marks: by stops, by strokes, by strokes that are traced, by stops that are planned. -/
namespace Go.Cams
open Go Go.Fw
theorem rev_ind {α : Type} {P : List α → Prop} (h0 : P []) (h1 : ∀ l a, P l → P (l ++ [a])) (l : List α) : P l := by
  rw [← List.reverse_reverse l]
  induction l.reverse with
  | nil => exact h0
  | cons a r ih => rw [List.reverse_cons]; exact h1 _ _ ih
/-! ### Plates of marks -/
def plt (L : List Mk) : List Int := tb 64 fun y => row fun x => decide ([(x : Int), (y : Int)] ∈ L)
theorem inkP_plate (L : List Mk) {m : Mk} (h : OnP m) : inkP (plt L) m = plt (L ++ [m]) := by
  have hx := h.x; have hy := h.y
  have hm := h.eq
  obtain ⟨x, ex⟩ : ∃ x : Nat, g m 0 = x := ⟨(g m 0).toNat, by omega⟩
  obtain ⟨y, ey⟩ : ∃ y : Nat, g m 1 = y := ⟨(g m 1).toNat, by omega⟩
  unfold inkP plt
  have hg : g (tb 64 fun y => row fun x => decide ([(x : Int), (y : Int)] ∈ L)) y = row fun x => decide ([(x : Int), (y : Int)] ∈ L) := by
    unfold g
    rw [List.getD_eq_getElem?_getD, tb_get (by omega)]; rfl
  rw [ex, ey, Int.toNat_natCast, hg, row_one (by omega), row_or, tb_set]
  refine tb_ext fun j hj => ?_
  rw [ex, ey] at hm
  by_cases e : j = y
  · subst e
    rw [if_pos rfl]
    refine row_congr fun z hz => ?_
    rw [hm]
    by_cases e2 : z = x
    · subst e2; simp
    · have : ([(z : Int), (j : Int)] : Mk) ≠ [(x : Int), (j : Int)] := fun h => e2 (by injection h with h _; omega)
      have h2 : ¬ (z : Int) = (x : Int) := by omega
      simp [e2, h2]
  · rw [if_neg e]
    refine row_congr fun z hz => ?_
    rw [hm]
    have h2 : ¬ (j : Int) = (y : Int) := by omega
    simp [h2]
theorem plate_nil : plt [] = List.replicate 64 0 := by
  unfold plt
  rw [tb_rep]
  refine tb_ext fun j hj => ?_
  unfold row
  rw [mkN_zero fun y hy => by simp]; rfl
theorem inkL_plate : ∀ (M L : List Mk), (∀ m ∈ M, OnP m) → inkL (plt L) M = plt (L ++ M)
  | [], L, _ => by simp [inkL]
  | m :: M, L, h => by
    show inkL (inkP (plt L) m) M = _
    rw [inkP_plate L (h m (by simp)), inkL_plate M (L ++ [m]) fun x hx => h x (by simp [hx])]
    simp
theorem plate_ext {L M : List Mk} (h : ∀ x, x ∈ L ↔ x ∈ M) : plt L = plt M := by
  unfold plt
  refine tb_ext fun j _ => row_congr fun z _ => ?_
  rw [decide_eq_decide]
  exact h _
/-! ### Marks that stops draw -/
def onk (a : Stp) : List Mk := if a.2.1 = true then [a.1] else []
def sgm (a b : Stp) : List Mk := if a.2.1 = true ∧ b.2.1 = true then lineM a.1 b.1 else []
def drw : List Stp → List Mk
  | [] => []
  | [a] => onk a
  | a :: b :: r => onk a ++ (sgm a b ++ drw (b :: r))
theorem drw_snoc : ∀ (l : List Stp) (a b : Stp) (x : Mk), x ∈ drw (l ++ [a] ++ [b]) ↔ x ∈ drw (l ++ [a]) ∨ x ∈ sgm a b ∨ x ∈ onk b
  | [], a, b, x => by simp [drw]
  | [c], a, b, x => by
    simp only [drw, List.cons_append, List.nil_append, List.mem_append]
    constructor <;> intro h
    · rcases h with h | h | h | h | h <;> simp [h]
    · rcases h with (h | h | h) | h | h <;> simp [h]
  | c :: d :: l, a, b, x => by
    have ih := drw_snoc (d :: l) a b x
    simp only [List.cons_append] at ih
    simp only [List.cons_append, drw, List.mem_append, ih]
    constructor <;> intro h
    · rcases h with h | h | h | h | h <;> simp [h]
    · rcases h with (h | h | h) | h | h <;> simp [h]
theorem drw_mem : ∀ (l : List Stp) (s : Stp), s ∈ l → s.2.1 = true → s.1 ∈ drw l
  | [], _, h, _ => by simp at h
  | [a], s, h, hd => by
    simp only [List.mem_singleton] at h
    subst h
    simp [drw, onk, hd]
  | a :: b :: r, s, h, hd => by
    simp only [drw, List.mem_append]
    rcases List.mem_cons.1 h with h | h
    · subst h; simp [onk, hd]
    · exact .inr (.inr (drw_mem (b :: r) s h hd))
theorem drw_up (l : List Stp) {b : Stp} (hb : b.2.1 = false) (x : Mk) : x ∈ drw (l ++ [b]) ↔ x ∈ drw l := by
  rcases List.eq_nil_or_concat l with rfl | ⟨l, a, rfl⟩
  · simp [drw, onk, hb]
  · rw [List.concat_eq_append, drw_snoc]; simp [sgm, onk, hb]
theorem drw_ups (l : List Stp) : ∀ (m : List Stp), (∀ b ∈ m, b.2.1 = false) → ∀ x, x ∈ drw (l ++ m) ↔ x ∈ drw l := by
  intro m
  refine rev_ind (P := fun m => (∀ b ∈ m, b.2.1 = false) → ∀ x, x ∈ drw (l ++ m) ↔ x ∈ drw l) (fun _ x => by simp) (fun m b ih h x => ?_) m
  · rw [← List.append_assoc, drw_up _ (h b (by simp)), ih fun c hc => h c (by simp [hc])]
/-! ### Marks that strokes draw -/
def dwn (m : Mk) : Stp := (m, true, ())
def drs (s : Stk) : List Mk := drw (s.map dwn)
def drK (K : List Stk) : List Mk := K.flatMap drs
theorem drs_snoc (s : Stk) (a b : Mk) (x : Mk) : x ∈ drs (s ++ [a] ++ [b]) ↔ x ∈ drs (s ++ [a]) ∨ x ∈ lineM a b ∨ x = b := by
  unfold drs
  simp only [List.map_append, List.map_cons, List.map_nil]
  rw [drw_snoc]
  simp [sgm, onk, dwn]
theorem lastM_snoc (s : Stk) (a : Mk) : lastM (s ++ [a]) = a := by unfold lastM; rw [getLastD_snoc]
/-! ### Strokes that are traced draw what the stops draw -/
structure TrD (l : List Stp) (p : List Stk × Stk) : Prop where
  same : ∀ x, x ∈ drw l ↔ x ∈ drK p.1 ∨ x ∈ drs p.2
  last : ∀ k a, l = k ++ [a] → (p.2 ≠ [] → a.1 = lastM p.2 ∧ a.2.1 = true) ∧ (p.2 = [] → a.2.1 = false)
  nil : l = [] → p = ([], [])
theorem TrD.step {l : List Stp} {p : List Stk × Stk} (h : TrD l p) (s : Stp) : TrD (l ++ [s]) (trS p s) := by
  have hnil := trS_nil p s
  refine ⟨fun x => ?_, fun k a e => ?_, fun e => by simp at e⟩
  · cases hs : s.2.1 with
    | false =>
      rw [drw_up l hs, h.same]
      unfold trS
      rw [if_pos hs]
      by_cases e : p.2 = []
      · simp [e]
      · simp [e, drK, drs, drw]
    | true =>
      by_cases e : p.2 = []
      · have h1 : x ∈ drw (l ++ [s]) ↔ x ∈ drw l ∨ x = s.1 := by
          rcases List.eq_nil_or_concat l with rfl | ⟨k, a, rfl⟩
          · simp [drw, onk, hs]
          · rw [List.concat_eq_append, drw_snoc]
            have := (h.last k a (by simp)).2 e
            simp [sgm, onk, hs, this]
        rw [h1, h.same]
        unfold trS
        simp [hs, e, drs, drw, dwn, onk]
      · rcases List.eq_nil_or_concat l with rfl | ⟨k, a, rfl⟩
        · have := h.nil rfl
          rw [this] at e
          exact absurd rfl e
        rw [List.concat_eq_append] at *
        have ha := (h.last k a rfl).1 e
        rw [drw_snoc, h.same]
        obtain ⟨q, b, hq⟩ : ∃ q b, p.2 = q ++ [b] := by
          rcases List.eq_nil_or_concat p.2 with h | ⟨q, b, h⟩
          · exact absurd h e
          · exact ⟨q, b, by rw [h, List.concat_eq_append]⟩
        have hb : lastM p.2 = b := by rw [hq, lastM_snoc]
        have h2 : x ∈ sgm a s ↔ x ∈ lineM b s.1 := by simp [sgm, ha.2, hs, ha.1, hb]
        have h3 : x ∈ onk s ↔ x = s.1 := by simp [onk, hs]
        rw [h2, h3]
        have hbm : b ∈ drs p.2 := by
          rw [hq]
          exact drw_mem _ (dwn b) (by simp [dwn]) rfl
        unfold trS
        rw [if_neg (by simp [hs])]
        split
        · rw [hb]
          have h4 : x ∈ drs [b, s.1] ↔ x = b ∨ x ∈ lineM b s.1 ∨ x = s.1 := by
            have := drs_snoc [] b s.1 x
            simp only [List.nil_append, List.cons_append] at this
            rw [this]
            simp [drs, drw, onk, dwn]
          simp only [drK, List.flatMap_append, List.flatMap_cons, List.flatMap_nil, List.append_nil, List.mem_append, h4]
          constructor <;> intro h
          · rcases h with (h | h) | h | h <;> simp [h]
          · rcases h with (h | h) | h | h | h
            · simp [h]
            · simp [h]
            · subst h; simp [hbm]
            · simp [h]
            · simp [h]
        · rw [hq, drs_snoc]
          constructor <;> intro h
          · rcases h with (h | h) | h | h <;> simp [h]
          · rcases h with h | h | h | h <;> simp [h]
  · have e : l = k ∧ s = a := by
      have := List.append_inj' e rfl
      exact ⟨this.1, by simpa using this.2⟩
    obtain ⟨rfl, rfl⟩ := e
    refine ⟨fun h2 => ?_, fun h2 => hnil.1 h2⟩
    have hs : s.2.1 = true := by
      cases hs : s.2.1 with
      | true => rfl
      | false => exact absurd (hnil.2 hs) h2
    refine ⟨?_, hs⟩
    unfold trS
    rw [if_neg (by simp [hs])]
    split
    · rfl
    · rw [lastM_snoc]
theorem trD (l : List Stp) : TrD l (trL l) := by
  refine rev_ind (P := fun l => TrD l (trL l)) ⟨fun x => by simp [drw, trL, drK, drs], fun k a e => by simp at e, fun _ => rfl⟩ (fun l s ih => ?_) l
  rw [trL_snoc]; exact ih.step s
/-- What a machine with stops draws, around. -/
def dcy (l : List Stp) : List Mk := drw (l ++ [l.headD ([], false, ())])
theorem shutT_drK (p : List Stk × Stk) (x : Mk) : x ∈ drK (shutT p) ↔ x ∈ drK p.1 ∨ x ∈ drs p.2 := by
  unfold shutT
  split
  · rename_i h; simp [h, drs, drw]
  · simp [drK]
theorem trR_draws (l : List Stp) (hl : l ≠ []) (x : Mk) : x ∈ drK (trR l) ↔ x ∈ dcy l := by
  have h := trD l
  obtain ⟨hd, hhd⟩ : ∃ hd, hd = l.headD ([], false, ()) := ⟨_, rfl⟩
  have hmem : hd ∈ l := by
    cases l with
    | nil => exact absurd rfl hl
    | cons a r => rw [hhd]; simp
  unfold dcy
  have hR := trR_eq l
  rw [← hhd] at hR ⊢
  by_cases h2 : (trL l).2 ≠ [] ∧ hd.2.1 = true
  · rw [if_neg h2.1, if_pos h2.2] at hR
    rw [hR, shutT_drK, ← (h.step hd).same]
  · have e : trR l = shutT (trL l) := by
      rw [hR]
      by_cases h3 : (trL l).2 = []
      · rw [if_pos h3]; simp [shutT, h3]
      · rw [if_neg h3, if_neg (fun e => h2 ⟨h3, e⟩)]; simp [shutT, h3]
    rw [e, shutT_drK, ← h.same]
    cases hs : hd.2.1 with
    | false => rw [drw_up l hs]
    | true =>
      have h3 : (trL l).2 = [] := Classical.byContradiction fun e => h2 ⟨e, hs⟩
      have hin := drw_mem l hd hmem hs
      rcases List.eq_nil_or_concat l with h4 | ⟨k, a, h4⟩
      · exact absurd h4 hl
      · rw [List.concat_eq_append] at h4
        have ha := (h.last k a h4).2 h3
        have := drw_snoc k a hd x
        rw [← h4] at this
        rw [this]
        simp only [sgm, ha, Bool.false_eq_true, false_and, if_false, List.not_mem_nil, false_or, onk, hs, if_true, List.mem_singleton]
        constructor
        · exact .inl
        · rintro (h | rfl)
          · exact h
          · exact hin
end Go.Cams

/- Stops that are planned draw what the strokes draw, and are not far apart, in plain terms. -/
namespace Go.Cams
open Go Go.Fw
/-! ### Machines -/
theorem onk_on {a : Stp} (h : OnP a.1) : ∀ x ∈ onk a, OnP x := by
  intro x hx
  unfold onk at hx
  split at hx
  · rw [List.mem_singleton.1 hx]; exact h
  · simp at hx
theorem sgm_on {a b : Stp} (h : OnP a.1) (h2 : OnP b.1) : ∀ x ∈ sgm a b, OnP x := by
  intro x hx
  unfold sgm at hx
  split at hx
  · exact lineM_on h h2 x hx
  · simp at hx
/-- The marks that the first stops of a machine draw. -/
def mks (m : Mch) : Nat → List Mk
  | 0 => []
  | i + 1 => mks m i ++ (onk (stopM m i) ++ sgm (stopM m i) (stopM m ((i + 1) % m.1.length)))
theorem drawTo_mks (m : Mch) (hon : ∀ i, i < m.1.length → OnP (stopM m i).1) : ∀ i, i ≤ m.1.length → drawTo m i = plt (mks m i)
  | 0, _ => plate_nil.symm
  | i + 1, hi => by
    have h1 := hon i (by omega)
    have h2 := hon ((i + 1) % m.1.length) (Nat.mod_lt _ (by omega))
    have e : ∀ L, plt (mks m i ++ L) = plt (mks m i ++ L) := fun _ => rfl
    unfold drawTo mks
    rw [drawTo_mks m hon i (by omega)]
    by_cases c : (stopM m i).2.1 = true
    · rw [if_pos c]
      have o1 : onk (stopM m i) = [(stopM m i).1] := by simp [onk, c]
      by_cases c2 : (stopM m ((i + 1) % m.1.length)).2.1 = true
      · have o2 : sgm (stopM m i) (stopM m ((i + 1) % m.1.length)) = lineM (stopM m i).1 (stopM m ((i + 1) % m.1.length)).1 := by unfold sgm; rw [if_pos ⟨c, c2⟩]
        rw [if_pos c2, inkP_plate _ h1, inkL_plate _ _ (lineM_on h1 h2), o1, o2, List.append_assoc]
      · have o2 : sgm (stopM m i) (stopM m ((i + 1) % m.1.length)) = [] := by unfold sgm; rw [if_neg (fun e => c2 e.2)]
        rw [if_neg c2, inkP_plate _ h1, o1, o2, List.append_nil]
    · have o1 : onk (stopM m i) = [] := by simp [onk, c]
      have o2 : sgm (stopM m i) (stopM m ((i + 1) % m.1.length)) = [] := by unfold sgm; rw [if_neg (fun e => c e.1)]
      rw [if_neg c, o1, o2]; simp
theorem mks_drw (m : Mch) : ∀ i, i < m.1.length → ∀ x, (x ∈ drw ((List.range (i + 1)).map (stopM m)) ↔ x ∈ mks m i ∨ x ∈ onk (stopM m i))
  | 0, _, x => by simp [drw, mks]
  | i + 1, hi, x => by
    have e : (List.range (i + 1 + 1)).map (stopM m) = (List.range i).map (stopM m) ++ [stopM m i] ++ [stopM m (i + 1)] := by simp [List.range_succ]
    have e2 : (List.range (i + 1)).map (stopM m) = (List.range i).map (stopM m) ++ [stopM m i] := by simp [List.range_succ]
    have ih := mks_drw m i (by omega) x
    rw [e2] at ih
    rw [e, drw_snoc, ih]
    have hm : (i + 1) % m.1.length = i + 1 := Nat.mod_eq_of_lt hi
    simp only [mks, hm, List.mem_append]
    constructor <;> intro h
    · rcases h with (h | h) | h | h <;> simp [h]
    · rcases h with (h | h | h) | h <;> simp [h]
theorem mks_cyc (m : Mch) (h0 : 0 < m.1.length) (x : Mk) : x ∈ mks m m.1.length ↔ x ∈ dcy (stopsM m) := by
  obtain ⟨n, hn⟩ : ∃ n, m.1.length = n + 1 := ⟨m.1.length - 1, by omega⟩
  have hd : (stopsM m).headD ([], false, ()) = stopM m 0 := by
    unfold stopsM
    rw [hn, List.range_succ_eq_map]; rfl
  have e : stopsM m = (List.range n).map (stopM m) ++ [stopM m n] := by unfold stopsM; rw [hn]; simp [List.range_succ]
  have e2 : (List.range n).map (stopM m) ++ [stopM m n] = (List.range (n + 1)).map (stopM m) := by simp [List.range_succ]
  unfold dcy
  rw [hd, e, drw_snoc, e2, mks_drw m n (by omega), hn]
  have hm : (n + 1) % m.1.length = 0 := by rw [hn]; exact Nat.mod_self _
  simp only [mks, hm, List.mem_append]
  have h0' : x ∈ onk (stopM m 0) → x ∈ mks m n ∨ x ∈ onk (stopM m n) := by
    intro h
    rw [← mks_drw m n (by omega)]
    have hs : (stopM m 0).2.1 = true := by
      cases hs : (stopM m 0).2.1 with
      | true => rfl
      | false => simp [onk, hs] at h
    have hx : x = (stopM m 0).1 := by simpa [onk, hs] using h
    rw [hx]
    exact drw_mem _ _ (List.mem_map.2 ⟨0, by simp, rfl⟩) hs
  constructor <;> intro h
  · rcases h with h | h | h <;> simp [h]
  · rcases h with (h | h) | h | h
    · simp [h]
    · simp [h]
    · simp [h]
    · rcases h0' h with h | h <;> simp [h]
/-- What a machine draws. -/
theorem drawTo_dcy {m : Mch} (hr : RngM m) (G : GoodM m) : drawTo m m.1.length = plt (dcy (stopsM m)) := by
  have lx := okC_len G.x
  rw [drawTo_mks m (fun i hi => stop_on hr G hi) _ (Nat.le_refl _)]
  exact plate_ext fun x => mks_cyc m (by omega) x
/-! ### Plans -/
theorem bkJ_spec (L : List Mk) (i : Nat) : ∀ j, bkJ L i j = 0 ∨ lineM (gM L i) (gM L (bkJ L i j)) = (L.take (bkJ L i j + 1)).drop i
  | 0 => .inl rfl
  | j + 1 => by
    unfold bkJ
    split
    · rename_i h; exact .inr h
    · exact bkJ_spec L i j
theorem goF_down {most : Nat} (hm : 1 ≤ most) {a b : Mk} (ha : OnP a) (hb : OnP b) : ∀ (f i : Nat) (A : List Stp), i < (lineM a b).length → (lineM a b).length ≤ f + i → (∀ x, x ∈ drw (A ++ [dwn (gM (lineM a b) i)] ++ goF most true (lineM a b) f i) ↔ x ∈ drw (A ++ [dwn (gM (lineM a b) i)]) ∨ x ∈ (lineM a b).drop i) ∧ ∃ B, A ++ [dwn (gM (lineM a b) i)] ++ goF most true (lineM a b) f i = B ++ [dwn b]
  | 0, i, A, hi, hf => by omega
  | f + 1, i, A, hi, hf => by
    have hl := line_last ha hb
    unfold goF
    by_cases h : i < (lineM a b).length - 1
    · rw [if_pos h]
      have hj := toJ_bd hm true ha hb h
      obtain ⟨j, ej⟩ : ∃ j, j = toJ most true (lineM a b) i := ⟨_, rfl⟩
      rw [← ej] at hj ⊢
      have hline : lineM (gM (lineM a b) i) (gM (lineM a b) j) = ((lineM a b).take (j + 1)).drop i := by
        have := bkJ_spec (lineM a b) i (min (i + most) ((lineM a b).length - 1))
        have e : toJ most true (lineM a b) i = bkJ (lineM a b) i (min (i + most) ((lineM a b).length - 1)) := by unfold toJ; rw [if_pos rfl]
        rw [← e, ← ej] at this
        rcases this with h | h
        · omega
        · exact h
      obtain ⟨ih1, ih2⟩ := goF_down hm ha hb f j (A ++ [dwn (gM (lineM a b) i)]) (by omega) (by omega)
      have e : A ++ [dwn (gM (lineM a b) i)] ++ (gM (lineM a b) j, true, ()) :: goF most true (lineM a b) f j = A ++ [dwn (gM (lineM a b) i)] ++ [dwn (gM (lineM a b) j)] ++ goF most true (lineM a b) f j := by simp [dwn]
      rw [e]
      refine ⟨fun x => ?_, ih2⟩
      rw [ih1, drw_snoc]
      have h2 : x ∈ sgm (dwn (gM (lineM a b) i)) (dwn (gM (lineM a b) j)) ↔ x ∈ ((lineM a b).take (j + 1)).drop i := by
        unfold sgm
        rw [if_pos ⟨rfl, rfl⟩, ← hline]; rfl
      have h3 : x ∈ onk (dwn (gM (lineM a b) j)) ↔ x = gM (lineM a b) j := by simp [onk, dwn]
      rw [h2, h3]
      have h4 : (lineM a b).drop i = ((lineM a b).take (j + 1)).drop i ++ (lineM a b).drop (j + 1) := by
        conv => lhs; rw [← List.take_append_drop (j + 1) (lineM a b)]
        rw [List.drop_append_of_le_length (by simp; omega)]
      have h5 : x ∈ (lineM a b).drop j ↔ x = gM (lineM a b) j ∨ x ∈ (lineM a b).drop (j + 1) := by
        have hg := gM_idx (L := lineM a b) (i := (j : Int)) (by omega) (by omega)
        have := hg.drop
        rw [Int.toNat_natCast] at this
        rw [this, List.mem_cons]
        have : ((j : Int) + 1).toNat = j + 1 := by omega
        rw [this]
      have h6 : gM (lineM a b) j ∈ ((lineM a b).take (j + 1)).drop i := by
        have hg := (gM_idx (L := lineM a b) (i := (j : Int)) (by omega) (by omega)).get
        rw [Int.toNat_natCast] at hg
        have : (((lineM a b).take (j + 1)).drop i)[j - i]? = some (gM (lineM a b) j) := by
          rw [List.getElem?_drop, List.getElem?_take, if_pos (by omega), show i + (j - i) = j by omega, hg]
        exact List.mem_of_getElem? this
      rw [h5, h4, List.mem_append]
      constructor <;> intro h
      · rcases h with (h | h | h) | h | h
        · simp [h]
        · simp [h]
        · subst h; simp [h6]
        · subst h; simp [h6]
        · simp [h]
      · rcases h with h | h | h <;> simp [h]
    · rw [if_neg h]
      have hi2 : i = (lineM a b).length - 1 := by omega
      refine ⟨fun x => ?_, A, by rw [hi2, hl]; simp⟩
      have hd : (lineM a b).drop i = [gM (lineM a b) i] := by
        have hg := gM_idx (L := lineM a b) (i := (i : Int)) (by omega) (by omega)
        have := hg.drop
        rw [Int.toNat_natCast, show ((i : Int) + 1).toNat = i + 1 by omega, List.drop_of_length_le (i := i + 1) (by omega)] at this
        exact this
      rw [hd, List.append_nil, List.mem_singleton]
      constructor
      · exact .inl
      · rintro (h | rfl)
        · exact h
        · exact drw_mem _ (dwn (gM (lineM a b) i)) (by simp) rfl
theorem goF_ups (most : Nat) (L : List Mk) : ∀ f i, ∀ b ∈ goF most false L f i, b.2.1 = false
  | 0, _, b, h => by simp [goF] at h
  | f + 1, i, b, h => by
    unfold goF at h
    split at h
    · rcases List.mem_cons.1 h with rfl | h
      · rfl
      · exact goF_ups most L f _ b h
    · simp at h
/-- What is known of the stops that are planned so far: where the last is, and what they draw. -/
structure PlD (st : Mk × List Stp) (S : Mk → Prop) : Prop where
  at_ : OnP st.1
  draws : ∀ x, x ∈ drw st.2 ↔ S x
  last : ∀ k a, st.2 = k ++ [a] → a.1 = st.1
theorem gM_zero_line {a b : Mk} (ha : OnP a) (hb : OnP b) : gM (lineM a b) 0 = a := by
  by_cases h : far a b = 0
  · unfold lineM; rw [if_pos h]; rfl
  · obtain ⟨f0, _, _⟩ := far_bd ha hb
    rw [lineM_get h (by omega)]
    exact ptM_zero ha hb h
theorem lineM_end {a b : Mk} (ha : OnP a) (hb : OnP b) : b ∈ lineM a b := by
  have hl := lineM_length ha hb
  obtain ⟨f0, _, _⟩ := far_bd ha hb
  have hg := gM_idx (L := lineM a b) (i := (((lineM a b).length - 1 : Nat) : Int)) (by omega) (by omega)
  have := hg.mem
  rwa [Int.toNat_natCast, line_last ha hb] at this
theorem goF_end {most : Nat} (hm : 1 ≤ most) (down : Bool) {a b : Mk} (ha : OnP a) (hb : OnP b) : ∀ (f i : Nat), i < (lineM a b).length → (lineM a b).length ≤ f + i → ∀ k v, goF most down (lineM a b) f i = k ++ [v] → v.1 = b
  | 0, i, hi, hf => by omega
  | f + 1, i, hi, hf => by
    intro k v e
    unfold goF at e
    split at e
    · rename_i h
      have hj := toJ_bd hm down ha hb h
      by_cases h2 : toJ most down (lineM a b) i < (lineM a b).length - 1
      · cases k with
        | nil =>
          exfalso
          have hne : goF most down (lineM a b) f (toJ most down (lineM a b) i) ≠ [] := by
            cases f with
            | zero => omega
            | succ f => unfold goF; rw [if_pos h2]; simp
          simp at e
          exact hne e.2
        | cons c k =>
          simp only [List.cons_append, List.cons.injEq] at e
          exact goF_end hm down ha hb f _ (by omega) (by omega) k v e.2
      · rw [goF_last most down (lineM a b) f h2] at e
        have e2 : k = [] ∧ (gM (lineM a b) (toJ most down (lineM a b) i), down, ()) = v := by
          have := List.append_inj' (s₁ := []) (t₁ := [(gM (lineM a b) (toJ most down (lineM a b) i), down, ())]) (s₂ := k) (t₂ := [v]) e rfl
          exact ⟨this.1.symm, by simpa using this.2⟩
        rw [← e2.2]
        have : toJ most down (lineM a b) i = (lineM a b).length - 1 := by omega
        show gM (lineM a b) (toJ most down (lineM a b) i) = b
        rw [this, line_last ha hb]
    · simp at e
theorem goL_nil {most : Nat} {down : Bool} {a b : Mk} (ha : OnP a) (hb : OnP b) (h : goL most down a b = []) : a = b := by
  have hl := lineM_length ha hb
  obtain ⟨f0, _, _⟩ := far_bd ha hb
  unfold goL goF at h
  split at h
  · simp at h
  · exact far_zero ha hb (by omega)
theorem PlD.up {most : Nat} (hm : 1 ≤ most) {st : Mk × List Stp} {S : Mk → Prop} (h : PlD st S) {b : Mk} (hb : OnP b) : PlD (b, st.2 ++ goL most false st.1 b) S := by
  have hl := lineM_length h.at_ hb
  obtain ⟨f0, f1, _⟩ := far_bd h.at_ hb
  refine ⟨hb, fun x => ?_, fun k v e => ?_⟩
  · show x ∈ drw (st.2 ++ goL most false st.1 b) ↔ _
    unfold goL
    rw [drw_ups _ _ (goF_ups most _ _ _), h.draws]
  · rcases List.eq_nil_or_concat (goL most false st.1 b) with h2 | ⟨q, w, h2⟩
    · have e : st.2 ++ goL most false st.1 b = k ++ [v] := e
      rw [h2, List.append_nil] at e
      rw [h.last k v e]
      exact goL_nil h.at_ hb h2
    · rw [List.concat_eq_append] at h2
      have e : st.2 ++ goL most false st.1 b = k ++ [v] := e
      rw [h2, ← List.append_assoc] at e
      have e2 : w = v := by have := (List.append_inj' e rfl).2; simpa using this
      rw [← e2]
      exact goF_end hm false h.at_ hb 64 0 (by omega) (by omega) q w h2
theorem PlD.put {st : Mk × List Stp} {S : Mk → Prop} (h : PlD st S) : PlD (st.1, st.2 ++ [dwn st.1]) (fun x => S x ∨ x = st.1) := by
  refine ⟨h.at_, fun x => ?_, fun k v e => ?_⟩
  · show x ∈ drw (st.2 ++ [dwn st.1]) ↔ _
    rcases List.eq_nil_or_concat st.2 with h2 | ⟨q, w, h2⟩
    · have := h.draws x
      rw [h2] at this ⊢
      rw [← this]
      simp [drw, onk, dwn]
    · rw [List.concat_eq_append] at h2
      have hw := h.last q w h2
      have := h.draws x
      rw [h2] at this ⊢
      rw [drw_snoc, this]
      have h3 : x ∈ sgm w (dwn st.1) → x = st.1 := by
        intro h
        unfold sgm at h
        split at h
        · rw [hw] at h
          have e : lineM st.1 (dwn st.1).1 = [st.1] := lineM_same
          rw [e] at h
          simpa using h
        · simp at h
      have h4 : x ∈ onk (dwn st.1) ↔ x = st.1 := by simp [onk, dwn]
      rw [h4]
      constructor <;> intro h
      · rcases h with h | h | h
        · simp [h]
        · simp [h3 h]
        · simp [h]
      · rcases h with h | h <;> simp [h]
  · have e : st.2 ++ [dwn st.1] = k ++ [v] := e
    have e2 : dwn st.1 = v := by have := (List.append_inj' e rfl).2; simpa using this
    rw [← e2]; rfl
theorem PlD.down {most : Nat} (hm : 1 ≤ most) {st : Mk × List Stp} {S : Mk → Prop} (h : PlD st S) (hd : ∃ k, st.2 = k ++ [dwn st.1]) {b : Mk} (hb : OnP b) : PlD (drF most st b) (fun x => S x ∨ x ∈ lineM st.1 b) ∧ ∃ k, (drF most st b).2 = k ++ [dwn (drF most st b).1] := by
  have hl := lineM_length h.at_ hb
  obtain ⟨f0, f1, _⟩ := far_bd h.at_ hb
  obtain ⟨k, hk⟩ := hd
  have h0 := gM_zero_line h.at_ hb
  obtain ⟨h1, B, h2⟩ := goF_down hm h.at_ hb 64 0 k (by omega) (by omega)
  rw [h0, ← hk] at h1 h2
  have e : (drF most st b).2 = st.2 ++ goF most true (lineM st.1 b) 64 0 := rfl
  refine ⟨⟨hb, fun x => ?_, fun q v ev => ?_⟩, B, by rw [e, h2]; rfl⟩
  · rw [e, h1, h.draws, List.drop_zero]
  · rw [e, h2] at ev
    have e2 : dwn b = v := by have := (List.append_inj' ev rfl).2; simpa using this
    rw [← e2]; rfl
theorem PlD.line {most : Nat} (hm : 1 ≤ most) : ∀ (l : List Mk) {st : Mk × List Stp} {S : Mk → Prop}, PlD st S → (∃ k, st.2 = k ++ [dwn st.1]) → (∀ m ∈ l, OnP m) → S st.1 → PlD (l.foldl (drF most) st) (fun x => S x ∨ x ∈ drs (st.1 :: l))
  | [], st, S, h, _, _, hs => by
    refine ⟨h.at_, fun x => ?_, h.last⟩
    rw [List.foldl_nil, h.draws]
    simp only [drs, List.map_cons, List.map_nil, drw, onk, dwn, if_true, List.mem_singleton]
    constructor
    · exact .inl
    · rintro (h | rfl)
      · exact h
      · exact hs
  | m :: l, st, S, h, hd, hon, hs => by
    have hmm := hon m (by simp)
    obtain ⟨h1, h2⟩ := h.down hm hd hmm
    have h3 := PlD.line hm l h1 h2 (fun x hx => hon x (by simp [hx])) (.inr (lineM_end h.at_ hmm))
    refine ⟨h3.at_, fun x => ?_, h3.last⟩
    rw [List.foldl_cons, h3.draws]
    have e : drs (st.1 :: m :: l) = st.1 :: (lineM st.1 m ++ drs (m :: l)) := by
      simp [drs, drw, onk, sgm, dwn]
    rw [e]
    show (S x ∨ x ∈ lineM st.1 m) ∨ x ∈ drs (m :: l) ↔ S x ∨ x ∈ st.1 :: (lineM st.1 m ++ drs (m :: l))
    simp only [List.mem_cons, List.mem_append]
    constructor <;> intro h
    · rcases h with (h | h) | h <;> simp [h]
    · rcases h with h | h | h | h
      · simp [h]
      · subst h; simp [hs]
      · simp [h]
      · simp [h]
theorem PlD.stroke {most : Nat} (hm : 1 ≤ most) {st : Mk × List Stp} {S : Mk → Prop} (h : PlD st S) {s : Stk} (h1 : 1 ≤ s.length) (hon : ∀ m ∈ s, OnP m) : PlD (stF most st s) (fun x => S x ∨ x ∈ drs s) := by
  have h0 : OnP (gM s 0) := hon _ (gM_idx (L := s) (i := 0) (Int.le_refl _) (by omega)).mem
  have a := (h.up hm h0).put
  have b := PlD.line hm (s.drop 1) a ⟨_, rfl⟩ (fun m hm => hon m (List.mem_of_mem_drop hm)) (.inr rfl)
  have es : gM s 0 :: s.drop 1 = s := by
    cases s with
    | nil => simp at h1
    | cons c r => rfl
  have hin : gM s 0 ∈ drs s := by
    rw [← es]
    exact drw_mem _ (dwn (gM s 0)) (by simp) rfl
  have e : stF most st s = (s.drop 1).foldl (drF most) (gM s 0, st.2 ++ goL most false st.1 (gM s 0) ++ [dwn (gM s 0)]) := rfl
  rw [e]
  refine ⟨b.at_, fun x => ?_, b.last⟩
  rw [b.draws]
  show (S x ∨ x = gM s 0) ∨ x ∈ drs (gM s 0 :: s.drop 1) ↔ _
  rw [es]
  constructor <;> intro h
  · rcases h with (h | h) | h
    · exact .inl h
    · subst h; exact .inr hin
    · exact .inr h
  · rcases h with h | h <;> simp [h]
theorem plD {most : Nat} (hm : 1 ≤ most) {K : List Stk} (G : ∀ s ∈ K, (1 ≤ (s.length : Int) ∧ (s.length : Int) ≤ 60) ∧ ∀ m ∈ s, OnP m) : PlD (o0, plP most K) (fun x => x ∈ drK K) := by
  have : ∀ (l : List Stk) (st : Mk × List Stp) (S : Mk → Prop), (∀ s ∈ l, (1 ≤ (s.length : Int) ∧ (s.length : Int) ≤ 60) ∧ ∀ m ∈ s, OnP m) → PlD st S → PlD (l.foldl (stF most) st) (fun x => S x ∨ x ∈ drK l) := by
    intro l
    induction l with
    | nil =>
      intro st S _ h
      exact ⟨h.at_, fun x => by rw [List.foldl_nil, h.draws]; simp [drK], h.last⟩
    | cons s l ih =>
      intro st S hl h
      obtain ⟨a, b⟩ := hl s List.mem_cons_self
      have h1 := ih (stF most st s) _ (fun x hx => hl x (List.mem_cons_of_mem _ hx)) (h.stroke hm (by omega) b)
      refine ⟨h1.at_, fun x => ?_, h1.last⟩
      rw [List.foldl_cons, h1.draws]
      simp only [drK, List.flatMap_cons, List.mem_append]
      constructor <;> intro h
      · rcases h with (h | h) | h <;> simp [h]
      · rcases h with h | h | h <;> simp [h]
  have h0 : PlD (o0, []) (fun _ => False) := ⟨o0_on, fun x => by simp [drw], fun k a e => by simp at e⟩
  have h1 := (this K (o0, []) _ G h0).up hm o0_on
  refine ⟨h1.at_, fun x => ?_, h1.last⟩
  have := h1.draws x
  simp only [false_or] at this
  exact this
end Go.Cams

/- Machines that are compiled of strokes, in plain terms. -/
namespace Go.Cams
open Go Go.Fw
/-! ### Near -/
def endM (a : Mk) : List Stp → Mk
  | [] => a
  | s :: r => endM s.1 r
def Ch (most : Int) (a : Mk) : List Stp → Prop
  | [] => True
  | s :: r => far a s.1 ≤ most ∧ Ch most s.1 r
theorem ch_append {most : Int} : ∀ (l r : List Stp) (a : Mk), Ch most a (l ++ r) ↔ Ch most a l ∧ Ch most (endM a l) r
  | [], r, a => by simp [Ch, endM]
  | s :: l, r, a => by simp [Ch, endM, ch_append l r s.1, and_assoc]
theorem endM_snoc : ∀ (l : List Stp) (a : Mk) (s : Stp), endM a (l ++ [s]) = s.1
  | [], a, s => rfl
  | c :: l, a, s => endM_snoc l c.1 s
theorem endM_append : ∀ (l r : List Stp) (a : Mk), endM a (l ++ r) = endM (endM a l) r
  | [], r, a => rfl
  | c :: l, r, a => endM_append l r c.1
theorem far_self (a : Mk) : far a a = 0 := by unfold far siz; simp
theorem far_comm (a b : Mk) : far a b = far b a := by
  unfold far siz
  have : ∀ x y : Int, (if x - y < 0 then -(x - y) else x - y) = if y - x < 0 then -(y - x) else y - x := fun x y => by split <;> split <;> omega
  rw [this (g a 0), this (g a 1)]
theorem nr_steps {d n k : Int} (hn : 0 < n) (h1 : -n ≤ d) (h2 : d ≤ n) : ∀ j : Nat, -(j : Int) ≤ nr ((k + j) * d) n - nr (k * d) n ∧ nr ((k + j) * d) n - nr (k * d) n ≤ j
  | 0 => by
    have : k + ((0 : Nat) : Int) = k := by omega
    rw [this]; omega
  | j + 1 => by
    have ih := nr_steps (k := k) hn h1 h2 j
    have := nr_step (k := k + j) hn h1 h2
    rw [show k + ((j + 1 : Nat) : Int) = k + j + 1 by omega]
    omega
theorem line_far {a b : Mk} (ha : OnP a) (hb : OnP b) {i j : Nat} (hij : i ≤ j) (hj : j < (lineM a b).length) : far (gM (lineM a b) i) (gM (lineM a b) j) ≤ (j : Int) - i := by
  have hl := lineM_length ha hb
  obtain ⟨f0, f1, f2⟩ := far_bd ha hb
  by_cases hn : far a b = 0
  · have : i = j := by omega
    subst this
    rw [far_self]; omega
  · rw [lineM_get hn (by omega), lineM_get hn (by omega)]
    have s0 := nr_steps (k := (i : Int)) (show 0 < far a b by omega) (f2 0 (.inl rfl)).1 (f2 0 (.inl rfl)).2 (j - i)
    have s1 := nr_steps (k := (i : Int)) (show 0 < far a b by omega) (f2 1 (.inr rfl)).1 (f2 1 (.inr rfl)).2 (j - i)
    rw [show (i : Int) + ((j - i : Nat) : Int) = (j : Nat) by omega] at s0 s1
    have h3 : ∀ x, siz x = if x < 0 then -x else x := fun _ => rfl
    show max (siz (pt a b (i : Nat) 0 - pt a b (j : Nat) 0)) (siz (pt a b (i : Nat) 1 - pt a b (j : Nat) 1)) ≤ _
    unfold pt
    rw [h3, h3]
    split <;> split <;> omega
theorem goF_ch {most : Nat} (hm : 1 ≤ most) (down : Bool) {a b : Mk} (ha : OnP a) (hb : OnP b) : ∀ (f i : Nat), i < (lineM a b).length → Ch most (gM (lineM a b) i) (goF most down (lineM a b) f i)
  | 0, _, _ => trivial
  | f + 1, i, hi => by
    unfold goF
    split
    · rename_i h
      have hj := toJ_bd hm down ha hb h
      refine ⟨?_, goF_ch hm down ha hb f _ (by omega)⟩
      have h1 := line_far ha hb (i := i) (j := toJ most down (lineM a b) i) (by omega) (by omega)
      have h2 : toJ most down (lineM a b) i ≤ i + most := by
        unfold toJ
        split
        · have := bkJ_le (lineM a b) i (min (i + most) ((lineM a b).length - 1)); omega
        · omega
      show far (gM (lineM a b) i) (gM (lineM a b) (toJ most down (lineM a b) i)) ≤ most
      omega
    · trivial
theorem goL_ch {most : Nat} (hm : 1 ≤ most) (down : Bool) {a b : Mk} (ha : OnP a) (hb : OnP b) : Ch most a (goL most down a b) := by
  have hl := lineM_length ha hb
  obtain ⟨f0, f1, f2⟩ := far_bd ha hb
  have := goF_ch hm down ha hb 64 0 (by omega)
  rw [gM_zero_line ha hb] at this
  exact this
theorem goL_end {most : Nat} (hm : 1 ≤ most) (down : Bool) {a b : Mk} (ha : OnP a) (hb : OnP b) : endM a (goL most down a b) = b := by
  have hl := lineM_length ha hb
  obtain ⟨f0, f1, f2⟩ := far_bd ha hb
  rcases List.eq_nil_or_concat (goL most down a b) with h2 | ⟨q, w, h2⟩
  · rw [h2]; exact goL_nil ha hb h2
  · rw [List.concat_eq_append] at h2
    rw [h2, endM_snoc]
    exact goF_end hm down ha hb 64 0 (by omega) (by omega) q w h2
theorem goF_on {most : Nat} (hm : 1 ≤ most) (down : Bool) {a b : Mk} (ha : OnP a) (hb : OnP b) : ∀ f i, ∀ v ∈ goF most down (lineM a b) f i, OnP v.1
  | 0, _, v, hv => by cases hv
  | f + 1, i, v, hv => by
    unfold goF at hv
    split at hv
    · rename_i h
      have hj := toJ_bd hm down ha hb h
      rcases List.mem_cons.1 hv with rfl | hv
      · exact lineM_on ha hb _ (gM_idx (L := lineM a b) (i := ((toJ most down (lineM a b) i : Nat) : Int)) (by omega) (by omega)).mem
      · exact goF_on hm down ha hb f _ v hv
    · cases hv
/-- Stops that are near one another, on the plate, and end at a place. -/
structure Near (most : Nat) (st : Mk × List Stp) : Prop where
  at_ : OnP st.1
  ch : Ch most o0 st.2
  end_ : endM o0 st.2 = st.1
  on : ∀ v ∈ st.2, OnP v.1
theorem Near.go {most : Nat} (hm : 1 ≤ most) {st : Mk × List Stp} (h : Near most st) (down : Bool) {b : Mk} (hb : OnP b) : Near most (b, st.2 ++ goL most down st.1 b) := by
  refine ⟨hb, ?_, ?_, fun v hv => ?_⟩
  · rw [ch_append, h.end_]; exact ⟨h.ch, goL_ch hm down h.at_ hb⟩
  · rw [endM_append, h.end_]; exact goL_end hm down h.at_ hb
  · rcases List.mem_append.1 hv with hv | hv
    · exact h.on v hv
    · exact goF_on hm down h.at_ hb 64 0 v hv
theorem Near.put {most : Nat} {st : Mk × List Stp} (h : Near most st) (d : Bool) : Near most (st.1, st.2 ++ [(st.1, d, ())]) := by
  refine ⟨h.at_, ?_, by rw [endM_snoc], fun v hv => ?_⟩
  · rw [ch_append, h.end_]
    exact ⟨h.ch, by rw [far_self]; omega, trivial⟩
  · rcases List.mem_append.1 hv with hv | hv
    · exact h.on v hv
    · rw [List.mem_singleton.1 hv]; exact h.at_
theorem plNear {most : Nat} (hm : 1 ≤ most) {K : List Stk} (G : ∀ s ∈ K, (1 ≤ (s.length : Int) ∧ (s.length : Int) ≤ 60) ∧ ∀ m ∈ s, OnP m) : Near most (o0, plP most K) := by
  have h1 : ∀ (l : List Mk) (st : Mk × List Stp), (∀ m ∈ l, OnP m) → Near most st → Near most (l.foldl (drF most) st) := by
    intro l
    induction l with
    | nil => intro st _ h; exact h
    | cons m l ih => intro st hl h; exact ih (drF most st m) (fun x hx => hl x (by simp [hx])) (h.go hm true (hl m (by simp)))
  have h2 : ∀ (l : List Stk) (st : Mk × List Stp), (∀ s ∈ l, (1 ≤ (s.length : Int) ∧ (s.length : Int) ≤ 60) ∧ ∀ m ∈ s, OnP m) → Near most st → Near most (l.foldl (stF most) st) := by
    intro l
    induction l with
    | nil => intro st _ h; exact h
    | cons s l ih =>
      intro st hl h
      obtain ⟨a, b⟩ := hl s List.mem_cons_self
      have h0 : OnP (gM s 0) := b _ (gM_idx (L := s) (i := 0) (Int.le_refl _) (by omega)).mem
      exact ih (stF most st s) (fun x hx => hl x (by simp [hx])) (h1 (s.drop 1) _ (fun m hm => b m (List.mem_of_mem_drop hm)) ((h.go hm false h0).put true))
  exact (h2 K (o0, []) G ⟨o0_on, trivial, rfl, by simp⟩).go hm false o0_on
/-! ### The machine -/
def upS : Stp := (o0, false, ())
/-- The stops of the machine that is compiled. -/
def csL (l : List Stp) (n : Nat) : List Stp := l ++ List.replicate (n - l.length) upS
theorem csL_len {l : List Stp} {n : Nat} (h : l.length ≤ n) : (csL l n).length = n := by simp [csL]; omega
theorem gS_csL {l : List Stp} {n i : Nat} (hi : i < n) : (csL l n)[i]? = some (gS l i) := by
  unfold csL
  by_cases h : i < l.length
  · rw [List.getElem?_append_left h]
    unfold gS
    rw [List.getD_eq_getElem?_getD, List.getElem?_eq_getElem h]; rfl
  · rw [List.getElem?_append_right (by omega), gS_out (by omega), List.getElem?_replicate, if_pos (by omega)]; rfl
theorem mfR_stops {l : List Stp} {n : Nat} (hl : l.length ≤ n) (hon : ∀ v ∈ l, v.1.length = 2) : stopsM (mfR l n) = csL l n := by
  have hlen : (mfR l n).1.length = n := by simp [mfR]
  refine List.ext_getElem? fun i => ?_
  by_cases hi : i < n
  · rw [gS_csL hi]
    unfold stopsM
    rw [hlen, List.getElem?_map, List.getElem?_range hi]
    have g1 : ∀ f : Nat → Int, g ((List.range n).map f) i = f i := fun f => by unfold g; rw [List.getD_eq_getElem?_getD, List.getElem?_map, List.getElem?_range hi]; rfl
    show some (stopM (mfR l n) i) = _
    unfold stopM mfR
    simp only [g1]
    have h2 : (gS l i).1.length = 2 := by
      by_cases h : i < l.length
      · have := (gS_idx (l := l) (i := (i : Int)) (by omega) (by omega)).mem
        exact hon _ this
      · rw [gS_out (by omega)]; rfl
    generalize gS l i = v at h2 ⊢
    obtain ⟨a, d, u⟩ := v
    have h2 : a.length = 2 := h2
    match a, h2 with
    | [x, y], _ => cases d <;> rfl
  · rw [List.getElem?_eq_none (by simp [stopsM, hlen]; omega), List.getElem?_eq_none (by rw [csL_len hl]; omega)]
theorem mfR_ok {l : List Stp} {n : Nat} (h8 : 8 ≤ n) (hn : n ≤ 360) (hon : ∀ v ∈ l, OnP v.1) : okM (mfR l n) = true ∧ RngM (mfR l n) := by
  have hS : ∀ i, OnP (gS l i).1 := fun i => by
    by_cases h : i < l.length
    · exact hon _ (gS_idx (l := l) (i := (i : Int)) (by omega) (by omega)).mem
    · rw [gS_out (by omega)]; exact o0_on
  have key : ∀ f : Nat → Int, (∀ i, 0 ≤ f i ∧ f i ≤ 63) → Rng ((List.range n).map f) ∧ okC ((List.range n).map f) = true ∧ mxL ((List.range n).map f) < 64 := by
    intro f hf
    have hb : ∀ v ∈ (List.range n).map f, 0 ≤ v ∧ v ≤ 63 := by
      intro v hv
      obtain ⟨i, _, rfl⟩ := List.mem_map.1 hv
      exact hf i
    refine ⟨⟨by simp; omega, fun v hv => by have := hb v hv; omega⟩, ?_, ?_⟩
    · simp only [okC, Bool.and_eq_true, inR_iff, List.all_eq_true, okV, List.length_map, List.length_range]
      refine ⟨by omega, fun v hv => ?_⟩
      have := hb v hv
      rw [wrap_id (by omega) (by omega)]; omega
    · have hh : ((List.range n).map f).headD 0 ≤ 63 := by
        cases hr : (List.range n).map f with
        | nil => simp
        | cons a r => exact (hb a (by rw [hr]; simp)).2
      have := mxF_le ((List.range n).map f) _ 63 hh (fun v hv => (hb v hv).2)
      unfold mxL; omega
  obtain ⟨x1, x2, x3⟩ := key (fun i => g (gS l i).1 0) (fun i => (hS i).x)
  obtain ⟨y1, y2, y3⟩ := key (fun i => g (gS l i).1 1) (fun i => (hS i).y)
  obtain ⟨p1, p2, p3⟩ := key (fun i => pen (gS l i)) (fun i => by unfold pen; split <;> omega)
  refine ⟨?_, ⟨x1, y1, p1⟩⟩
  simp only [okM, mv, Bool.and_eq_true, decide_eq_true_eq, beq_iff_eq]
  exact ⟨⟨⟨⟨⟨x2, x3⟩, y2, y3⟩, p2⟩, by simp [mfR]⟩, by simp [mfR]⟩
theorem dcy_eq {l : List Stp} (hl : l ≠ []) (h : ∀ k a, l = k ++ [a] → a.2.1 = true → (l.headD ([], false, ())).2.1 = true → a.1 = (l.headD ([], false, ())).1) (x : Mk) : x ∈ dcy l ↔ x ∈ drw l := by
  obtain ⟨hd, hhd⟩ : ∃ hd, hd = l.headD ([], false, ()) := ⟨_, rfl⟩
  have hmem : hd ∈ l := by
    cases l with
    | nil => exact absurd rfl hl
    | cons a r => rw [hhd]; simp
  unfold dcy
  rw [← hhd] at h ⊢
  rcases List.eq_nil_or_concat l with h4 | ⟨k, a, h4⟩
  · exact absurd h4 hl
  · rw [List.concat_eq_append] at h4
    have e := drw_snoc k a hd x
    rw [← h4] at e
    rw [e]
    constructor
    · intro h2
      have hone : x ∈ onk hd → x ∈ drw l := fun h3 => by
        unfold onk at h3
        split at h3
        · rename_i hs
          rw [List.mem_singleton.1 h3]; exact drw_mem l hd hmem hs
        · simp at h3
      rcases h2 with h2 | h2 | h2
      · exact h2
      · unfold sgm at h2
        split at h2
        · rename_i hs
          have := h k a h4 hs.1 hs.2
          rw [this, lineM_same, List.mem_singleton] at h2
          rw [h2]; exact drw_mem l hd hmem hs.2
        · simp at h2
      · exact hone h2
    · exact .inl
/-- What the machine that is compiled draws. -/
theorem csL_draws {most n : Nat} (hm : 1 ≤ most) (h8 : 8 ≤ n) {K : List Stk} (G : ∀ s ∈ K, (1 ≤ (s.length : Int) ∧ (s.length : Int) ≤ 60) ∧ ∀ m ∈ s, OnP m) (hn : (plP most K).length ≤ n) (x : Mk) : x ∈ dcy (csL (plP most K) n) ↔ x ∈ drK K := by
  have hp := plD hm G
  have hc := plNear hm G
  have hlen := csL_len hn
  rw [dcy_eq (by intro e; rw [e] at hlen; simp at hlen; omega)]
  · unfold csL
    rw [drw_ups _ _ (fun b hb => by rw [(List.mem_replicate.1 hb).2]; rfl)]
    exact hp.draws x
  · intro k a e ha hd
    by_cases hz : n - (plP most K).length = 0
    · have e1 : csL (plP most K) n = plP most K := by unfold csL; rw [hz]; simp
      rw [e1] at e hd ⊢
      have h1 := hp.last k a e
      rw [h1]
      show o0 = _
      -- the first stop is down: it is where the plan begins
      unfold plP at hd ⊢
      cases K with
      | nil =>
        have : goL most false (plF most []).1 o0 = [] := by
          show goL most false o0 o0 = []
          unfold goL
          rw [lineM_same]; exact goF_last _ _ _ _ (by simp)
        rw [this] at hd
        simp [plF] at hd
      | cons s r =>
        obtain ⟨h1', h2'⟩ := G s (by simp)
        have h0 : OnP (gM s 0) := h2' _ (gM_idx (L := s) (i := 0) (Int.le_refl _) (by omega)).mem
        have pre1 : ∀ (l : List Mk) (st : Mk × List Stp), ∃ q, (l.foldl (drF most) st).2 = st.2 ++ q := by
          intro l
          induction l with
          | nil => intro st; exact ⟨[], by simp⟩
          | cons m l ih => intro st; obtain ⟨q, hq⟩ := ih (drF most st m); exact ⟨goL most true st.1 m ++ q, by rw [List.foldl_cons, hq]; simp [drF]⟩
        have pre2 : ∀ (l : List Stk) (st : Mk × List Stp), ∃ q, (l.foldl (stF most) st).2 = st.2 ++ q := by
          intro l
          induction l with
          | nil => intro st; exact ⟨[], by simp⟩
          | cons s l ih =>
            intro st
            obtain ⟨q, hq⟩ := ih (stF most st s)
            obtain ⟨q1, hq1⟩ := pre1 (s.drop 1) (gM s 0, st.2 ++ goL most false st.1 (gM s 0) ++ [(gM s 0, true, ())])
            have : (stF most st s).2 = st.2 ++ goL most false st.1 (gM s 0) ++ [(gM s 0, true, ())] ++ q1 := hq1
            exact ⟨goL most false st.1 (gM s 0) ++ [(gM s 0, true, ())] ++ q1 ++ q, by rw [List.foldl_cons, hq, this]; simp⟩
        obtain ⟨q1, hq1⟩ := pre1 (s.drop 1) (gM s 0, [] ++ goL most false o0 (gM s 0) ++ [(gM s 0, true, ())])
        obtain ⟨q2, hq2⟩ := pre2 r (stF most (o0, []) s)
        have hq1' : (stF most (o0, []) s).2 = [] ++ goL most false o0 (gM s 0) ++ [(gM s 0, true, ())] ++ q1 := hq1
        have e2 : (plF most (s :: r)).2 = goL most false o0 (gM s 0) ++ ((gM s 0, true, ()) :: (q1 ++ q2)) := by
          show (r.foldl (stF most) (stF most (o0, []) s)).2 = _
          rw [hq2, hq1']; simp
        rw [e2] at hd ⊢
        cases hg : goL most false o0 (gM s 0) with
        | nil =>
          have := goL_nil o0_on h0 hg
          simp [← this]
        | cons c t =>
          rw [hg] at hd
          have hc : c.2.1 = false := goF_ups most _ 64 0 c (by
            have : goF most false (lineM o0 (gM s 0)) 64 0 = goL most false o0 (gM s 0) := rfl
            rw [this, hg]; simp)
          simp [hc] at hd
    · exfalso
      obtain ⟨j, hj⟩ : ∃ j, n - (plP most K).length = j + 1 := ⟨n - (plP most K).length - 1, by omega⟩
      unfold csL at e
      rw [hj, List.replicate_succ', ← List.append_assoc] at e
      have e2 : upS = a := by have := (List.append_inj' e rfl).2; simpa using this
      rw [← e2] at ha
      cases ha
end Go.Cams

/- Inner loops with untold results; drawn strokes. -/
namespace Go.Fw
variable {α β σ τ : Type}
theorem inner_ex {f : Nat → (σ → Option α) → τ → (τ → Option α) → Option α} (I : τ → Prop) (μ : τ → Nat) (Q : σ → Prop) {x : τ} (h : I x)
    (step : ∀ x, I x → (∃ s, Q s ∧ ∀ y, Round (σ := σ ⊕ τ) (fun n ag => f n (fun s => ag (.inl s)) x (fun t => ag (.inr t))) y (fun z => z = .inl s)) ∨ (∃ x1, I x1 ∧ μ x1 < μ x ∧ ∀ y, Round (σ := σ ⊕ τ) (fun n ag => f n (fun s => ag (.inl s)) x (fun t => ag (.inr t))) y (fun z => z = .inr x1))) :
    ∃ s, Q s ∧ ∀ y, Round (fun n ag => loopK (f n ag) n x) y (fun x' => x' = s) := by
  have key : ∀ m x, I x → μ x ≤ m → ∃ s, Q s ∧ ∀ y, (∃ N, ∀ n, N ≤ n → ∀ k, m < k → ∀ ag, loopK (f n ag) k x = some y) ∨ (∃ N, ∀ n, N ≤ n → ∀ k, m < k → ∀ ag, loopK (f n ag) k x = ag s) := by
    intro m
    induction m with
    | zero =>
      intro x hx hm
      rcases step x hx with ⟨s, hs, hR⟩ | ⟨x1, _, hlt, _⟩
      · refine ⟨s, hs, fun y => ?_⟩
        rcases hR y with ⟨N, hN⟩ | ⟨z, rfl, N, hN⟩
        · refine .inl ⟨N, fun n hn k hk ag => ?_⟩
          obtain ⟨k, rfl⟩ : ∃ j, k = j + 1 := ⟨k - 1, by omega⟩
          exact hN n hn (fun z => match z with | .inl s => ag s | .inr t => loopK (f n ag) k t)
        · refine .inr ⟨N, fun n hn k hk ag => ?_⟩
          obtain ⟨k, rfl⟩ : ∃ j, k = j + 1 := ⟨k - 1, by omega⟩
          exact hN n hn (fun z => match z with | .inl s => ag s | .inr t => loopK (f n ag) k t)
      · omega
    | succ m ih =>
      intro x hx hm
      rcases step x hx with ⟨s, hs, hR⟩ | ⟨x1, hx1, hlt, hR⟩
      · refine ⟨s, hs, fun y => ?_⟩
        rcases hR y with ⟨N, hN⟩ | ⟨z, rfl, N, hN⟩
        · refine .inl ⟨N, fun n hn k hk ag => ?_⟩
          obtain ⟨k, rfl⟩ : ∃ j, k = j + 1 := ⟨k - 1, by omega⟩
          exact hN n hn (fun z => match z with | .inl s => ag s | .inr t => loopK (f n ag) k t)
        · refine .inr ⟨N, fun n hn k hk ag => ?_⟩
          obtain ⟨k, rfl⟩ : ∃ j, k = j + 1 := ⟨k - 1, by omega⟩
          exact hN n hn (fun z => match z with | .inl s => ag s | .inr t => loopK (f n ag) k t)
      · obtain ⟨s, hs, hS⟩ := ih x1 hx1 (by omega)
        refine ⟨s, hs, fun y => ?_⟩
        rcases hR y with ⟨N, hN⟩ | ⟨z, rfl, N, hN⟩
        · refine .inl ⟨N, fun n hn k hk ag => ?_⟩
          obtain ⟨k, rfl⟩ : ∃ j, k = j + 1 := ⟨k - 1, by omega⟩
          exact hN n hn (fun z => match z with | .inl s => ag s | .inr t => loopK (f n ag) k t)
        · have h1 : ∀ n, N ≤ n → ∀ k ag, loopK (f n ag) (k + 1) x = loopK (f n ag) k x1 := fun n hn k ag => hN n hn (fun z => match z with | .inl s => ag s | .inr t => loopK (f n ag) k t)
          rcases hS y with ⟨M, hM⟩ | ⟨M, hM⟩
          · refine .inl ⟨N + M, fun n hn k hk ag => ?_⟩
            obtain ⟨k, rfl⟩ : ∃ j, k = j + 1 := ⟨k - 1, by omega⟩
            rw [h1 n (by omega)]
            exact hM n (by omega) k (by omega) ag
          · refine .inr ⟨N + M, fun n hn k hk ag => ?_⟩
            obtain ⟨k, rfl⟩ : ∃ j, k = j + 1 := ⟨k - 1, by omega⟩
            rw [h1 n (by omega)]
            exact hM n (by omega) k (by omega) ag
  obtain ⟨s, hs, hS⟩ := key (μ x) x h (Nat.le_refl _)
  refine ⟨s, hs, fun y => ?_⟩
  rcases hS y with ⟨N, hN⟩ | ⟨N, hN⟩
  · left; exact ⟨N + μ x + 1, fun n hn ag => hN n (by omega) n (by omega) ag⟩
  · right; exact ⟨s, rfl, N + μ x + 1, fun n hn ag => hN n (by omega) n (by omega) ag⟩
end Go.Fw
namespace Go.Cams
open Go Go.Fw
/-- Strokes as they are drawn. -/
def SmT (K : List Stk) : Prop := K.length ≤ 4 ∧ ∀ s ∈ K, (1 ≤ s.length ∧ s.length ≤ 4) ∧ ∀ m ∈ s, OnP m
theorem SmT.good {K : List Stk} (h : SmT K) : ∀ s ∈ K, (1 ≤ (s.length : Int) ∧ (s.length : Int) ≤ 60) ∧ ∀ m ∈ s, OnP m := fun s hs => ⟨by have := (h.2 s hs).1; omega, (h.2 s hs).2⟩
theorem SmT.rng {K : List Stk} (h : SmT K) : RngT K := ⟨by have := h.1; omega, fun s hs => ⟨by have := (h.2 s hs).1; omega, fun m hm => ⟨((h.2 s hs).2 m hm).len, onP_rng ((h.2 s hs).2 m hm)⟩⟩⟩
theorem okMk_of {m : Mk} (h : OnP m) : okMk m = true := by
  have hx := h.x; have hy := h.y
  simp only [okMk, Bool.and_eq_true, inR_iff]
  rw [wrap_id (by omega) (by omega), wrap_id (by omega) (by omega)]
  exact ⟨hx, hy⟩
theorem skCode_ok {K : List Stk} (hl : K.length ≤ 20) (G : ∀ s ∈ K, (1 ≤ (s.length : Int) ∧ (s.length : Int) ≤ 60) ∧ ∀ m ∈ s, OnP m) : skCode K = 0 := by
  unfold skCode
  have h1 : K.all okSk = true := List.all_eq_true.2 fun s hs => by
    simp only [okSk, Bool.and_eq_true, inR_iff, List.all_eq_true]
    exact ⟨(G s hs).1, fun m hm => okMk_of ((G s hs).2 m hm)⟩
  rw [h1, if_neg (by simp), if_neg (by omega)]
/-- The marks of a stroke, as they are drawn one after another. -/
def skM (s : Stk) : Nat → List Mk
  | 0 => []
  | k + 1 => skM s k ++ (if k = 0 then [gM s 0] else gM s k :: lineM (gM s (k - 1)) (gM s k))
theorem skM_on {s : Stk} (h : ∀ m ∈ s, OnP m) : ∀ k, k ≤ s.length → ∀ m ∈ skM s k, OnP m
  | 0, _, m, hm => by simp [skM] at hm
  | k + 1, hk, m, hm => by
    have hat : ∀ i, i < s.length → OnP (gM s i) := fun i hi => h _ (gM_idx (L := s) (i := (i : Int)) (by omega) (by omega)).mem
    unfold skM at hm
    rcases List.mem_append.1 hm with hm | hm
    · exact skM_on h k (by omega) m hm
    · split at hm
      · rename_i e
        rw [List.mem_singleton.1 hm]; exact hat 0 (by omega)
      · rcases List.mem_cons.1 hm with rfl | hm
        · exact hat k (by omega)
        · exact lineM_on (hat (k - 1) (by omega)) (hat k (by omega)) m hm
theorem drs_take {s : Stk} (h : ∀ m ∈ s, OnP m) (x : Mk) : ∀ k, k ≤ s.length → (x ∈ drs (s.take k) ↔ x ∈ skM s k)
  | 0, _ => by simp [drs, drw, skM]
  | 1, hk => by
    have e : s.take 1 = [gM s 0] := by
      cases s with
      | nil => simp at hk
      | cons a r => rfl
    rw [e]
    simp [drs, drw, onk, dwn, skM]
  | k + 2, hk => by
    have ih := drs_take h x (k + 1) (by omega)
    have hg : ∀ i, i < s.length → s.take (i + 1) = s.take i ++ [gM s i] := fun i hi => by
      have := (gM_idx (L := s) (i := (i : Int)) (by omega) (by omega)).take
      rwa [Int.toNat_natCast, show ((i : Int) + 1).toNat = i + 1 by omega] at this
    rw [hg (k + 1) (by omega), hg k (by omega), drs_snoc, ← hg k (by omega), ih]
    show _ ↔ x ∈ skM s (k + 1) ++ (if k + 1 = 0 then [gM s 0] else gM s (k + 1) :: lineM (gM s (k + 1 - 1)) (gM s (k + 1)))
    rw [if_neg (by omega), Nat.add_sub_cancel, List.mem_append, List.mem_cons]
    constructor <;> intro h <;> rcases h with h | h | h <;> simp [h]
/-- The marks of strokes. -/
def kM (K : List Stk) (i : Nat) : List Mk := (K.take i).flatMap fun s => skM s s.length
theorem kM_draws {K : List Stk} (G : ∀ s ∈ K, ∀ m ∈ s, OnP m) (x : Mk) : x ∈ kM K K.length ↔ x ∈ drK K := by
  unfold kM drK
  rw [List.take_length, List.mem_flatMap, List.mem_flatMap]
  have : ∀ s ∈ K, (x ∈ skM s s.length ↔ x ∈ drs s) := fun s hs => by
    have := drs_take (G s hs) x s.length (Nat.le_refl _)
    rw [List.take_length] at this
    exact this.symm
  exact ⟨fun ⟨s, hs, h⟩ => ⟨s, hs, (this s hs).1 h⟩, fun ⟨s, hs, h⟩ => ⟨s, hs, (this s hs).2 h⟩⟩
theorem drK_plt {K : List Stk} (G : ∀ s ∈ K, ∀ m ∈ s, OnP m) : plt (kM K K.length) = plt (drK K) := plate_ext fun x => kM_draws G x
theorem plt_len (L : List Mk) : (plt L).length = 64 := by simp [plt, tb_len]
/-- The machine that is compiled of drawn strokes. -/
theorem csR_cases {K : List Stk} (h : SmT K) {most : Int} (h1 : 1 ≤ most) (h2 : most ≤ 63) : ((psR K most).2.1 = 4 ∧ (csR K most).2.1 = 4) ∨ (psR K most = (plP most.toNat K, 0, ()) ∧ (plP most.toNat K).length ≤ 360 ∧ csR K most = (mfR (plP most.toNat K) (max 8 (plP most.toNat K).length), 0, ())) := by
  have hc := skCode_ok (by have := h.1; omega) h.good
  have hi : inR most 1 63 = true := inR_iff.2 ⟨h1, h2⟩
  by_cases hl : ((plP most.toNat K).length : Int) > 360
  · left
    have e : psR K most = ([], 4, ()) := by unfold psR; rw [if_neg (by simp [hc]), if_neg (by simp [hi]), if_pos hl]
    refine ⟨by rw [e], ?_⟩
    unfold csR; rw [e]; rfl
  · right
    have e : psR K most = (plP most.toNat K, 0, ()) := by unfold psR; rw [if_neg (by simp [hc]), if_neg (by simp [hi]), if_neg hl]
    refine ⟨e, by omega, ?_⟩
    unfold csR; rw [e]; rfl
/-- What is known of that machine. -/
structure CmpM (K : List Stk) (most : Int) (m : Mch) (l : List Stp) : Prop where
  ok : okM m = true
  rng : RngM m
  len : l.length ≤ 360
  n8 : 8 ≤ m.1.length
  stops : stopsM m = csL l (max 8 l.length)
  mlen : m.1.length = max 8 l.length
  draw : drawTo m m.1.length = plt (drK K)
  on : ∀ v ∈ l, OnP v.1
  ch : Ch most o0 l ∧ endM o0 l = o0
theorem cmpM {K : List Stk} (h : SmT K) {most : Int} (h1 : 1 ≤ most) (h2 : most ≤ 63) (hl : (plP most.toNat K).length ≤ 360) : CmpM K most (mfR (plP most.toNat K) (max 8 (plP most.toNat K).length)) (plP most.toNat K) := by
  have hm : 1 ≤ most.toNat := by omega
  have hn := plNear hm h.good
  have e : ((most.toNat : Nat) : Int) = most := by omega
  obtain ⟨a, b⟩ := mfR_ok (l := plP most.toNat K) (n := max 8 (plP most.toNat K).length) (by omega) (by omega) hn.on
  have hs := mfR_stops (l := plP most.toNat K) (n := max 8 (plP most.toNat K).length) (by omega) (fun v hv => (hn.on v hv).len)
  have hml : (mfR (plP most.toNat K) (max 8 (plP most.toNat K).length)).1.length = max 8 (plP most.toNat K).length := by simp [mfR]
  refine ⟨a, b, hl, by rw [hml]; omega, hs, hml, ?_, hn.on, by have := hn.ch; rw [e] at this; exact this, hn.end_⟩
  rw [drawTo_dcy b (goodM a), hs]
  exact plate_ext fun x => csL_draws hm (by omega) h.good (by omega) x
/-- No move is longer than told. -/
theorem Ch.get {most : Int} : ∀ {l : List Stp} {a : Mk}, Ch most a l → ∀ {i : Nat} {s t : Stp}, l[i]? = some s → l[i + 1]? = some t → far s.1 t.1 ≤ most
  | [], _, _, i, s, t, h, _ => by simp at h
  | [c], _, _, i, s, t, _, h => by simp at h
  | c :: d :: r, a, h, 0, s, t, h1, h2 => by
    simp at h1 h2
    subst h1; subst h2
    exact h.2.1
  | c :: d :: r, a, h, i + 1, s, t, h1, h2 => Ch.get (l := d :: r) (a := c.1) h.2 (i := i) (by simpa using h1) (by simpa using h2)
theorem Ch.first {most : Int} {l : List Stp} {a : Mk} {t : Stp} (h : Ch most a l) (h2 : l[0]? = some t) : far a t.1 ≤ most := by
  cases l with
  | nil => simp at h2
  | cons c r => simp at h2; subst h2; exact h.1
theorem endM_get {l : List Stp} {a : Mk} {s : Stp} (h : l[l.length - 1]? = some s) : endM a l = s.1 := by
  rcases List.eq_nil_or_concat l with h4 | ⟨k, b, h4⟩
  · subst h4; simp at h
  · rw [List.concat_eq_append] at h4
    subst h4
    rw [endM_snoc]
    simp at h
    rw [h]
theorem csL_near {most : Int} (h1 : 1 ≤ most) {l : List Stp} {n : Nat} (hl : l.length ≤ n) (hc : Ch most o0 l ∧ endM o0 l = o0) {i : Nat} (hi : i < n) {s t : Stp} (hs : (csL l n)[i]? = some s) (ht : (csL l n)[(i + 1) % n]? = some t) : far s.1 t.1 ≤ most := by
  have hup : ∀ k, Ch most o0 (List.replicate k upS) ∧ endM o0 (List.replicate k upS) = o0 := by
    intro k
    induction k with
    | zero => exact ⟨trivial, rfl⟩
    | succ k ih => exact ⟨⟨by show far o0 o0 ≤ most; rw [far_self]; omega, ih.1⟩, ih.2⟩
  have hch : Ch most o0 (csL l n) := by unfold csL; rw [ch_append, hc.2]; exact ⟨hc.1, (hup _).1⟩
  have hend : endM o0 (csL l n) = o0 := by unfold csL; rw [endM_append, hc.2]; exact (hup _).2
  have hlen := csL_len hl
  by_cases h : i + 1 < n
  · rw [Nat.mod_eq_of_lt h] at ht
    exact hch.get hs ht
  · have e : i + 1 = n := by omega
    rw [e, Nat.mod_self] at ht
    have hs' : (csL l n)[(csL l n).length - 1]? = some s := by rw [hlen, show n - 1 = i by omega]; exact hs
    have := endM_get (a := o0) hs'
    rw [hend] at this
    rw [← this]
    exact hch.first ht
end Go.Cams
namespace Go.Cams
open Go Go.Fw
theorem allS_same (p : List Int) : ∀ y, allS (dif p p) y = (0, [0, 0])
  | 0 => rfl
  | y + 1 => by
    have h : dif p p y = 0 := by unfold dif; exact Nat.xor_self _
    unfold allS
    rw [allS_same p y, h, rowS_zero]
theorem trS_ne {p : List Stk × Stk} (h : ∀ s ∈ p.1, s ≠ []) (s : Stp) : ∀ t ∈ (trS p s).1, t ≠ [] := by
  intro t ht
  unfold trS at ht
  split at ht
  · by_cases e : p.2 = []
    · rw [if_pos e] at ht; exact h t ht
    · rw [if_neg e] at ht
      rcases List.mem_append.1 ht with ht | ht
      · exact h t ht
      · rw [List.mem_singleton.1 ht]; exact e
  · split at ht
    · rename_i e
      rcases List.mem_append.1 ht with ht | ht
      · exact h t ht
      · rw [List.mem_singleton.1 ht]; intro e2; rw [e2] at e; simp at e
    · exact h t ht
theorem trL_ne (l : List Stp) : ∀ t ∈ (trL l).1, t ≠ [] := by
  refine rev_ind (P := fun l => ∀ t ∈ (trL l).1, t ≠ []) (fun t ht => by simp [trL] at ht) (fun l s ih => ?_) l
  rw [trL_snoc]; exact trS_ne ih s
theorem shutT_ne {p : List Stk × Stk} (h : ∀ s ∈ p.1, s ≠ []) : ∀ t ∈ shutT p, t ≠ [] := by
  intro t ht
  unfold shutT at ht
  split at ht
  · exact h t ht
  · rename_i e
    rcases List.mem_append.1 ht with ht | ht
    · exact h t ht
    · rw [List.mem_singleton.1 ht]; exact e
theorem trR_ne (l : List Stp) : ∀ t ∈ trR l, t ≠ [] := by
  rw [trR_eq]
  have h := trL_ne l
  split
  · exact h
  · split
    · exact shutT_ne (trS_ne h _)
    · rename_i e _
      have := shutT_ne h
      simpa [shutT, e] using this
theorem far_nn (a b : Mk) : 0 ≤ far a b := by
  unfold far
  have : ∀ x, 0 ≤ siz x := fun x => by unfold siz; split <;> omega
  have := this (g a 0 - g b 0)
  omega
theorem siz_of {x : Int} (h : 0 ≤ x) : siz x = x := by unfold siz; rw [if_neg (by omega)]
def mvS (l : List Stp) : List Int := tb l.length fun i => far (gS l i).1 (gS l ((i + 1) % l.length)).1
/-- No move of the compiled machine is longer than told. -/
theorem cmp_moves {K : List Stk} {most : Int} (h1 : 1 ≤ most) {m : Mch} {l : List Stp} (h : CmpM K most m l) : (gr (mvS (stopsM m))).2.1 ≤ most := by
  unfold gr
  rw [gr_le]
  refine ⟨by show (-1 : Int) ≤ most; omega, fun v hv => ?_⟩
  obtain ⟨i, hi, rfl⟩ := tb_mem hv
  rw [h.stops] at hi ⊢
  have hlen := csL_len (l := l) (n := max 8 l.length) (by omega)
  rw [hlen] at hi ⊢
  have hm := Nat.mod_lt (i + 1) (show 0 < max 8 l.length by omega)
  have e : ∀ j, j < max 8 l.length → (csL l (max 8 l.length))[j]? = some (gS (csL l (max 8 l.length)) j) := fun j hj => by
    have := (gS_idx (l := csL l (max 8 l.length)) (i := (j : Int)) (by omega) (by omega)).get
    rwa [Int.toNat_natCast] at this
  rw [siz_of (far_nn _ _)]
  exact csL_near h1 (by omega) h.ch hi (e i hi) (e _ hm)
/-- What a machine's strokes draw, is what it draws. -/
theorem soR_draws {m : Mch} (hr : RngM m) (h : okM m = true) (h2 : (soR m).2.1 = 0) : skCode (soR m).1 = 0 ∧ plt (drK (soR m).1) = drawTo m m.1.length := by
  have G := goodM h
  have lx := okC_len G.x
  have hl : (stopsM m).length = m.1.length := by simp [stopsM]
  have hon : ∀ s ∈ stopsM m, OnP s.1 := by
    intro s hs
    simp only [stopsM, List.mem_map, List.mem_range] at hs
    obtain ⟨i, hi, rfl⟩ := hs
    exact stop_on hr G hi
  have hk := trR_ok (stopsM m) (by omega) hon
  have e : soR m = (trR (stopsM m), 0, ()) ∧ (trR (stopsM m)).length ≤ 20 := by
    unfold soR at h2 ⊢
    rw [if_pos h] at h2 ⊢
    split at h2
    · cases h2
    · rename_i h3
      rw [if_neg h3]
      exact ⟨rfl, by omega⟩
  rw [e.1]
  refine ⟨skCode_ok e.2 fun s hs => ⟨⟨?_, by have := (hk.2 s hs).1; omega⟩, (hk.2 s hs).2⟩, ?_⟩
  · have := trR_ne _ s hs
    have := List.length_pos_iff.2 this
    omega
  · rw [drawTo_dcy hr G]
    exact plate_ext fun x => trR_draws _ (by intro e; rw [e] at hl; simp at hl; omega) x
end Go.Cams

/- Flat cutters and feet; springs that keep a follower on its cam; shafts that turn with the machine, in plain terms. -/
namespace Go.Cams
open Go Go.Fw
/-! ### Flat cutters -/
theorem g_fl0 (f i : Nat) : g (List.replicate (2 * f + 1) (0 : Int)) i = 0 := by
  unfold g
  rw [List.getD_eq_getElem?_getD, List.getElem?_replicate]
  split <;> rfl
theorem good_fl0 {f : Nat} (h : f ≤ 15) : GoodK (List.replicate (2 * f + 1) (0 : Int)) := by
  refine ⟨by simp, by simp; omega, by simp, g_fl0 _ _, fun i _ => by rw [g_fl0]; omega, fun i _ => by rw [g_fl0, g_fl0]⟩
theorem okK_fl0 {f : Nat} (h : f ≤ 15) : okK (List.replicate (2 * f + 1) (0 : Int)) = true ∧ Rng (List.replicate (2 * f + 1) (0 : Int)) := by
  refine ⟨?_, ⟨by simp; omega, fun v hv => by rw [(List.mem_replicate.1 hv).2]; omega⟩⟩
  simp only [okK, Bool.and_eq_true, inR_iff, decide_eq_true_eq, beq_iff_eq, allTo_iff, List.length_replicate]
  refine ⟨⟨⟨by omega, by omega⟩, g_fl0 _ _⟩, fun i _ => ?_⟩
  unfold kOne
  rw [g_fl0, g_fl0, g_fl0]
  simp [inR_iff, show inR (wr .i64 0) 0 10000 = true from rfl]
theorem half_fl0 (f : Nat) : half (List.replicate (2 * f + 1) (0 : Int)) = f := by
  unfold half
  rw [List.length_replicate]; omega
theorem tip_fl0 (c : List Int) (f : Nat) (s m : Int) : tip c (List.replicate (2 * f + 1) (0 : Int)) s ≤ m ↔ (tipTo c (List.replicate (2 * f + 1) (0 : Int)) s 0 ≤ m ∧ ∀ i : Nat, i < 2 * f + 1 → cAt c (s + i - f) ≤ m) := by
  have key : ∀ k : Nat, tipTo c (List.replicate (2 * f + 1) (0 : Int)) s k ≤ m ↔ (tipTo c (List.replicate (2 * f + 1) (0 : Int)) s 0 ≤ m ∧ ∀ i : Nat, i < k → cAt c (s + i - f) ≤ m) := by
    intro k
    induction k with
    | zero => simp
    | succ k ih =>
      rw [tipTo_succ, g_fl0, half_fl0]
      constructor
      · intro H
        have h1 := ih.1 (by omega)
        refine ⟨h1.1, fun i hi => ?_⟩
        by_cases e : i = k
        · subst e; omega
        · exact h1.2 i (by omega)
      · rintro ⟨h1, h2⟩
        have h3 := ih.2 ⟨h1, fun i hi => h2 i (by omega)⟩
        have := h2 k (by omega)
        omega
  unfold tip
  rw [List.length_replicate]
  exact key _
theorem lf_fl0 (c : List Int) (f : Nat) (p m : Int) : m ≤ lf c (List.replicate (2 * f + 1) (0 : Int)) p ↔ (m ≤ tip c (List.replicate (2 * f + 1) (0 : Int)) p ∧ ∀ i : Nat, i < 2 * f + 1 → m ≤ tip c (List.replicate (2 * f + 1) (0 : Int)) ((p + i - f) % c.length)) := by
  have key : ∀ k : Nat, m ≤ lfTo c (List.replicate (2 * f + 1) (0 : Int)) p k ↔ (m ≤ tip c (List.replicate (2 * f + 1) (0 : Int)) p ∧ ∀ i : Nat, i < k → m ≤ tip c (List.replicate (2 * f + 1) (0 : Int)) ((p + i - f) % c.length)) := by
    intro k
    induction k with
    | zero => simp [lfTo]
    | succ k ih =>
      rw [lfTo_succ, g_fl0, half_fl0]
      constructor
      · intro H
        have h1 := ih.1 (by omega)
        refine ⟨h1.1, fun i hi => ?_⟩
        by_cases e : i = k
        · subst e; omega
        · exact h1.2 i (by omega)
      · rintro ⟨h1, h2⟩
        have h3 := ih.2 ⟨h1, fun i hi => h2 i (by omega)⟩
        have := h2 k (by omega)
        omega
  unfold lf
  rw [List.length_replicate]
  exact key _
theorem tip_up {c : List Int} (hC : ∀ x, 0 ≤ cAt c x) (f : Nat) (s : Int) : tip c (List.replicate (2 * f + 1) (0 : Int)) s = upW (cAt c) f s := by
  have key : ∀ m, tip c (List.replicate (2 * f + 1) (0 : Int)) s ≤ m ↔ upW (cAt c) f s ≤ m := fun m => by
    rw [tip_fl0, upW_le]
    constructor
    · rintro ⟨_, h⟩ d d0 d1
      have := h (d + f).toNat (by omega)
      rwa [show s + (((d + f).toNat : Nat) : Int) - (f : Nat) = s + d by omega] at this
    · intro h
      refine ⟨?_, fun i hi => by have := h ((i : Int) - f) (by omega) (by omega); rwa [show s + ((i : Int) - f) = s + i - f by omega] at this⟩
      have h0 := h 0 (by omega) (by omega)
      rw [Int.add_zero] at h0
      have h1 := hC s
      have : tipTo c (List.replicate (2 * f + 1) (0 : Int)) s 0 = cAt c s ∨ tipTo c (List.replicate (2 * f + 1) (0 : Int)) s 0 = 0 := by
        unfold tipTo
        first | exact .inl rfl | exact .inr rfl
      omega
  exact Int.le_antisymm ((key _).2 (Int.le_refl _)) ((key _).1 (Int.le_refl _))
theorem upW_mod (c : List Int) (f : Nat) (x : Int) : upW (cAt c) f (x % c.length) = upW (cAt c) f x := by
  unfold upW; exact wTo_per f x _
theorem lf_rc {c : List Int} (hC : ∀ x, 0 ≤ cAt c x) (f : Nat) (p : Int) : lf c (List.replicate (2 * f + 1) (0 : Int)) p = rcW (cAt c) f p := by
  have key : ∀ m, m ≤ lf c (List.replicate (2 * f + 1) (0 : Int)) p ↔ m ≤ rcW (cAt c) f p := fun m => by
    rw [lf_fl0]
    unfold rcW
    rw [le_dnW]
    simp only [tip_up hC, upW_mod]
    constructor
    · rintro ⟨_, h⟩ d d0 d1
      have := h (d + f).toNat (by omega)
      rwa [show p + (((d + f).toNat : Nat) : Int) - (f : Nat) = p + d by omega] at this
    · intro h
      refine ⟨by have := h 0 (by omega) (by omega); rwa [Int.add_zero] at this, fun i hi => by have := h ((i : Int) - f) (by omega) (by omega); rwa [show p + ((i : Int) - f) = p + i - f by omega] at this⟩
  exact Int.le_antisymm ((key _).1 (Int.le_refl _)) ((key _).2 (Int.le_refl _))
/-- What a flat cutter leaves of a cam is what a foot of its width reaches. -/
theorem left_rcL {c : List Int} (hr : Rng c) (ok : okC c = true) {f : Nat} (h : f ≤ 15) : leftL c (List.replicate (2 * f + 1) (0 : Int)) = rcL c f := by
  have lx := okC_len ok
  have hC := okC_el ok hr
  have h0 : 0 < c.length := by omega
  refine cAt_ext (by rw [leftL_len, rcL_len]) fun i hi => ?_
  rw [rcL_len] at hi
  rw [rcL_at h0, cAt_self (by rw [leftL_len]; exact hi), leftL_g h0 hC (good_fl0 h) hi]
  exact lf_rc (fun x => (hC _ (cAt_mem h0 x)).1) f i
/-! ### Springs -/
def bends (c : List Int) : List Int := tb c.length fun i => bendP c (i : Nat)
def sprL (l : List Int) (n : Nat) : Int := (l.take n).foldl (fun m v => max m (-v)) 1
def sprF (l : List Int) : Int := l.foldl (fun m v => max m (-v)) 1
theorem sprF_snoc (l : List Int) (v : Int) : sprF (l ++ [v]) = max (sprF l) (-v) := by simp [sprF]
theorem sprF_le' : ∀ (l : List Int) (q m : Int), l.foldl (fun m v => max m (-v)) q ≤ m ↔ (q ≤ m ∧ ∀ v ∈ l, -v ≤ m)
  | [], q, m => by simp
  | v :: l, q, m => by
    rw [List.foldl_cons, sprF_le' l _ m]
    constructor
    · rintro ⟨h1, h2⟩
      refine ⟨by omega, fun u hu => ?_⟩
      rcases List.mem_cons.1 hu with rfl | hu
      · omega
      · exact h2 u hu
    · rintro ⟨h1, h2⟩
      have := h2 v (by simp)
      exact ⟨by omega, fun u hu => h2 u (by simp [hu])⟩
theorem sprF_le (l : List Int) (m : Int) : sprF l ≤ m ↔ (1 ≤ m ∧ ∀ v ∈ l, -v ≤ m) := sprF_le' l 1 m
theorem sprF_mn {l : List Int} (h : l ≠ []) : (if -(mnL l) > 1 then -(mnL l) else 1) = sprF l := by
  have hm : ∀ m : Int, m ≤ mnL l ↔ ∀ v ∈ l, m ≤ v := fun m => by
    constructor
    · intro h1 v hv
      have := (mnF_ge l (l.headD 0)).2 v hv
      unfold mnL at h1; omega
    · intro h1
      cases l with
      | nil => exact absurd rfl h
      | cons a r => exact mnF_le (a :: r) a m (h1 a (by simp)) h1
  have key : ∀ m : Int, (if -(mnL l) > 1 then -(mnL l) else 1) ≤ m ↔ sprF l ≤ m := fun m => by
    rw [sprF_le]
    have h1 := hm (-m)
    have h2 : (∀ v ∈ l, -v ≤ m) ↔ ∀ v ∈ l, -m ≤ v := ⟨fun h v hv => by have := h v hv; omega, fun h v hv => by have := h v hv; omega⟩
    rw [h2, ← h1]
    split <;> omega
  exact Int.le_antisymm ((key _).2 (Int.le_refl _)) ((key _).1 (Int.le_refl _))
theorem bends_bd {c : List Int} (h0 : 0 < c.length) (hC : ∀ v ∈ c, 0 ≤ v ∧ v ≤ 10000) (x : Int) : -20000 ≤ bendP c x ∧ bendP c x ≤ 20000 := by
  have a := hC _ (cAt_mem h0 (x + 1))
  have b := hC _ (cAt_mem h0 x)
  have d := hC _ (cAt_mem h0 (x - 1))
  unfold bendP; omega
theorem bendP_mod {c : List Int} (x : Int) : bendP c (x % c.length) = bendP c x := by
  unfold bendP
  have h1 : cAt c (x % c.length + 1) = cAt c (x + 1) := by unfold cAt; rw [Int.emod_add_emod]
  have h2 : cAt c (x % c.length - 1) = cAt c (x - 1) := by unfold cAt; rw [Int.emod_sub_emod]
  rw [h1, h2, cAt_mod]
/-- With its least spring a follower stays on its cam. -/
theorem spr_bend {c : List Int} (h0 : 0 < c.length) (x : Int) : -(bendP c x) ≤ sprF (bends c) := by
  have h := ((sprF_le (bends c) (sprF (bends c))).1 (Int.le_refl _)).2
  have h1 := Int.emod_nonneg x (show (c.length : Int) ≠ 0 by omega)
  have h2 := Int.emod_lt_of_pos x (show (0 : Int) < c.length by omega)
  have h3 := h (bendP c (((x % c.length).toNat : Nat) : Int)) (by
    unfold bends tb
    exact List.mem_map.2 ⟨(x % c.length).toNat, by simp; omega, rfl⟩)
  rw [show (((x % c.length).toNat : Nat) : Int) = x % c.length by omega, bendP_mod] at h3
  exact h3
theorem sprF_bd {c : List Int} (h0 : 0 < c.length) (hC : ∀ v ∈ c, 0 ≤ v ∧ v ≤ 10000) : 1 ≤ sprF (bends c) ∧ sprF (bends c) ≤ 20000 := by
  refine ⟨((sprF_le (bends c) (sprF (bends c))).1 (Int.le_refl _)).1, (sprF_le _ _).2 ⟨by omega, fun v hv => ?_⟩⟩
  obtain ⟨i, _, rfl⟩ := tb_mem hv
  have := bends_bd h0 hC i
  omega
theorem sprF_small {c : List Int} (h0 : 0 < c.length) {M : Int} (hM : 1 ≤ M) (hC : ∀ v ∈ c, 0 ≤ v ∧ v ≤ M) : 1 ≤ sprF (bends c) ∧ sprF (bends c) ≤ 2 * M := by
  refine ⟨((sprF_le (bends c) (sprF (bends c))).1 (Int.le_refl _)).1, (sprF_le _ _).2 ⟨by omega, fun v hv => ?_⟩⟩
  obtain ⟨i, _, rfl⟩ := tb_mem hv
  have a := hC _ (cAt_mem h0 ((i : Int) + 1))
  have b := hC _ (cAt_mem h0 (i : Int))
  have d := hC _ (cAt_mem h0 ((i : Int) - 1))
  unfold bendP; omega
theorem bends_len (c : List Int) : (bends c).length = c.length := tb_len _ _
theorem bends_ne {c : List Int} (h0 : 0 < c.length) : bends c ≠ [] := fun h => by
  have := bends_len c
  rw [h] at this
  simp at this
  rw [← this] at h0
  simp at h0
theorem mnL_bd {l : List Int} (h : l ≠ []) {A B : Int} (hb : ∀ v ∈ l, A ≤ v ∧ v ≤ B) : A ≤ mnL l ∧ mnL l ≤ B := by
  cases l with
  | nil => exact absurd rfl h
  | cons a r =>
    have h1 := mnF_le (a :: r) a A (hb a (by simp)).1 (fun v hv => (hb v hv).1)
    have h2 := (mnF_ge (a :: r) a).2 a (by simp)
    have h3 := (hb a (by simp)).2
    exact ⟨h1, by show mnF (a :: r) a ≤ B; omega⟩
abbrev Trk : Type := Int × (Int × (Bool × Unit))
def onT (c : List Int) (t : Nat) : Trk := (cAt c t, cAt c t - cAt c ((t : Int) - 1), true, ())
/-! ### Shafts that turn with the machine -/
def sfM (m : Mch) : List Sft := [(1, 1, 0, m.1, ()), (1, 1, 0, m.2.1, ()), (1, 1, 0, m.2.2.1, ())]
theorem gg_self {a : Int} (h : 0 ≤ a) : gg a a = a := by unfold gg; rw [Nat.gcd_self]; omega
theorem gg_one (a : Int) : gg a 1 = 1 := by unfold gg; simp
theorem own_one {c : List Int} (h : okC c = true) (hr : Rng c) : okS (1, 1, 0, c, ()) = true ∧ own (1, 1, 0, c, ()) = c.length := by
  have lx := okC_len h
  constructor
  · simp only [okS, h, Bool.and_eq_true, inR_iff, and_true]
    rw [wrap_id (x := (c.length : Int) - 1) (by omega) (by omega), wrap_id (x := (1 : Int)) (by omega) (by omega), wrap_id (x := (0 : Int)) (by omega) (by omega)]
    omega
  · have e : dl (1, 1, 0, c, ()) = c.length := by
      unfold dl
      show wr .i64 (wr .i64 1 * (c.length : Int)) = _
      rw [wrap_id (x := (1 : Int)) (by omega) (by omega), Int.one_mul, wrap_id (by omega) (by omega)]
    unfold own
    rw [e]
    show wr .i64 (Int.tdiv (c.length : Int) (gg (c.length : Int) (wr .i64 1))) = _
    rw [wrap_id (x := (1 : Int)) (by omega) (by omega), gg_one, Int.tdiv_one, wrap_id (by omega) (by omega)]
theorem nxt_one {t n : Int} {s : Sft} (h : own s = n) (hn : 1 ≤ n) (hn2 : n ≤ 20000) (ht : t = 1 ∨ t = n) : nxt t s = n := by
  unfold nxt
  rw [h]
  rcases ht with rfl | rfl
  · have : gg 1 n = 1 := by unfold gg; simp
    rw [this]
    rw [show Int.tdiv 1 1 = 1 from rfl, wrap_id (x := (1 : Int)) (by omega) (by omega), Int.one_mul, wrap_id (by omega) (by omega)]
  · rw [gg_self (by omega), Int.tdiv_self (by omega), wrap_id (x := (1 : Int)) (by omega) (by omega), Int.one_mul, wrap_id (by omega) (by omega)]
theorem sfM_ok {m : Mch} (hr : RngM m) (G : GoodM m) : okA (sfM m) = true ∧ codeR (sfM m) true = ((m.1.length : Int), 0, ()) := by
  have lx := okC_len G.x
  obtain ⟨a1, a2⟩ := own_one G.x hr.x
  obtain ⟨b1, b2⟩ := own_one G.y hr.y
  obtain ⟨c1, c2⟩ := own_one G.p hr.p
  have hA : okA (sfM m) = true := by
    simp only [okA, Bool.and_eq_true, inR_iff, List.all_eq_true]
    refine ⟨by simp [sfM], fun s hs => ?_⟩
    simp only [sfM, List.mem_cons, List.not_mem_nil, or_false] at hs
    rcases hs with rfl | rfl | rfl
    · exact a1
    · exact b1
    · exact c1
  refine ⟨hA, ?_⟩
  have hxy := G.xy
  have hxp := G.xp
  have hp : per (sfM m) 1 = some (m.1.length : Int) := by
    unfold sfM
    simp only [per]
    rw [nxt_one a2 (by omega) (by omega) (.inl rfl), if_neg (by omega), nxt_one (n := (m.1.length : Int)) (by rw [b2]; omega) (by omega) (by omega) (.inr rfl), if_neg (by omega), nxt_one (n := (m.1.length : Int)) (by rw [c2]; omega) (by omega) (by omega) (.inr rfl), if_neg (by omega)]
  unfold codeR
  rw [hA, if_neg (by simp), if_neg (by simp)]
  unfold allR
  rw [hp]
theorem lift_one {c : List Int} (h : okC c = true) (hr : Rng c) {t : Nat} (ht : t < c.length) : lift (1, 1, 0, c, ()) ((t : Int) + c.length) = g c t := by
  have lx := okC_len h
  have e : stp (1, 1, 0, c, ()) ((t : Int) + c.length) = t := by
    unfold stp
    show Int.tmod (wr .i64 (wr .i64 0 + wr .i64 (Int.tdiv (wr .i64 (((t : Int) + c.length) * wr .i64 1)) (wr .i64 1)))) (c.length : Int) = t
    rw [wrap_id (x := (1 : Int)) (by omega) (by omega), wrap_id (x := (0 : Int)) (by omega) (by omega), Int.mul_one, Int.tdiv_one, wrap_id (x := (t : Int) + c.length) (by omega) (by omega), wrap_id (x := (t : Int) + c.length) (by omega) (by omega), Int.zero_add, wrap_id (x := (t : Int) + c.length) (by omega) (by omega)]
    rw [Int.tmod_eq_emod_of_nonneg (by omega), Int.add_emod_right]
    exact Int.emod_eq_of_lt (by omega) (by omega)
  unfold lift
  rw [e]
  have hg := g_idx (l := c) (i := (t : Int)) (by omega) (by omega)
  have hi : idx c (t : Int) = some (g c t) := hg.idx
  show (match idx c (t : Int) with | some v => wr .i64 v | none => 0) = _
  rw [hi]
  exact hr.id (g_mem ht)
end Go.Cams
