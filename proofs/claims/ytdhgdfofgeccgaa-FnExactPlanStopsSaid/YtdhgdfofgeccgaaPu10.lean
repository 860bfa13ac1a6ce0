/- Cuts, in plain terms. -/
import Derived.Test.YtdhgdfofgeccgaaPu9
namespace Go.Cams
open Go Go.Fw
abbrev Ct : Type := Int × (Int × (Int × Unit))
abbrev CtTy : Ty := .pair (.int .i16) (.pair (.int .i16) (.pair (.int .i8) .unit))
structure RngC (L : List Ct) : Prop where
  len : (L.length : Int) * 6 ≤ 140737488351232
  el : ∀ v ∈ L, (-32768 ≤ v.1 ∧ v.1 ≤ 32767) ∧ (-32768 ≤ v.2.1 ∧ v.2.1 ≤ 32767) ∧ (-128 ≤ v.2.2.1 ∧ v.2.2.1 ≤ 127)
theorem rngC_of {L : List Ct} (h : Dom (.slc CtTy) L) : RngC L := ⟨Int.ofNat_le.2 h.1, fun v hv => (h.2 v hv).elim fun a b => ⟨a, b.1, b.2.1⟩⟩
theorem RngC.len' {L : List Ct} (h : RngC L) : (L.length : Int) ≤ 23456248058538 := by have := h.len; omega
theorem RngC.i1 {L : List Ct} (h : RngC L) {v : Ct} (hv : v ∈ L) : wr .i64 v.1 = v.1 := by have := (h.el v hv).1; exact wrap_id (by omega) (by omega)
theorem RngC.i2 {L : List Ct} (h : RngC L) {v : Ct} (hv : v ∈ L) : wr .i64 v.2.1 = v.2.1 := by have := (h.el v hv).2.1; exact wrap_id (by omega) (by omega)
theorem RngC.i3 {L : List Ct} (h : RngC L) {v : Ct} (hv : v ∈ L) : wr .i64 v.2.2.1 = v.2.2.1 := by have := (h.el v hv).2.2; exact wrap_id (by omega) (by omega)
def ctOk (m : Int) (v : Ct) : Bool := inR (wr .i64 v.1) 0 359 && inR (wr .i64 v.2.1) 0 10000 && inR (wr .i64 v.2.2.1) 0 (wr .i64 (m - 1))
def okCt (L : List Ct) (m : Int) : Bool := decide ((L.length : Int) ≤ 400) && L.all (ctOk m)
def onCt (L : List Ct) (n : Int) : Bool := L.all fun v => !decide (wr .i64 v.1 ≥ n)
def okCuts (L : List Ct) (K : List (List Int)) : Bool := inR (K.length : Int) 1 8 && okKs K && okCt L K.length
def gvCode (c : List Int) (K : List (List Int)) (L : List Ct) : Int := if okC c = true then (if okCuts L K = true then (if onCt L c.length = true then 0 else 2) else 1) else 1
structure GoodG (c : List Int) (K : List (List Int)) (L : List Ct) : Prop where
  hc : okC c = true
  hk : okKs K = true
  n : 1 ≤ (K.length : Int) ∧ (K.length : Int) ≤ 8
  l : (L.length : Int) ≤ 400
  el : ∀ v ∈ L, (0 ≤ v.1 ∧ v.1 < (c.length : Int)) ∧ (0 ≤ v.2.1 ∧ v.2.1 ≤ 10000) ∧ (0 ≤ v.2.2.1 ∧ v.2.2.1 < (K.length : Int))
theorem goodG {c : List Int} {K : List (List Int)} {L : List Ct} (hr : RngC L) (h : gvCode c K L = 0) : GoodG c K L := by
  unfold gvCode at h
  split at h
  · rename_i h1
    split at h
    · rename_i h2
      split at h
      · rename_i h3
        simp only [okCuts, okCt, Bool.and_eq_true, inR_iff, decide_eq_true_eq, List.all_eq_true] at h2
        obtain ⟨⟨a, b⟩, d, e⟩ := h2
        refine ⟨h1, b, a, d, fun v hv => ?_⟩
        have e1 := e v hv
        simp only [ctOk, Bool.and_eq_true, inR_iff] at e1
        rw [hr.i1 hv, hr.i2 hv, hr.i3 hv, wrap_id (by omega) (by omega)] at e1
        have e2 := List.all_eq_true.1 h3 v hv
        rw [hr.i1 hv] at e2
        have e2 : ¬ v.1 ≥ (c.length : Int) := by simpa using e2
        omega
      · exact absurd h (by decide)
    · exact absurd h (by decide)
  · exact absurd h (by decide)
def deepF (c : List Int) (K : List (List Int)) (v : Ct) : Bool := decide (v.2.1 < tip c (K.getD v.2.2.1.toNat []) v.1)
abbrev R2' : Type := Int × (Int × Unit)
def ftR (c : List Int) (K : List (List Int)) (L : List Ct) : R2' := if gvCode c K L ≠ 0 then (0, gvCode c K L, ()) else if fi (deepF c K) L 0 < 0 then (0, 6, ()) else (fi (deepF c K) L 0, 0, ())
theorem all_false {α : Type} {p : α → Bool} {l : List α} {v : α} (h : v ∈ l) (hp : p v = false) : l.all p = false := by
  rw [Bool.eq_false_iff]
  intro ha
  have := List.all_eq_true.1 ha v h
  rw [hp] at this
  cases this
end Go.Cams
