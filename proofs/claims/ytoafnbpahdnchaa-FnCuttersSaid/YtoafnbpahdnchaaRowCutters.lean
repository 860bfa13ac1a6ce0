/- The law FnCutters returns true for all arguments, in every run, and leaves its arguments as they were; no conditions. -/
import Derived.Test.YtoafnbpahdnchaaECutters
import Derived.Test.YtoafnbpahdnchaaRows
import Derived.ProofKit
namespace Go.Proofs.Ytoafnbpahdnchaa
open Go.ChangeShapes Go.WideShapes Go.ChangeAt Go.RowKit Go.Fw
theorem Try.own : ownKnob Try.prog.godebug = none := by kernel_rfl
theorem Try.laidOut : laidOutB Try.prog = true := by kernel_rfl
theorem fnCutters_law : ∀ x, DomA (LCutters.C 5).params x → ∃ n r o, call LCutters.T LCutters.C n 5 x = some (r, o) ∧ IsTrue (LCutters.C 5).res r := by
  intro x hd
  obtain ⟨x0, x1, u⟩ := x
  obtain ⟨N, hN⟩ := Go.Cams.YtoafnbpahdnchaaLCutters.e5 x0 x1 hd
  exact ⟨N, _, _, hN N (Nat.le_refl _), rfl⟩
theorem fnCutters_rec : (Try.f5.params.toList.all fun t => Try.prog.readableRec t && decide (t < Try.prog.types.size)) = true := by kernel_rfl
set_option maxRecDepth 100000 in
theorem fnCutters_lifted (os : Os) (started : os.Started) (H : Type) (enc : TypeId × Value → H) :
    ReturnsInHanded {} Try.checked os 5 .any (Rows.fnCuttersSpec.pre6 enc Try.prog Try.f5 Rows.fnCuttersRow.domain false) (Rows.fnCuttersSpec.post enc Try.prog Try.f5 false true false false) := by
  refine returnsInHanded_of_change_sized (C := Try.checked) Try.own started (by kernel_rfl) Try.func5
    (ChangeSpec.witness6 (enc := enc) (C := Try.checked) false ⟨#[], #[.slice none 0 0, .slice none 0 0], []⟩ 8 (by kernel_rfl) (by kernel_rfl) (by kernel_rfl) (by kernel_rfl)) ?_
  intro W base args ds gs before hval hW _ hw _
  exact law_calls LCutters.tsOk LCutters.insts LCutters.noExt (by kernel_rfl) Try.laidOut (j := 5) (f := 5) (fn := Try.f5) rfl (tb := 4) (by kernel_rfl) Try.underlying4 (by kernel_rfl) (fun t ht => by have := List.all_eq_true.1 fnCutters_rec t ht; simp only [Bool.and_eq_true, decide_eq_true_eq] at this; exact this) rfl (fun H ds h => match ds, h with | [_, _], _ => rfl) fnCutters_law hval hW hw
theorem fnCutters_holds : Rows.FnCuttersSaid :=
  OpenClaim.holds_of_wide 5 Try.f5 rfl rfl rfl rfl rfl rfl rfl ⟨rfl, rfl, rfl, rfl, rfl⟩ rfl rfl rfl rfl rfl (by kernel_rfl) Try.func5 (by kernel_rfl)
    (of_decide_eq_true (by kernel_rfl)) (by unfold Func.isWrapper; rw [if_neg (by decide +kernel)]; exact ⟨rfl, rfl⟩)
    (fun os started H enc _ => fnCutters_lifted os started H enc)
#print axioms fnCutters_holds
end Go.Proofs.Ytoafnbpahdnchaa
