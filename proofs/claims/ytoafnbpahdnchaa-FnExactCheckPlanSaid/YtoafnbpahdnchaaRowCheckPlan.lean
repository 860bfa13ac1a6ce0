/- The law FnExactCheckPlan returns true for all arguments, in every run, and leaves its arguments as they were; no conditions. -/
import Derived.Test.YtoafnbpahdnchaaECheckPlan
import Derived.Test.YtoafnbpahdnchaaRows
import Derived.ProofKit
namespace Go.Proofs.Ytoafnbpahdnchaa
open Go.ChangeShapes Go.WideShapes Go.ChangeAt Go.RowKit Go.Fw
theorem Try.own : ownKnob Try.prog.godebug = none := by kernel_rfl
theorem Try.laidOut : laidOutB Try.prog = true := by kernel_rfl
theorem fnExactCheckPlan_law : ∀ x, DomA (LCheckPlan.C 4).params x → ∃ n r o, call LCheckPlan.T LCheckPlan.C n 4 x = some (r, o) ∧ IsTrue (LCheckPlan.C 4).res r := by
  intro x hd
  obtain ⟨x0, x1, x2, x3, u⟩ := x
  obtain ⟨N, hN⟩ := Go.Cams.YtoafnbpahdnchaaLCheckPlan.e4 x0 x1 x2 x3 hd
  exact ⟨N, _, _, hN N (Nat.le_refl _), rfl⟩
theorem fnExactCheckPlan_rec : (Try.f4.params.toList.all fun t => Try.prog.readableRec t && decide (t < Try.prog.types.size)) = true := by kernel_rfl
set_option maxRecDepth 100000 in
theorem fnExactCheckPlan_lifted (os : Os) (started : os.Started) (H : Type) (enc : TypeId × Value → H) :
    ReturnsInHanded {} Try.checked os 4 .any (Rows.fnExactCheckPlanSpec.pre6 enc Try.prog Try.f4 Rows.fnExactCheckPlanRow.domain false) (Rows.fnExactCheckPlanSpec.post enc Try.prog Try.f4 false true false false) := by
  refine returnsInHanded_of_change_sized (C := Try.checked) Try.own started (by kernel_rfl) Try.func4
    (ChangeSpec.witness6 (enc := enc) (C := Try.checked) false ⟨#[], #[.slice none 0 0, .int .i64 0, .slice none 0 0, .slice none 0 0], []⟩ 8 (by kernel_rfl) (by kernel_rfl) (by kernel_rfl) (by kernel_rfl)) ?_
  intro W base args ds gs before hval hW _ hw _
  exact law_calls LCheckPlan.tsOk LCheckPlan.insts LCheckPlan.noExt (by kernel_rfl) Try.laidOut (j := 4) (f := 4) (fn := Try.f4) rfl (tb := 4) (by kernel_rfl) Try.underlying4 (by kernel_rfl) (fun t ht => by have := List.all_eq_true.1 fnExactCheckPlan_rec t ht; simp only [Bool.and_eq_true, decide_eq_true_eq] at this; exact this) rfl (fun H ds h => match ds, h with | [_, _, _, _], _ => rfl) fnExactCheckPlan_law hval hW hw
theorem fnExactCheckPlan_holds : Rows.FnExactCheckPlanSaid :=
  OpenClaim.holds_of_wide 4 Try.f4 rfl rfl rfl rfl rfl rfl rfl ⟨rfl, rfl, rfl, rfl, rfl⟩ rfl rfl rfl rfl rfl (by kernel_rfl) Try.func4 (by kernel_rfl)
    (of_decide_eq_true (by kernel_rfl)) (by unfold Func.isWrapper; rw [if_neg (by decide +kernel)]; exact ⟨rfl, rfl⟩)
    (fun os started H enc _ => fnExactCheckPlan_lifted os started H enc)
#print axioms fnExactCheckPlan_holds
end Go.Proofs.Ytoafnbpahdnchaa
