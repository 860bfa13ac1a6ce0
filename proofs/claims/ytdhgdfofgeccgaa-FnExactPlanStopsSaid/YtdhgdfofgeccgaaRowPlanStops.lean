/- The law FnExactPlanStops returns true for all arguments, in every run, and leaves its arguments as they were; no conditions. -/
import Derived.Test.YtdhgdfofgeccgaaEPlanStops
import Derived.Test.YtdhgdfofgeccgaaRows
import Derived.ProofKit
namespace Go.Proofs.Ytdhgdfofgeccgaa
open Go.ChangeShapes Go.WideShapes Go.ChangeAt Go.RowKit Go.Fw
theorem Try.own : ownKnob Try.prog.godebug = none := by kernel_rfl
theorem Try.laidOut : laidOutB Try.prog = true := by kernel_rfl
theorem fnExactPlanStops_law : ∀ x, DomA (LPlanStops.C 4).params x → ∃ n r o, call LPlanStops.T LPlanStops.C n 4 x = some (r, o) ∧ IsTrue (LPlanStops.C 4).res r := by
  intro x hd
  obtain ⟨x0, x1, u⟩ := x
  obtain ⟨N, hN⟩ := Go.Cams.YtdhgdfofgeccgaaLPlanStops.e4 x0 x1 hd
  exact ⟨N, _, _, hN N (Nat.le_refl _), rfl⟩
theorem fnExactPlanStops_rec : (Try.f4.params.toList.all fun t => Try.prog.readableRec t && decide (t < Try.prog.types.size)) = true := by kernel_rfl
set_option maxRecDepth 100000 in
theorem fnExactPlanStops_lifted (os : Os) (started : os.Started) (H : Type) (enc : TypeId × Value → H) :
    ReturnsInHanded {} Try.checked os 4 .any (Rows.fnExactPlanStopsSpec.pre6 enc Try.prog Try.f4 Rows.fnExactPlanStopsRow.domain false) (Rows.fnExactPlanStopsSpec.post enc Try.prog Try.f4 false true false false) := by
  refine returnsInHanded_of_change_sized (C := Try.checked) Try.own started (by kernel_rfl) Try.func4
    (ChangeSpec.witness6 (enc := enc) (C := Try.checked) false ⟨#[], #[.slice none 0 0, .int .i64 0], []⟩ 8 (by kernel_rfl) (by kernel_rfl) (by kernel_rfl) (by kernel_rfl)) ?_
  intro W base args ds gs before hval hW _ hw _
  exact law_calls LPlanStops.tsOk LPlanStops.insts (by kernel_rfl) Try.laidOut (j := 4) (f := 4) (fn := Try.f4) rfl (tb := 4) (by kernel_rfl) Try.underlying4 (by kernel_rfl) (fun t ht => by have := List.all_eq_true.1 fnExactPlanStops_rec t ht; simp only [Bool.and_eq_true, decide_eq_true_eq] at this; exact this) rfl (fun H ds h => match ds, h with | [_, _], _ => rfl) fnExactPlanStops_law hval hW hw
theorem fnExactPlanStops_holds : Rows.FnExactPlanStopsSaid :=
  OpenClaim.holds_of_wide 4 Try.f4 rfl rfl rfl rfl rfl rfl rfl ⟨rfl, rfl, rfl, rfl, rfl⟩ rfl rfl rfl rfl rfl (by kernel_rfl) Try.func4 (by kernel_rfl)
    (of_decide_eq_true (by kernel_rfl)) (by unfold Func.isWrapper; rw [if_neg (by decide +kernel)]; exact ⟨rfl, rfl⟩)
    (fun os started H enc _ => fnExactPlanStops_lifted os started H enc)
#print axioms fnExactPlanStops_holds
end Go.Proofs.Ytdhgdfofgeccgaa
