/- The law FnExactIdleCuts returns true for all arguments, in every run, and leaves its arguments as they were; no conditions. -/
import Derived.Test.YtdhgdfofgeccgaaEIdleCuts
import Derived.Test.YtdhgdfofgeccgaaRows
import Derived.ProofKit
namespace Go.Proofs.Ytdhgdfofgeccgaa
open Go.ChangeShapes Go.WideShapes Go.ChangeAt Go.RowKit Go.Fw
theorem Try.own : ownKnob Try.prog.godebug = none := by kernel_rfl
theorem Try.laidOut : laidOutB Try.prog = true := by kernel_rfl
theorem fnExactIdleCuts_law : ∀ x, DomA (LIdleCuts.C 8).params x → ∃ n r o, call LIdleCuts.T LIdleCuts.C n 8 x = some (r, o) ∧ IsTrue (LIdleCuts.C 8).res r := by
  intro x hd
  obtain ⟨x0, x1, x2, x3, u⟩ := x
  obtain ⟨N, hN⟩ := Go.Cams.YtdhgdfofgeccgaaLIdleCuts.e8 x0 x1 x2 x3 hd
  exact ⟨N, _, _, hN N (Nat.le_refl _), rfl⟩
theorem fnExactIdleCuts_rec : (Try.f8.params.toList.all fun t => Try.prog.readableRec t && decide (t < Try.prog.types.size)) = true := by kernel_rfl
set_option maxRecDepth 100000 in
theorem fnExactIdleCuts_lifted (os : Os) (started : os.Started) (H : Type) (enc : TypeId × Value → H) :
    ReturnsInHanded {} Try.checked os 8 .any (Rows.fnExactIdleCutsSpec.pre6 enc Try.prog Try.f8 Rows.fnExactIdleCutsRow.domain false) (Rows.fnExactIdleCutsSpec.post enc Try.prog Try.f8 false true false false) := by
  refine returnsInHanded_of_change_sized (C := Try.checked) Try.own started (by kernel_rfl) Try.func8
    (ChangeSpec.witness6 (enc := enc) (C := Try.checked) false ⟨#[], #[.int .i64 0, .int .i64 0, .slice none 0 0, .slice none 0 0], []⟩ 8 (by kernel_rfl) (by kernel_rfl) (by kernel_rfl) (by kernel_rfl)) ?_
  intro W base args ds gs before hval hW _ hw _
  exact law_calls LIdleCuts.tsOk LIdleCuts.insts LIdleCuts.noExt (by kernel_rfl) Try.laidOut (j := 8) (f := 8) (fn := Try.f8) rfl (tb := 4) (by kernel_rfl) Try.underlying4 (by kernel_rfl) (fun t ht => by have := List.all_eq_true.1 fnExactIdleCuts_rec t ht; simp only [Bool.and_eq_true, decide_eq_true_eq] at this; exact this) rfl (fun H ds h => match ds, h with | [_, _, _, _], _ => rfl) fnExactIdleCuts_law hval hW hw
theorem fnExactIdleCuts_holds : Rows.FnExactIdleCutsSaid :=
  OpenClaim.holds_of_wide 8 Try.f8 rfl rfl rfl rfl rfl rfl rfl ⟨rfl, rfl, rfl, rfl, rfl⟩ rfl rfl rfl rfl rfl (by kernel_rfl) Try.func8 (by kernel_rfl)
    (of_decide_eq_true (by kernel_rfl)) (by unfold Func.isWrapper; rw [if_neg (by decide +kernel)]; exact ⟨rfl, rfl⟩)
    (fun os started H enc _ => fnExactIdleCuts_lifted os started H enc)
#print axioms fnExactIdleCuts_holds
end Go.Proofs.Ytdhgdfofgeccgaa
