/- The law FnExactCompileStrokes returns true for all arguments, in every run, and leaves its arguments as they were; no conditions. -/
import Derived.Test.YtdhgdfofgeccgaaECompileStrokes
import Derived.Test.YtdhgdfofgeccgaaRows
import Derived.ProofKit
namespace Go.Proofs.Ytdhgdfofgeccgaa
open Go.ChangeShapes Go.WideShapes Go.ChangeAt Go.RowKit Go.Fw
theorem Try.own : ownKnob Try.prog.godebug = none := by kernel_rfl
theorem Try.laidOut : laidOutB Try.prog = true := by kernel_rfl
theorem fnExactCompileStrokes_law : ∀ x, DomA (LCompileStrokes.C 5).params x → ∃ n r o, call LCompileStrokes.T LCompileStrokes.C n 5 x = some (r, o) ∧ IsTrue (LCompileStrokes.C 5).res r := by
  intro x hd
  obtain ⟨x0, x1, u⟩ := x
  obtain ⟨N, hN⟩ := Go.Cams.YtdhgdfofgeccgaaLCompileStrokes.e5 x0 x1 hd
  exact ⟨N, _, _, hN N (Nat.le_refl _), rfl⟩
theorem fnExactCompileStrokes_rec : (Try.f5.params.toList.all fun t => Try.prog.readableRec t && decide (t < Try.prog.types.size)) = true := by kernel_rfl
set_option maxRecDepth 100000 in
theorem fnExactCompileStrokes_lifted (os : Os) (started : os.Started) (H : Type) (enc : TypeId × Value → H) :
    ReturnsInHanded {} Try.checked os 5 .any (Rows.fnExactCompileStrokesSpec.pre6 enc Try.prog Try.f5 Rows.fnExactCompileStrokesRow.domain false) (Rows.fnExactCompileStrokesSpec.post enc Try.prog Try.f5 false true false false) := by
  refine returnsInHanded_of_change_sized (C := Try.checked) Try.own started (by kernel_rfl) Try.func5
    (ChangeSpec.witness6 (enc := enc) (C := Try.checked) false ⟨#[], #[.slice none 0 0, .int .i64 0], []⟩ 8 (by kernel_rfl) (by kernel_rfl) (by kernel_rfl) (by kernel_rfl)) ?_
  intro W base args ds gs before hval hW _ hw _
  exact law_calls LCompileStrokes.tsOk LCompileStrokes.insts (by kernel_rfl) Try.laidOut (j := 5) (f := 5) (fn := Try.f5) rfl (tb := 4) (by kernel_rfl) Try.underlying4 (by kernel_rfl) (fun t ht => by have := List.all_eq_true.1 fnExactCompileStrokes_rec t ht; simp only [Bool.and_eq_true, decide_eq_true_eq] at this; exact this) rfl (fun H ds h => match ds, h with | [_, _], _ => rfl) fnExactCompileStrokes_law hval hW hw
theorem fnExactCompileStrokes_holds : Rows.FnExactCompileStrokesSaid :=
  OpenClaim.holds_of_wide 5 Try.f5 rfl rfl rfl rfl rfl rfl rfl ⟨rfl, rfl, rfl, rfl, rfl⟩ rfl rfl rfl rfl rfl (by kernel_rfl) Try.func5 (by kernel_rfl)
    (of_decide_eq_true (by kernel_rfl)) (by unfold Func.isWrapper; rw [if_neg (by decide +kernel)]; exact ⟨rfl, rfl⟩)
    (fun os started H enc _ => fnExactCompileStrokes_lifted os started H enc)
#print axioms fnExactCompileStrokes_holds
end Go.Proofs.Ytdhgdfofgeccgaa
