/- The law FnExactStrokesOf returns true for all arguments, in every run, and leaves its arguments as they were; no conditions. -/
import Derived.Test.YtdhgdfofgeccgaaESt
import Derived.Test.YtdhgdfofgeccgaaRows
import Derived.ProofKit
namespace Go.Proofs.Ytdhgdfofgeccgaa
open Go.ChangeShapes Go.WideShapes Go.ChangeAt Go.RowKit Go.Fw
theorem Try.own : ownKnob Try.prog.godebug = none := by kernel_rfl
theorem Try.laidOut : laidOutB Try.prog = true := by kernel_rfl
theorem fnExactStrokesOf_law : ∀ x, DomA (LSt.C 3).params x → ∃ n r o, call LSt.T LSt.C n 3 x = some (r, o) ∧ IsTrue (LSt.C 3).res r := by
  intro x hd
  obtain ⟨x0, u⟩ := x
  obtain ⟨N, hN⟩ := Go.Cams.YtdhgdfofgeccgaaLSt.e3 x0 hd
  exact ⟨N, _, _, hN N (Nat.le_refl _), rfl⟩
theorem fnExactStrokesOf_rec : (Try.f3.params.toList.all fun t => Try.prog.readableRec t && decide (t < Try.prog.types.size)) = true := by kernel_rfl
set_option maxRecDepth 100000 in
theorem fnExactStrokesOf_lifted (os : Os) (started : os.Started) (H : Type) (enc : TypeId × Value → H) :
    ReturnsInHanded {} Try.checked os 3 .any (Rows.fnExactStrokesOfSpec.pre6 enc Try.prog Try.f3 Rows.fnExactStrokesOfRow.domain false) (Rows.fnExactStrokesOfSpec.post enc Try.prog Try.f3 false true false false) := by
  refine returnsInHanded_of_change_sized (C := Try.checked) Try.own started (by kernel_rfl) Try.func3
    (ChangeSpec.witness6 (enc := enc) (C := Try.checked) false ⟨#[], #[.agg #[.slice none 0 0, .slice none 0 0, .slice none 0 0]], []⟩ 8 (by kernel_rfl) (by kernel_rfl) (by kernel_rfl) (by kernel_rfl)) ?_
  intro W base args ds gs before hval hW _ hw _
  exact law_calls LSt.tsOk LSt.insts LSt.noExt (by kernel_rfl) Try.laidOut (j := 3) (f := 3) (fn := Try.f3) rfl (tb := 4) (by kernel_rfl) Try.underlying4 (by kernel_rfl) (fun t ht => by have := List.all_eq_true.1 fnExactStrokesOf_rec t ht; simp only [Bool.and_eq_true, decide_eq_true_eq] at this; exact this) rfl (fun H ds h => match ds, h with | [_], _ => rfl) fnExactStrokesOf_law hval hW hw
theorem fnExactStrokesOf_holds : Rows.FnExactStrokesOfSaid :=
  OpenClaim.holds_of_wide 3 Try.f3 rfl rfl rfl rfl rfl rfl rfl ⟨rfl, rfl, rfl, rfl, rfl⟩ rfl rfl rfl rfl rfl (by kernel_rfl) Try.func3 (by kernel_rfl)
    (of_decide_eq_true (by kernel_rfl)) (by unfold Func.isWrapper; rw [if_neg (by decide +kernel)]; exact ⟨rfl, rfl⟩)
    (fun os started H enc _ => fnExactStrokesOf_lifted os started H enc)
#print axioms fnExactStrokesOf_holds
end Go.Proofs.Ytdhgdfofgeccgaa
