/- The law FnSlopes returns true for all arguments, in every run, and leaves its arguments as they were; no conditions. -/
import Derived.Test.YtoafnbpahdnchaaESl
import Derived.Test.YtoafnbpahdnchaaRows
import Derived.ProofKit
namespace Go.Proofs.Ytoafnbpahdnchaa
open Go.ChangeShapes Go.WideShapes Go.ChangeAt Go.RowKit Go.Fw
theorem Try.own : ownKnob Try.prog.godebug = none := by kernel_rfl
theorem Try.laidOut : laidOutB Try.prog = true := by kernel_rfl
theorem fnSlopes_law : ∀ x, DomA (LSl.C 6).params x → ∃ n r o, call LSl.T LSl.C n 6 x = some (r, o) ∧ IsTrue (LSl.C 6).res r := by
  intro x hd
  obtain ⟨x0, x1, u⟩ := x
  obtain ⟨N, hN⟩ := Go.Cams.YtoafnbpahdnchaaLSl.e6 x0 x1 hd
  exact ⟨N, _, _, hN N (Nat.le_refl _), rfl⟩
theorem fnSlopes_rec : (Try.f6.params.toList.all fun t => Try.prog.readableRec t && decide (t < Try.prog.types.size)) = true := by kernel_rfl
set_option maxRecDepth 100000 in
theorem fnSlopes_lifted (os : Os) (started : os.Started) (H : Type) (enc : TypeId × Value → H) :
    ReturnsInHanded {} Try.checked os 6 .any (Rows.fnSlopesSpec.pre6 enc Try.prog Try.f6 Rows.fnSlopesRow.domain false) (Rows.fnSlopesSpec.post enc Try.prog Try.f6 false true false false) := by
  refine returnsInHanded_of_change_sized (C := Try.checked) Try.own started (by kernel_rfl) Try.func6
    (ChangeSpec.witness6 (enc := enc) (C := Try.checked) false ⟨#[], #[.slice none 0 0, .slice none 0 0], []⟩ 8 (by kernel_rfl) (by kernel_rfl) (by kernel_rfl) (by kernel_rfl)) ?_
  intro W base args ds gs before hval hW _ hw _
  exact law_calls LSl.tsOk LSl.insts LSl.noExt (by kernel_rfl) Try.laidOut (j := 6) (f := 6) (fn := Try.f6) rfl (tb := 4) (by kernel_rfl) Try.underlying4 (by kernel_rfl) (fun t ht => by have := List.all_eq_true.1 fnSlopes_rec t ht; simp only [Bool.and_eq_true, decide_eq_true_eq] at this; exact this) rfl (fun H ds h => match ds, h with | [_, _], _ => rfl) fnSlopes_law hval hW hw
theorem fnSlopes_holds : Rows.FnSlopesSaid :=
  OpenClaim.holds_of_wide 6 Try.f6 rfl rfl rfl rfl rfl rfl rfl ⟨rfl, rfl, rfl, rfl, rfl⟩ rfl rfl rfl rfl rfl (by kernel_rfl) Try.func6 (by kernel_rfl)
    (of_decide_eq_true (by kernel_rfl)) (by unfold Func.isWrapper; rw [if_neg (by decide +kernel)]; exact ⟨rfl, rfl⟩)
    (fun os started H enc _ => fnSlopes_lifted os started H enc)
#print axioms fnSlopes_holds
end Go.Proofs.Ytoafnbpahdnchaa
