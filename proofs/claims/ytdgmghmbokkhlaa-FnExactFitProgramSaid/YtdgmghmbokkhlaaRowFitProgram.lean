/- The law FnExactFitProgram returns true for all arguments, in every run, and leaves its arguments as they were; no conditions. -/
import Derived.Test.YtdgmghmbokkhlaaEFitProgram
import Derived.Test.YtdgmghmbokkhlaaRows
import Derived.ProofKit
namespace Go.Proofs.Ytdgmghmbokkhlaa
open Go.ChangeShapes Go.WideShapes Go.ChangeAt Go.RowKit Go.Fw
theorem Try.own : ownKnob Try.prog.godebug = none := by kernel_rfl
theorem Try.laidOut : laidOutB Try.prog = true := by kernel_rfl
theorem fnExactFitProgram_law : ∀ x, DomA (LFitProgram.C 6).params x → ∃ n r o, call LFitProgram.T LFitProgram.C n 6 x = some (r, o) ∧ IsTrue (LFitProgram.C 6).res r := by
  intro x hd
  obtain ⟨x0, u⟩ := x
  obtain ⟨N, hN⟩ := Go.Cams.YtdgmghmbokkhlaaLFitProgram.e6 x0 hd
  exact ⟨N, _, _, hN N (Nat.le_refl _), rfl⟩
theorem fnExactFitProgram_rec : (Try.f6.params.toList.all fun t => Try.prog.readableRec t && decide (t < Try.prog.types.size)) = true := by kernel_rfl
set_option maxRecDepth 100000 in
theorem fnExactFitProgram_lifted (os : Os) (started : os.Started) (H : Type) (enc : TypeId × Value → H) :
    ReturnsInHanded {} Try.checked os 6 .any (Rows.fnExactFitProgramSpec.pre6 enc Try.prog Try.f6 Rows.fnExactFitProgramRow.domain false) (Rows.fnExactFitProgramSpec.post enc Try.prog Try.f6 false true false false) := by
  refine returnsInHanded_of_change_sized (C := Try.checked) Try.own started (by kernel_rfl) Try.func6
    (ChangeSpec.witness6 (enc := enc) (C := Try.checked) false ⟨#[], #[.slice none 0 0], []⟩ 8 (by kernel_rfl) (by kernel_rfl) (by kernel_rfl) (by kernel_rfl)) ?_
  intro W base args ds gs before hval hW _ hw _
  exact law_calls LFitProgram.tsOk LFitProgram.insts (by kernel_rfl) Try.laidOut (j := 6) (f := 6) (fn := Try.f6) rfl (tb := 4) (by kernel_rfl) Try.underlying4 (by kernel_rfl) (fun t ht => by have := List.all_eq_true.1 fnExactFitProgram_rec t ht; simp only [Bool.and_eq_true, decide_eq_true_eq] at this; exact this) rfl (fun H ds h => match ds, h with | [_], _ => rfl) fnExactFitProgram_law hval hW hw
theorem fnExactFitProgram_holds : Rows.FnExactFitProgramSaid :=
  OpenClaim.holds_of_wide 6 Try.f6 rfl rfl rfl rfl rfl rfl rfl ⟨rfl, rfl, rfl, rfl, rfl⟩ rfl rfl rfl rfl rfl (by kernel_rfl) Try.func6 (by kernel_rfl)
    (of_decide_eq_true (by kernel_rfl)) (by unfold Func.isWrapper; rw [if_neg (by decide +kernel)]; exact ⟨rfl, rfl⟩)
    (fun os started H enc _ => fnExactFitProgram_lifted os started H enc)
#print axioms fnExactFitProgram_holds
end Go.Proofs.Ytdgmghmbokkhlaa
