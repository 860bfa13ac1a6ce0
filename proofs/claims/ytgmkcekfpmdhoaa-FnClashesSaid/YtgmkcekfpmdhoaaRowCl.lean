/- The law FnClashes returns true for all arguments, in every run, and leaves its arguments as they were; no conditions. -/
import Derived.Test.YtgmkcekfpmdhoaaECl
import Derived.Test.YtgmkcekfpmdhoaaWqCl
import Derived.Test.YtgmkcekfpmdhoaaRows
import Derived.ProofKit
namespace Go.Proofs.Ytgmkcekfpmdhoaa
open Go.ChangeShapes Go.WideShapes Go.ChangeAt Go.RowKit Go.Fw
theorem Try.own : ownKnob Try.prog.godebug = none := by kernel_rfl
theorem Try.laidOut : laidOutB Try.prog = true := by kernel_rfl
theorem fnClashes_law : ∀ x, DomA (LCl.C 4).params x → ∃ n r o, call LCl.T LCl.C n 4 x = some (r, o) ∧ IsTrue (LCl.C 4).res r := by
  intro x hd
  obtain ⟨x0, x1, u⟩ := x
  obtain ⟨N, hN⟩ := Go.Cams.YtgmkcekfpmdhoaaLCl.e4 x0 x1 hd
  exact ⟨N, _, _, hN N (Nat.le_refl _), rfl⟩
theorem fnClashes_rec : (Try.f4.params.toList.all fun t => Try.prog.readableRec t && decide (t < Try.prog.types.size)) = true := by kernel_rfl
set_option maxRecDepth 100000 in
theorem fnClashes_lifted (os : Os) (started : os.Started) (H : Type) (enc : TypeId × Value → H) :
    ReturnsInHanded {} Try.checked os 4 .any (Rows.fnClashesSpec.pre6 enc Try.prog Try.f4 Rows.fnClashesRow.domain false) (Rows.fnClashesSpec.post enc Try.prog Try.f4 false true false false) := by
  refine returnsInHanded_of_change_sized (C := Try.checked) Try.own started (by kernel_rfl) Try.func4
    (ChangeSpec.witness6 (enc := enc) (C := Try.checked) false ⟨#[], #[.slice none 0 0, .slice none 0 0], []⟩ 8 (by kernel_rfl) (by kernel_rfl) (by kernel_rfl) (by kernel_rfl)) ?_
  intro W base args ds gs before hval hW _ hw _
  exact law_callsX LCl.tsOk LCl.insts (by kernel_rfl) Try.laidOut (j := 4) (by kernel_rfl) (f := 4) (fn := Try.f4) rfl (tb := 4) (by kernel_rfl) Try.underlying4 (by kernel_rfl) (fun t ht => by have := List.all_eq_true.1 fnClashes_rec t ht; simp only [Bool.and_eq_true, decide_eq_true_eq] at this; exact this) rfl (fun H ds h => match ds, h with | [_, _], _ => rfl) fnClashes_law hval hW hw (bl := fun _ => False) (fun _ hb => hb.elim) (LCl.exts pf_ext)
theorem fnClashes_holds : Rows.FnClashesSaid :=
  OpenClaim.holds_of_wide 4 Try.f4 rfl rfl rfl rfl rfl rfl rfl ⟨rfl, rfl, rfl, rfl, rfl⟩ rfl rfl rfl rfl rfl (by kernel_rfl) Try.func4 (by kernel_rfl)
    (of_decide_eq_true (by kernel_rfl)) (by unfold Func.isWrapper; rw [if_neg (by decide +kernel)]; exact ⟨rfl, rfl⟩)
    (fun os started H enc _ => fnClashes_lifted os started H enc)
#print axioms fnClashes_holds
end Go.Proofs.Ytgmkcekfpmdhoaa
