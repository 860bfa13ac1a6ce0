/- The law FnExactPhasesFor returns true for all arguments, in every run, and leaves its arguments as they were; no conditions. -/
import Derived.Test.YtgmkcekfpmdhoaaEPf
import Derived.Test.YtgmkcekfpmdhoaaWqPf
import Derived.Test.YtgmkcekfpmdhoaaRows
import Derived.ProofKit
namespace Go.Proofs.Ytgmkcekfpmdhoaa
open Go.ChangeShapes Go.WideShapes Go.ChangeAt Go.RowKit Go.Fw
theorem Try.own : ownKnob Try.prog.godebug = none := by kernel_rfl
theorem Try.laidOut : laidOutB Try.prog = true := by kernel_rfl
theorem fnExactPhasesFor_law : ∀ x, DomA (LPf.C 3).params x → ∃ n r o, call LPf.T LPf.C n 3 x = some (r, o) ∧ IsTrue (LPf.C 3).res r := by
  intro x hd
  obtain ⟨x0, x1, x2, u⟩ := x
  obtain ⟨N, hN⟩ := Go.Cams.YtgmkcekfpmdhoaaLPf.e3 x0 x1 x2 hd
  exact ⟨N, _, _, hN N (Nat.le_refl _), rfl⟩
theorem fnExactPhasesFor_rec : (Try.f3.params.toList.all fun t => Try.prog.readableRec t && decide (t < Try.prog.types.size)) = true := by kernel_rfl
set_option maxRecDepth 100000 in
theorem fnExactPhasesFor_lifted (os : Os) (started : os.Started) (H : Type) (enc : TypeId × Value → H) :
    ReturnsInHanded {} Try.checked os 3 .any (Rows.fnExactPhasesForSpec.pre6 enc Try.prog Try.f3 Rows.fnExactPhasesForRow.domain false) (Rows.fnExactPhasesForSpec.post enc Try.prog Try.f3 false true false false) := by
  refine returnsInHanded_of_change_sized (C := Try.checked) Try.own started (by kernel_rfl) Try.func3
    (ChangeSpec.witness6 (enc := enc) (C := Try.checked) false ⟨#[], #[.slice none 0 0, .int .i64 0, .int .i64 0], []⟩ 8 (by kernel_rfl) (by kernel_rfl) (by kernel_rfl) (by kernel_rfl)) ?_
  intro W base args ds gs before hval hW _ hw _
  exact law_callsX LPf.tsOk LPf.insts (by kernel_rfl) Try.laidOut (j := 3) (by kernel_rfl) (f := 3) (fn := Try.f3) rfl (tb := 4) (by kernel_rfl) Try.underlying4 (by kernel_rfl) (fun t ht => by have := List.all_eq_true.1 fnExactPhasesFor_rec t ht; simp only [Bool.and_eq_true, decide_eq_true_eq] at this; exact this) rfl (fun H ds h => match ds, h with | [_, _, _], _ => rfl) fnExactPhasesFor_law hval hW hw (bl := fun _ => False) (fun _ hb => hb.elim) (LPf.exts pf_ext)
theorem fnExactPhasesFor_holds : Rows.FnExactPhasesForSaid :=
  OpenClaim.holds_of_wide 3 Try.f3 rfl rfl rfl rfl rfl rfl rfl ⟨rfl, rfl, rfl, rfl, rfl⟩ rfl rfl rfl rfl rfl (by kernel_rfl) Try.func3 (by kernel_rfl)
    (of_decide_eq_true (by kernel_rfl)) (by unfold Func.isWrapper; rw [if_neg (by decide +kernel)]; exact ⟨rfl, rfl⟩)
    (fun os started H enc _ => fnExactPhasesFor_lifted os started H enc)
#print axioms fnExactPhasesFor_holds
end Go.Proofs.Ytgmkcekfpmdhoaa
