/- The law FnFeet returns true for all arguments, in every run, and leaves its arguments as they were; no conditions. -/
import Derived.Test.YtdhgdfofgeccgaaEFt
import Derived.Test.YtdhgdfofgeccgaaRows
import Derived.ProofKit
namespace Go.Proofs.Ytdhgdfofgeccgaa
open Go.ChangeShapes Go.WideShapes Go.ChangeAt Go.RowKit Go.Fw
theorem Try.own : ownKnob Try.prog.godebug = none := by kernel_rfl
theorem Try.laidOut : laidOutB Try.prog = true := by kernel_rfl
theorem fnFeet_law : ∀ x, DomA (LFt.C 7).params x → ∃ n r o, call LFt.T LFt.C n 7 x = some (r, o) ∧ IsTrue (LFt.C 7).res r := by
  intro x hd
  obtain ⟨x0, x1, u⟩ := x
  obtain ⟨N, hN⟩ := Go.Cams.YtdhgdfofgeccgaaLFt.e7 x0 x1 hd
  exact ⟨N, _, _, hN N (Nat.le_refl _), rfl⟩
theorem fnFeet_rec : (Try.f7.params.toList.all fun t => Try.prog.readableRec t && decide (t < Try.prog.types.size)) = true := by kernel_rfl
set_option maxRecDepth 100000 in
theorem fnFeet_lifted (os : Os) (started : os.Started) (H : Type) (enc : TypeId × Value → H) :
    ReturnsInHanded {} Try.checked os 7 .any (Rows.fnFeetSpec.pre6 enc Try.prog Try.f7 Rows.fnFeetRow.domain false) (Rows.fnFeetSpec.post enc Try.prog Try.f7 false true false false) := by
  refine returnsInHanded_of_change_sized (C := Try.checked) Try.own started (by kernel_rfl) Try.func7
    (ChangeSpec.witness6 (enc := enc) (C := Try.checked) false ⟨#[], #[.slice none 0 0, .slice none 0 0], []⟩ 8 (by kernel_rfl) (by kernel_rfl) (by kernel_rfl) (by kernel_rfl)) ?_
  intro W base args ds gs before hval hW _ hw _
  exact law_calls LFt.tsOk LFt.insts LFt.noExt (by kernel_rfl) Try.laidOut (j := 7) (f := 7) (fn := Try.f7) rfl (tb := 4) (by kernel_rfl) Try.underlying4 (by kernel_rfl) (fun t ht => by have := List.all_eq_true.1 fnFeet_rec t ht; simp only [Bool.and_eq_true, decide_eq_true_eq] at this; exact this) rfl (fun H ds h => match ds, h with | [_, _], _ => rfl) fnFeet_law hval hW hw
theorem fnFeet_holds : Rows.FnFeetSaid :=
  OpenClaim.holds_of_wide 7 Try.f7 rfl rfl rfl rfl rfl rfl rfl ⟨rfl, rfl, rfl, rfl, rfl⟩ rfl rfl rfl rfl rfl (by kernel_rfl) Try.func7 (by kernel_rfl)
    (of_decide_eq_true (by kernel_rfl)) (by unfold Func.isWrapper; rw [if_neg (by decide +kernel)]; exact ⟨rfl, rfl⟩)
    (fun os started H enc _ => fnFeet_lifted os started H enc)
#print axioms fnFeet_holds
end Go.Proofs.Ytdhgdfofgeccgaa
