/- The law FnTop returns true for all arguments, in every run, and leaves its arguments as they were; no conditions. -/
import Derived.Test.YtjfkgmidnjiofaaGreatETo
import Derived.Test.YtjfkgmidnjiofaaGreatRows
import Derived.ProofKit
namespace Go.Proofs.YtjfkgmidnjiofaaGreat
open Go.ChangeShapes Go.WideShapes Go.ChangeAt Go.RowKit Go.Fw
theorem Tryz.own : ownKnob Tryz.prog.godebug = none := by kernel_rfl
theorem Tryz.laidOut : laidOutB Tryz.prog = true := by kernel_rfl
theorem fnTop_law : ∀ x, DomA (LTo.C 3).params x → ∃ n r o, call LTo.T LTo.C n 3 x = some (r, o) ∧ IsTrue (LTo.C 3).res r := by
  intro x hd
  obtain ⟨x0, x1, u⟩ := x
  obtain ⟨N, hN⟩ := Go.Cams.YtjfkgmidnjiofaaGreatLTo.e3 x0 x1 hd
  exact ⟨N, _, _, hN N (Nat.le_refl _), rfl⟩
theorem fnTop_rec : (Tryz.f3.params.toList.all fun t => Tryz.prog.readableRec t && decide (t < Tryz.prog.types.size)) = true := by kernel_rfl
set_option maxRecDepth 100000 in
theorem fnTop_lifted (os : Os) (started : os.Started) (H : Type) (enc : TypeId × Value → H) :
    ReturnsInHanded {} Tryz.checked os 3 .any (Rows.fnTopSpec.pre6 enc Tryz.prog Tryz.f3 Rows.fnTopRow.domain false) (Rows.fnTopSpec.post enc Tryz.prog Tryz.f3 false true false false) := by
  refine returnsInHanded_of_change_sized (C := Tryz.checked) Tryz.own started (by kernel_rfl) Tryz.func3
    (ChangeSpec.witness6 (enc := enc) (C := Tryz.checked) false ⟨#[], #[.slice none 0 0, .slice none 0 0], []⟩ 8 (by kernel_rfl) (by kernel_rfl) (by kernel_rfl) (by kernel_rfl)) ?_
  intro W base args ds gs before hval hW _ hw _
  exact law_calls LTo.tsOk LTo.insts LTo.noExt (by kernel_rfl) Tryz.laidOut (j := 3) (f := 3) (fn := Tryz.f3) rfl (tb := 4) (by kernel_rfl) Tryz.underlying4 (by kernel_rfl) (fun t ht => by have := List.all_eq_true.1 fnTop_rec t ht; simp only [Bool.and_eq_true, decide_eq_true_eq] at this; exact this) rfl (fun H ds h => match ds, h with | [_, _], _ => rfl) fnTop_law hval hW hw
theorem fnTop_holds : Rows.FnTopSaid :=
  OpenClaim.holds_of_wide 3 Tryz.f3 rfl rfl rfl rfl rfl rfl rfl ⟨rfl, rfl, rfl, rfl, rfl⟩ rfl rfl rfl rfl rfl (by kernel_rfl) Tryz.func3 (by kernel_rfl)
    (of_decide_eq_true (by kernel_rfl)) (by unfold Func.isWrapper; rw [if_neg (by decide +kernel)]; exact ⟨rfl, rfl⟩)
    (fun os started H enc _ => fnTop_lifted os started H enc)
#print axioms fnTop_holds
end Go.Proofs.YtjfkgmidnjiofaaGreat
