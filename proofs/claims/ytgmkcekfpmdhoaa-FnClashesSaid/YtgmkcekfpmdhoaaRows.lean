/-
  No cell of these rows narrows 'for every input' (looked for: loops, veiled, ifaces, maps, wideKeys, modest, calm, conditions, laid).
  DERIVED. THE GIVEN ROWS OF THIS SEAT. 2 by the template 'for every input the law returns true; each argument reads behind the call as it read before'; 0 by the template 'total and deterministic' (their statements: YtgmkcekfpmdhoaaTotals.lean).
  GIVEN WITH THE SEED: the statements are not yours to turn. If you find one false, say at which input.
  Laid BY PROGRAM, IN A SANDBOX (cutbox-rows.mjs): the forced cells as the released guide's own fill.sh prints them over the translation 4686ae17d9d4f705… (all of the seat's roots in one cut). By AI agents, Wed Nov 11 2026. No macro, syntax, notation, axiom, sorry.
-/
import Derived.Test.YtgmkcekfpmdhoaaChecked
import GoSem.Claim
import GoSem.ClaimJoined
import GoSem.ClaimMapViews
import Derived.JoinedTies
import Derived.KernelRfl
namespace Go.Proofs.Ytgmkcekfpmdhoaa
/- THE CELL 'sum', in the pinned program and in every row, IS THE sha256 OF THE DUMP (.gsa) THAT YtgmkcekfpmdhoaaProg.lean LOADS. Nothing in Lean hashes anything: it is a label: what it is worth is what the hold of that sum in a sandbox is worth. -/
noncomputable def Try.pinned : Pinned := { name := "ytgmkcekfpmdhoaa", sum := "4686ae17d9d4f70537d154433a98def3a1cbf9898b3ec529cbb501a0bbd87199", checked := Try.checked }
namespace Rows
def none {H : Type} : Left H := { results := [], args := [] }

/-- 'laws.FnExactPhasesFor': WHATEVER THE INPUT: true; the input reads as it did. -/
def fnExactPhasesForSpec : ChangeSpec := { name := "fnExactPhasesFor", fn := fun _ => fun
  | [d1, d2, d3] => { results := [.lit (.bool true)], args := [d1, d2, d3] }
  | _ => none }
def fnExactPhasesForRow : OpenClaim := { program := "ytgmkcekfpmdhoaa", sum := "4686ae17d9d4f70537d154433a98def3a1cbf9898b3ec529cbb501a0bbd87199", func := "loop.example/g01264/laws.FnExactPhasesFor", spec := "fnExactPhasesFor", unfollowed := true, recurses := true, plainKeys := false, apart := false }
def FnExactPhasesForSaid : Prop := fnExactPhasesForRow.holds Try.pinned (OpenSpec.ofChange fnExactPhasesForSpec)

/-- ITS FALSE NEIGHBOUR: 'it returns false'. Refute it at one input. -/
def fnExactPhasesForWrong : ChangeSpec := { name := "fnExactPhasesFor", fn := fun _ => fun
  | [d1, d2, d3] => { results := [.lit (.bool false)], args := [d1, d2, d3] }
  | _ => none }
def FnExactPhasesForWrongFalsely : Prop := fnExactPhasesForRow.holds Try.pinned (OpenSpec.ofChange fnExactPhasesForWrong)

/-- 'laws.FnClashes': WHATEVER THE INPUT: true; the input reads as it did. -/
def fnClashesSpec : ChangeSpec := { name := "fnClashes", fn := fun _ => fun
  | [d1, d2] => { results := [.lit (.bool true)], args := [d1, d2] }
  | _ => none }
def fnClashesRow : OpenClaim := { program := "ytgmkcekfpmdhoaa", sum := "4686ae17d9d4f70537d154433a98def3a1cbf9898b3ec529cbb501a0bbd87199", func := "loop.example/g01264/laws.FnClashes", spec := "fnClashes", unfollowed := true, recurses := true, plainKeys := false, apart := false }
def FnClashesSaid : Prop := fnClashesRow.holds Try.pinned (OpenSpec.ofChange fnClashesSpec)

/-- ITS FALSE NEIGHBOUR: 'it returns false'. Refute it at one input. -/
def fnClashesWrong : ChangeSpec := { name := "fnClashes", fn := fun _ => fun
  | [d1, d2] => { results := [.lit (.bool false)], args := [d1, d2] }
  | _ => none }
def FnClashesWrongFalsely : Prop := fnClashesRow.holds Try.pinned (OpenSpec.ofChange fnClashesWrong)

/- THE SECOND FORM. 'bulk': how many values and letters a reading holds, each counted each time it is reached (what is shared counts as often as it is met; a slice's spare places count too). A statement '..UptoSaid' is the law's where the arguments, and the package variables that the reading takes, are together of bulk at most 1048576: NARROWER than '..Said'. Prove '..Said' where nothing that the law and all that it calls make is longer than what came in: it says more and counts as full. Else prove '..UptoSaid'. A law counts once. -/
mutual
def uptoBulk {H : Type} : DataW H → Nat
  | .lit (.string bytes) => bytes.length + 1
  | .lit _ => 1
  | .nil => 1
  | .ptr d => uptoBulk d + 1
  | .slice elems spare => uptoBulkAll elems + uptoBulkAll spare + 1
  | .agg parts => uptoBulkAll parts + 1
  | .iface _ d => uptoBulk d + 1
  | .map entries => uptoBulkEntries entries + 1
  | .held _ => 1
def uptoBulkAll {H : Type} : List (DataW H) → Nat
  | [] => 0
  | d :: r => uptoBulk d + uptoBulkAll r
def uptoBulkEntries {H : Type} : List (Lit × DataW H) → Nat
  | [] => 0
  | x :: r => uptoBulkEntry x + uptoBulkEntries r
def uptoBulkEntry {H : Type} : Lit × DataW H → Nat
  | (.string bytes, d) => bytes.length + uptoBulk d + 1
  | (_, d) => uptoBulk d + 1
 end
def uptoSmall : (H : Type) → List (DataW H) → Bool := fun _ ds => decide (uptoBulkAll ds ≤ 1048576)
def OpenSpec.upto (s : _root_.Go.ChangeSpec) : _root_.Go.OpenSpec := { _root_.Go.OpenSpec.ofChange s with cond := some uptoSmall }

/-- 'laws.FnExactPhasesFor', WHERE WHAT IT READS IS OF BULK AT MOST 1048576: true; the input reads as it did. -/
def fnExactPhasesForUptoRow : OpenClaim := { program := "ytgmkcekfpmdhoaa", sum := "4686ae17d9d4f70537d154433a98def3a1cbf9898b3ec529cbb501a0bbd87199", func := "loop.example/g01264/laws.FnExactPhasesFor", spec := "fnExactPhasesFor", unfollowed := true, recurses := true, plainKeys := false, apart := false, narrowed := true }
def FnExactPhasesForUptoSaid : Prop := fnExactPhasesForUptoRow.holds Try.pinned (OpenSpec.upto fnExactPhasesForSpec)

/-- 'laws.FnClashes', WHERE WHAT IT READS IS OF BULK AT MOST 1048576: true; the input reads as it did. -/
def fnClashesUptoRow : OpenClaim := { program := "ytgmkcekfpmdhoaa", sum := "4686ae17d9d4f70537d154433a98def3a1cbf9898b3ec529cbb501a0bbd87199", func := "loop.example/g01264/laws.FnClashes", spec := "fnClashes", unfollowed := true, recurses := true, plainKeys := false, apart := false, narrowed := true }
def FnClashesUptoSaid : Prop := fnClashesUptoRow.holds Try.pinned (OpenSpec.upto fnClashesSpec)

end Rows
end Go.Proofs.Ytgmkcekfpmdhoaa
