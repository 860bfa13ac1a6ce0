/-
  No cell of these rows narrows 'for every input' (looked for: loops, veiled, ifaces, maps, wideKeys, modest, calm, conditions, laid).
  DERIVED. THE GIVEN ROWS OF THIS SEAT. 6 by the template 'for every input the law returns true; each argument reads behind the call as it read before'; 0 by the template 'total and deterministic' (their statements: YtdhgdfofgeccgaaTotals.lean).
  GIVEN WITH THE SEED: the statements are not yours to turn. If you find one false, say at which input.
  Laid BY PROGRAM, IN A SANDBOX (cutbox-rows.mjs): the forced cells as the released guide's own fill.sh prints them over the translation ad607bf4659382ba… (all of the seat's roots in one cut). By AI agents, Wed Nov 11 2026. No macro, syntax, notation, axiom, sorry.
-/
import Derived.Test.YtdhgdfofgeccgaaChecked
import GoSem.Claim
import GoSem.ClaimJoined
import GoSem.ClaimMapViews
import Derived.JoinedTies
import Derived.KernelRfl
namespace Go.Proofs.Ytdhgdfofgeccgaa
/- THE CELL 'sum', in the pinned program and in every row, IS THE sha256 OF THE DUMP (.gsa) THAT YtdhgdfofgeccgaaProg.lean LOADS. Nothing in Lean hashes anything: it is a label: what it is worth is what the hold of that sum in a sandbox is worth. -/
noncomputable def Try.pinned : Pinned := { name := "ytdhgdfofgeccgaa", sum := "ad607bf4659382ba8d29172645027fff08eb4391797bfdb7809727e3e2ccab74", checked := Try.checked }
namespace Rows
def none {H : Type} : Left H := { results := [], args := [] }

/-- 'laws.FnExactStrokesOf': WHATEVER THE INPUT: true; the input reads as it did. -/
def fnExactStrokesOfSpec : ChangeSpec := { name := "fnExactStrokesOf", fn := fun _ => fun
  | [d] => { results := [.lit (.bool true)], args := [d] }
  | _ => none }
def fnExactStrokesOfRow : OpenClaim := { program := "ytdhgdfofgeccgaa", sum := "ad607bf4659382ba8d29172645027fff08eb4391797bfdb7809727e3e2ccab74", func := "loop.example/g01264/laws.FnExactStrokesOf", spec := "fnExactStrokesOf", unfollowed := true, recurses := true, apart := false }
def FnExactStrokesOfSaid : Prop := fnExactStrokesOfRow.holds Try.pinned (OpenSpec.ofChange fnExactStrokesOfSpec)

/-- ITS FALSE NEIGHBOUR: 'it returns false'. Refute it at one input. -/
def fnExactStrokesOfWrong : ChangeSpec := { name := "fnExactStrokesOf", fn := fun _ => fun
  | [d] => { results := [.lit (.bool false)], args := [d] }
  | _ => none }
def FnExactStrokesOfWrongFalsely : Prop := fnExactStrokesOfRow.holds Try.pinned (OpenSpec.ofChange fnExactStrokesOfWrong)

/-- 'laws.FnExactPlanStops': WHATEVER THE INPUT: true; the input reads as it did. -/
def fnExactPlanStopsSpec : ChangeSpec := { name := "fnExactPlanStops", fn := fun _ => fun
  | [d1, d2] => { results := [.lit (.bool true)], args := [d1, d2] }
  | _ => none }
def fnExactPlanStopsRow : OpenClaim := { program := "ytdhgdfofgeccgaa", sum := "ad607bf4659382ba8d29172645027fff08eb4391797bfdb7809727e3e2ccab74", func := "loop.example/g01264/laws.FnExactPlanStops", spec := "fnExactPlanStops", unfollowed := true, recurses := true, apart := false }
def FnExactPlanStopsSaid : Prop := fnExactPlanStopsRow.holds Try.pinned (OpenSpec.ofChange fnExactPlanStopsSpec)

/-- ITS FALSE NEIGHBOUR: 'it returns false'. Refute it at one input. -/
def fnExactPlanStopsWrong : ChangeSpec := { name := "fnExactPlanStops", fn := fun _ => fun
  | [d1, d2] => { results := [.lit (.bool false)], args := [d1, d2] }
  | _ => none }
def FnExactPlanStopsWrongFalsely : Prop := fnExactPlanStopsRow.holds Try.pinned (OpenSpec.ofChange fnExactPlanStopsWrong)

/-- 'laws.FnExactCompileStrokes': WHATEVER THE INPUT: true; the input reads as it did. -/
def fnExactCompileStrokesSpec : ChangeSpec := { name := "fnExactCompileStrokes", fn := fun _ => fun
  | [d1, d2] => { results := [.lit (.bool true)], args := [d1, d2] }
  | _ => none }
def fnExactCompileStrokesRow : OpenClaim := { program := "ytdhgdfofgeccgaa", sum := "ad607bf4659382ba8d29172645027fff08eb4391797bfdb7809727e3e2ccab74", func := "loop.example/g01264/laws.FnExactCompileStrokes", spec := "fnExactCompileStrokes", unfollowed := true, recurses := true, apart := false }
def FnExactCompileStrokesSaid : Prop := fnExactCompileStrokesRow.holds Try.pinned (OpenSpec.ofChange fnExactCompileStrokesSpec)

/-- ITS FALSE NEIGHBOUR: 'it returns false'. Refute it at one input. -/
def fnExactCompileStrokesWrong : ChangeSpec := { name := "fnExactCompileStrokes", fn := fun _ => fun
  | [d1, d2] => { results := [.lit (.bool false)], args := [d1, d2] }
  | _ => none }
def FnExactCompileStrokesWrongFalsely : Prop := fnExactCompileStrokesRow.holds Try.pinned (OpenSpec.ofChange fnExactCompileStrokesWrong)

/-- 'laws.FnPlanned': WHATEVER THE INPUT: true; the input reads as it did. -/
def fnPlannedSpec : ChangeSpec := { name := "fnPlanned", fn := fun _ => fun
  | [d1, d2] => { results := [.lit (.bool true)], args := [d1, d2] }
  | _ => none }
def fnPlannedRow : OpenClaim := { program := "ytdhgdfofgeccgaa", sum := "ad607bf4659382ba8d29172645027fff08eb4391797bfdb7809727e3e2ccab74", func := "loop.example/g01264/laws.FnPlanned", spec := "fnPlanned", unfollowed := true, recurses := true, apart := false }
def FnPlannedSaid : Prop := fnPlannedRow.holds Try.pinned (OpenSpec.ofChange fnPlannedSpec)

/-- ITS FALSE NEIGHBOUR: 'it returns false'. Refute it at one input. -/
def fnPlannedWrong : ChangeSpec := { name := "fnPlanned", fn := fun _ => fun
  | [d1, d2] => { results := [.lit (.bool false)], args := [d1, d2] }
  | _ => none }
def FnPlannedWrongFalsely : Prop := fnPlannedRow.holds Try.pinned (OpenSpec.ofChange fnPlannedWrong)

/-- 'laws.FnFeet': WHATEVER THE INPUT: true; the input reads as it did. -/
def fnFeetSpec : ChangeSpec := { name := "fnFeet", fn := fun _ => fun
  | [d1, d2] => { results := [.lit (.bool true)], args := [d1, d2] }
  | _ => none }
def fnFeetRow : OpenClaim := { program := "ytdhgdfofgeccgaa", sum := "ad607bf4659382ba8d29172645027fff08eb4391797bfdb7809727e3e2ccab74", func := "loop.example/g01264/laws.FnFeet", spec := "fnFeet", unfollowed := true, recurses := true, apart := false }
def FnFeetSaid : Prop := fnFeetRow.holds Try.pinned (OpenSpec.ofChange fnFeetSpec)

/-- ITS FALSE NEIGHBOUR: 'it returns false'. Refute it at one input. -/
def fnFeetWrong : ChangeSpec := { name := "fnFeet", fn := fun _ => fun
  | [d1, d2] => { results := [.lit (.bool false)], args := [d1, d2] }
  | _ => none }
def FnFeetWrongFalsely : Prop := fnFeetRow.holds Try.pinned (OpenSpec.ofChange fnFeetWrong)

/-- 'laws.FnExactIdleCuts': WHATEVER THE INPUT: true; the input reads as it did. -/
def fnExactIdleCutsSpec : ChangeSpec := { name := "fnExactIdleCuts", fn := fun _ => fun
  | [d1, d2, d3, d4] => { results := [.lit (.bool true)], args := [d1, d2, d3, d4] }
  | _ => none }
def fnExactIdleCutsRow : OpenClaim := { program := "ytdhgdfofgeccgaa", sum := "ad607bf4659382ba8d29172645027fff08eb4391797bfdb7809727e3e2ccab74", func := "loop.example/g01264/laws.FnExactIdleCuts", spec := "fnExactIdleCuts", unfollowed := true, recurses := true, apart := false }
def FnExactIdleCutsSaid : Prop := fnExactIdleCutsRow.holds Try.pinned (OpenSpec.ofChange fnExactIdleCutsSpec)

/-- ITS FALSE NEIGHBOUR: 'it returns false'. Refute it at one input. -/
def fnExactIdleCutsWrong : ChangeSpec := { name := "fnExactIdleCuts", fn := fun _ => fun
  | [d1, d2, d3, d4] => { results := [.lit (.bool false)], args := [d1, d2, d3, d4] }
  | _ => none }
def FnExactIdleCutsWrongFalsely : Prop := fnExactIdleCutsRow.holds Try.pinned (OpenSpec.ofChange fnExactIdleCutsWrong)

/- THE SECOND FORM. 'bulk': how many values and letters a reading holds, each counted each time it is reached (what is shared counts as often as it is met; a slice's spare places count too). A statement '..UptoSaid' is the law's where the arguments, and the package variables that the reading takes, are together of bulk at most 1048576: NARROWER than '..Said'. Prove '..Said' where nothing that the law and all that it calls make is longer than what came in: it says more and counts as full. Else prove '..UptoSaid'. A law counts once. -/
mutual
def uptoBulk {H : Type} : DataW H → Nat
  | .lit (.string bytes) => bytes.length + 1
  | .lit _ => 1
  | .nil => 1
  | .ptr d => uptoBulk d + 1
  | .slice elems spare => uptoBulkAll elems + uptoBulkAll spare + 1
  | .agg parts => uptoBulkAll parts + 1
  | .iface _ d => uptoBulk d + 1
  | .map entries => uptoBulkEntries entries + 1
  | .held _ => 1
def uptoBulkAll {H : Type} : List (DataW H) → Nat
  | [] => 0
  | d :: r => uptoBulk d + uptoBulkAll r
def uptoBulkEntries {H : Type} : List (Lit × DataW H) → Nat
  | [] => 0
  | x :: r => uptoBulkEntry x + uptoBulkEntries r
def uptoBulkEntry {H : Type} : Lit × DataW H → Nat
  | (.string bytes, d) => bytes.length + uptoBulk d + 1
  | (_, d) => uptoBulk d + 1
 end
def uptoSmall : (H : Type) → List (DataW H) → Bool := fun _ ds => decide (uptoBulkAll ds ≤ 1048576)
def OpenSpec.upto (s : _root_.Go.ChangeSpec) : _root_.Go.OpenSpec := { _root_.Go.OpenSpec.ofChange s with cond := some uptoSmall }

/-- 'laws.FnExactStrokesOf', WHERE WHAT IT READS IS OF BULK AT MOST 1048576: true; the input reads as it did. -/
def fnExactStrokesOfUptoRow : OpenClaim := { program := "ytdhgdfofgeccgaa", sum := "ad607bf4659382ba8d29172645027fff08eb4391797bfdb7809727e3e2ccab74", func := "loop.example/g01264/laws.FnExactStrokesOf", spec := "fnExactStrokesOf", unfollowed := true, recurses := true, apart := false, narrowed := true }
def FnExactStrokesOfUptoSaid : Prop := fnExactStrokesOfUptoRow.holds Try.pinned (OpenSpec.upto fnExactStrokesOfSpec)

/-- 'laws.FnExactPlanStops', WHERE WHAT IT READS IS OF BULK AT MOST 1048576: true; the input reads as it did. -/
def fnExactPlanStopsUptoRow : OpenClaim := { program := "ytdhgdfofgeccgaa", sum := "ad607bf4659382ba8d29172645027fff08eb4391797bfdb7809727e3e2ccab74", func := "loop.example/g01264/laws.FnExactPlanStops", spec := "fnExactPlanStops", unfollowed := true, recurses := true, apart := false, narrowed := true }
def FnExactPlanStopsUptoSaid : Prop := fnExactPlanStopsUptoRow.holds Try.pinned (OpenSpec.upto fnExactPlanStopsSpec)

/-- 'laws.FnExactCompileStrokes', WHERE WHAT IT READS IS OF BULK AT MOST 1048576: true; the input reads as it did. -/
def fnExactCompileStrokesUptoRow : OpenClaim := { program := "ytdhgdfofgeccgaa", sum := "ad607bf4659382ba8d29172645027fff08eb4391797bfdb7809727e3e2ccab74", func := "loop.example/g01264/laws.FnExactCompileStrokes", spec := "fnExactCompileStrokes", unfollowed := true, recurses := true, apart := false, narrowed := true }
def FnExactCompileStrokesUptoSaid : Prop := fnExactCompileStrokesUptoRow.holds Try.pinned (OpenSpec.upto fnExactCompileStrokesSpec)

/-- 'laws.FnPlanned', WHERE WHAT IT READS IS OF BULK AT MOST 1048576: true; the input reads as it did. -/
def fnPlannedUptoRow : OpenClaim := { program := "ytdhgdfofgeccgaa", sum := "ad607bf4659382ba8d29172645027fff08eb4391797bfdb7809727e3e2ccab74", func := "loop.example/g01264/laws.FnPlanned", spec := "fnPlanned", unfollowed := true, recurses := true, apart := false, narrowed := true }
def FnPlannedUptoSaid : Prop := fnPlannedUptoRow.holds Try.pinned (OpenSpec.upto fnPlannedSpec)

/-- 'laws.FnFeet', WHERE WHAT IT READS IS OF BULK AT MOST 1048576: true; the input reads as it did. -/
def fnFeetUptoRow : OpenClaim := { program := "ytdhgdfofgeccgaa", sum := "ad607bf4659382ba8d29172645027fff08eb4391797bfdb7809727e3e2ccab74", func := "loop.example/g01264/laws.FnFeet", spec := "fnFeet", unfollowed := true, recurses := true, apart := false, narrowed := true }
def FnFeetUptoSaid : Prop := fnFeetUptoRow.holds Try.pinned (OpenSpec.upto fnFeetSpec)

/-- 'laws.FnExactIdleCuts', WHERE WHAT IT READS IS OF BULK AT MOST 1048576: true; the input reads as it did. -/
def fnExactIdleCutsUptoRow : OpenClaim := { program := "ytdhgdfofgeccgaa", sum := "ad607bf4659382ba8d29172645027fff08eb4391797bfdb7809727e3e2ccab74", func := "loop.example/g01264/laws.FnExactIdleCuts", spec := "fnExactIdleCuts", unfollowed := true, recurses := true, apart := false, narrowed := true }
def FnExactIdleCutsUptoSaid : Prop := fnExactIdleCutsUptoRow.holds Try.pinned (OpenSpec.upto fnExactIdleCutsSpec)

end Rows
end Go.Proofs.Ytdhgdfofgeccgaa
