/-
  No cell of these rows narrows 'for every input' (looked for: loops, veiled, ifaces, maps, wideKeys, modest, calm, conditions, laid).
  DERIVED. THE GIVEN ROWS OF THIS SEAT. 4 by the template 'for every input the law returns true; each argument reads behind the call as it read before'; 0 by the template 'total and deterministic' (their statements: YtkcapecjamijaaaTotals.lean).
  GIVEN WITH THE SEED: the statements are not yours to turn. If you find one false, say at which input.
  Laid BY PROGRAM, IN A SANDBOX (cutbox-rows.mjs): the forced cells as the released guide's own fill.sh prints them over the translation 84bcc64192dde78d… (all of the seat's roots in one cut). By AI agents, Wed Nov 11 2026. No macro, syntax, notation, axiom, sorry.
-/
import Derived.Test.YtkcapecjamijaaaChecked
import GoSem.Claim
import GoSem.ClaimJoined
import GoSem.ClaimMapViews
import Derived.JoinedTies
import Derived.KernelRfl
namespace Go.Proofs.Ytkcapecjamijaaa
/- THE CELL 'sum', in the pinned program and in every row, IS THE sha256 OF THE DUMP (.gsa) THAT YtkcapecjamijaaaProg.lean LOADS. Nothing in Lean hashes anything: it is a label: what it is worth is what the hold of that sum in a sandbox is worth. -/
noncomputable def Try.pinned : Pinned := { name := "ytkcapecjamijaaa", sum := "84bcc64192dde78d1580c73b228ba35c32d09f4fce1c9509702a837604e13aad", checked := Try.checked }
namespace Rows
def none {H : Type} : Left H := { results := [], args := [] }

/-- 'laws.FnExactDrawMachine': WHATEVER THE INPUT: true; the input reads as it did. -/
def fnExactDrawMachineSpec : ChangeSpec := { name := "fnExactDrawMachine", fn := fun _ => fun
  | [d] => { results := [.lit (.bool true)], args := [d] }
  | _ => none }
def fnExactDrawMachineRow : OpenClaim := { program := "ytkcapecjamijaaa", sum := "84bcc64192dde78d1580c73b228ba35c32d09f4fce1c9509702a837604e13aad", func := "loop.example/g01264/laws.FnExactDrawMachine", spec := "fnExactDrawMachine", unfollowed := true, recurses := true, apart := false }
def FnExactDrawMachineSaid : Prop := fnExactDrawMachineRow.holds Try.pinned (OpenSpec.ofChange fnExactDrawMachineSpec)

/-- ITS FALSE NEIGHBOUR: 'it returns false'. Refute it at one input. -/
def fnExactDrawMachineWrong : ChangeSpec := { name := "fnExactDrawMachine", fn := fun _ => fun
  | [d] => { results := [.lit (.bool false)], args := [d] }
  | _ => none }
def FnExactDrawMachineWrongFalsely : Prop := fnExactDrawMachineRow.holds Try.pinned (OpenSpec.ofChange fnExactDrawMachineWrong)

/-- 'laws.FnExactBestPhase': WHATEVER THE INPUT: true; the input reads as it did. -/
def fnExactBestPhaseSpec : ChangeSpec := { name := "fnExactBestPhase", fn := fun _ => fun
  | [d1, d2, d3, d4] => { results := [.lit (.bool true)], args := [d1, d2, d3, d4] }
  | _ => none }
def fnExactBestPhaseRow : OpenClaim := { program := "ytkcapecjamijaaa", sum := "84bcc64192dde78d1580c73b228ba35c32d09f4fce1c9509702a837604e13aad", func := "loop.example/g01264/laws.FnExactBestPhase", spec := "fnExactBestPhase", unfollowed := true, recurses := true, apart := false }
def FnExactBestPhaseSaid : Prop := fnExactBestPhaseRow.holds Try.pinned (OpenSpec.ofChange fnExactBestPhaseSpec)

/-- ITS FALSE NEIGHBOUR: 'it returns false'. Refute it at one input. -/
def fnExactBestPhaseWrong : ChangeSpec := { name := "fnExactBestPhase", fn := fun _ => fun
  | [d1, d2, d3, d4] => { results := [.lit (.bool false)], args := [d1, d2, d3, d4] }
  | _ => none }
def FnExactBestPhaseWrongFalsely : Prop := fnExactBestPhaseRow.holds Try.pinned (OpenSpec.ofChange fnExactBestPhaseWrong)

/-- 'laws.FnExactSumOfLifts': WHATEVER THE INPUT: true; the input reads as it did. -/
def fnExactSumOfLiftsSpec : ChangeSpec := { name := "fnExactSumOfLifts", fn := fun _ => fun
  | [d] => { results := [.lit (.bool true)], args := [d] }
  | _ => none }
def fnExactSumOfLiftsRow : OpenClaim := { program := "ytkcapecjamijaaa", sum := "84bcc64192dde78d1580c73b228ba35c32d09f4fce1c9509702a837604e13aad", func := "loop.example/g01264/laws.FnExactSumOfLifts", spec := "fnExactSumOfLifts", unfollowed := true, recurses := true, apart := false }
def FnExactSumOfLiftsSaid : Prop := fnExactSumOfLiftsRow.holds Try.pinned (OpenSpec.ofChange fnExactSumOfLiftsSpec)

/-- ITS FALSE NEIGHBOUR: 'it returns false'. Refute it at one input. -/
def fnExactSumOfLiftsWrong : ChangeSpec := { name := "fnExactSumOfLifts", fn := fun _ => fun
  | [d] => { results := [.lit (.bool false)], args := [d] }
  | _ => none }
def FnExactSumOfLiftsWrongFalsely : Prop := fnExactSumOfLiftsRow.holds Try.pinned (OpenSpec.ofChange fnExactSumOfLiftsWrong)

/-- 'laws.FnPlanned': WHATEVER THE INPUT: true; the input reads as it did. -/
def fnPlannedSpec : ChangeSpec := { name := "fnPlanned", fn := fun _ => fun
  | [d1, d2] => { results := [.lit (.bool true)], args := [d1, d2] }
  | _ => none }
def fnPlannedRow : OpenClaim := { program := "ytkcapecjamijaaa", sum := "84bcc64192dde78d1580c73b228ba35c32d09f4fce1c9509702a837604e13aad", func := "loop.example/g01264/laws.FnPlanned", spec := "fnPlanned", unfollowed := true, recurses := true, apart := false }
def FnPlannedSaid : Prop := fnPlannedRow.holds Try.pinned (OpenSpec.ofChange fnPlannedSpec)

/-- ITS FALSE NEIGHBOUR: 'it returns false'. Refute it at one input. -/
def fnPlannedWrong : ChangeSpec := { name := "fnPlanned", fn := fun _ => fun
  | [d1, d2] => { results := [.lit (.bool false)], args := [d1, d2] }
  | _ => none }
def FnPlannedWrongFalsely : Prop := fnPlannedRow.holds Try.pinned (OpenSpec.ofChange fnPlannedWrong)

/- THE SECOND FORM. 'bulk': how many values and letters a reading holds, each counted each time it is reached (what is shared counts as often as it is met; a slice's spare places count too). A statement '..UptoSaid' is the law's where the arguments, and the package variables that the reading takes, are together of bulk at most 1048576: NARROWER than '..Said'. Prove '..Said' where nothing that the law and all that it calls make is longer than what came in: it says more and counts as full. Else prove '..UptoSaid'. A law counts once. -/
mutual
def uptoBulk {H : Type} : DataW H → Nat
  | .lit (.string bytes) => bytes.length + 1
  | .lit _ => 1
  | .nil => 1
  | .ptr d => uptoBulk d + 1
  | .slice elems spare => uptoBulkAll elems + uptoBulkAll spare + 1
  | .agg parts => uptoBulkAll parts + 1
  | .iface _ d => uptoBulk d + 1
  | .map entries => uptoBulkEntries entries + 1
  | .held _ => 1
def uptoBulkAll {H : Type} : List (DataW H) → Nat
  | [] => 0
  | d :: r => uptoBulk d + uptoBulkAll r
def uptoBulkEntries {H : Type} : List (Lit × DataW H) → Nat
  | [] => 0
  | x :: r => uptoBulkEntry x + uptoBulkEntries r
def uptoBulkEntry {H : Type} : Lit × DataW H → Nat
  | (.string bytes, d) => bytes.length + uptoBulk d + 1
  | (_, d) => uptoBulk d + 1
 end
def uptoSmall : (H : Type) → List (DataW H) → Bool := fun _ ds => decide (uptoBulkAll ds ≤ 1048576)
def OpenSpec.upto (s : _root_.Go.ChangeSpec) : _root_.Go.OpenSpec := { _root_.Go.OpenSpec.ofChange s with cond := some uptoSmall }

/-- 'laws.FnExactDrawMachine', WHERE WHAT IT READS IS OF BULK AT MOST 1048576: true; the input reads as it did. -/
def fnExactDrawMachineUptoRow : OpenClaim := { program := "ytkcapecjamijaaa", sum := "84bcc64192dde78d1580c73b228ba35c32d09f4fce1c9509702a837604e13aad", func := "loop.example/g01264/laws.FnExactDrawMachine", spec := "fnExactDrawMachine", unfollowed := true, recurses := true, apart := false, narrowed := true }
def FnExactDrawMachineUptoSaid : Prop := fnExactDrawMachineUptoRow.holds Try.pinned (OpenSpec.upto fnExactDrawMachineSpec)

/-- 'laws.FnExactBestPhase', WHERE WHAT IT READS IS OF BULK AT MOST 1048576: true; the input reads as it did. -/
def fnExactBestPhaseUptoRow : OpenClaim := { program := "ytkcapecjamijaaa", sum := "84bcc64192dde78d1580c73b228ba35c32d09f4fce1c9509702a837604e13aad", func := "loop.example/g01264/laws.FnExactBestPhase", spec := "fnExactBestPhase", unfollowed := true, recurses := true, apart := false, narrowed := true }
def FnExactBestPhaseUptoSaid : Prop := fnExactBestPhaseUptoRow.holds Try.pinned (OpenSpec.upto fnExactBestPhaseSpec)

/-- 'laws.FnExactSumOfLifts', WHERE WHAT IT READS IS OF BULK AT MOST 1048576: true; the input reads as it did. -/
def fnExactSumOfLiftsUptoRow : OpenClaim := { program := "ytkcapecjamijaaa", sum := "84bcc64192dde78d1580c73b228ba35c32d09f4fce1c9509702a837604e13aad", func := "loop.example/g01264/laws.FnExactSumOfLifts", spec := "fnExactSumOfLifts", unfollowed := true, recurses := true, apart := false, narrowed := true }
def FnExactSumOfLiftsUptoSaid : Prop := fnExactSumOfLiftsUptoRow.holds Try.pinned (OpenSpec.upto fnExactSumOfLiftsSpec)

/-- 'laws.FnPlanned', WHERE WHAT IT READS IS OF BULK AT MOST 1048576: true; the input reads as it did. -/
def fnPlannedUptoRow : OpenClaim := { program := "ytkcapecjamijaaa", sum := "84bcc64192dde78d1580c73b228ba35c32d09f4fce1c9509702a837604e13aad", func := "loop.example/g01264/laws.FnPlanned", spec := "fnPlanned", unfollowed := true, recurses := true, apart := false, narrowed := true }
def FnPlannedUptoSaid : Prop := fnPlannedUptoRow.holds Try.pinned (OpenSpec.upto fnPlannedSpec)

end Rows
end Go.Proofs.Ytkcapecjamijaaa
