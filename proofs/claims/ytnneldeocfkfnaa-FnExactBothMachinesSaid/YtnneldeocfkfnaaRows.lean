/-
  No cell of these rows narrows 'for every input' (looked for: loops, veiled, ifaces, maps, wideKeys, modest, calm, conditions, laid).
  DERIVED. THE GIVEN ROWS OF THIS SEAT. 5 by the template 'for every input the law returns true; each argument reads behind the call as it read before'; 0 by the template 'total and deterministic' (their statements: YtnneldeocfkfnaaTotals.lean).
  GIVEN WITH THE SEED: the statements are not yours to turn. If you find one false, say at which input.
  Laid BY PROGRAM, IN A SANDBOX (cutbox-rows.mjs): the forced cells as the released guide's own fill.sh prints them over the translation b450ada4f7cf3ce0… (all of the seat's roots in one cut). By AI agents, Wed Nov 11 2026. No macro, syntax, notation, axiom, sorry.
-/
import Derived.Test.YtnneldeocfkfnaaChecked
import GoSem.Claim
import GoSem.ClaimJoined
import GoSem.ClaimMapViews
import Derived.JoinedTies
import Derived.KernelRfl
namespace Go.Proofs.Ytnneldeocfkfnaa
/- THE CELL 'sum', in the pinned program and in every row, IS THE sha256 OF THE DUMP (.gsa) THAT YtnneldeocfkfnaaProg.lean LOADS. Nothing in Lean hashes anything: it is a label: what it is worth is what the hold of that sum in a sandbox is worth. -/
noncomputable def Try.pinned : Pinned := { name := "ytnneldeocfkfnaa", sum := "b450ada4f7cf3ce07815b4d5451df6a7abd55fb8f445ee76e84f2251d8bacc81", checked := Try.checked }
namespace Rows
def none {H : Type} : Left H := { results := [], args := [] }

/-- 'laws.FnExactWithPhases': WHATEVER THE INPUT: true; the input reads as it did. -/
def fnExactWithPhasesSpec : ChangeSpec := { name := "fnExactWithPhases", fn := fun _ => fun
  | [d1, d2] => { results := [.lit (.bool true)], args := [d1, d2] }
  | _ => none }
def fnExactWithPhasesRow : OpenClaim := { program := "ytnneldeocfkfnaa", sum := "b450ada4f7cf3ce07815b4d5451df6a7abd55fb8f445ee76e84f2251d8bacc81", func := "loop.example/g01264/laws.FnExactWithPhases", spec := "fnExactWithPhases", unfollowed := true, recurses := true, apart := false }
def FnExactWithPhasesSaid : Prop := fnExactWithPhasesRow.holds Try.pinned (OpenSpec.ofChange fnExactWithPhasesSpec)

/-- ITS FALSE NEIGHBOUR: 'it returns false'. Refute it at one input. -/
def fnExactWithPhasesWrong : ChangeSpec := { name := "fnExactWithPhases", fn := fun _ => fun
  | [d1, d2] => { results := [.lit (.bool false)], args := [d1, d2] }
  | _ => none }
def FnExactWithPhasesWrongFalsely : Prop := fnExactWithPhasesRow.holds Try.pinned (OpenSpec.ofChange fnExactWithPhasesWrong)

/-- 'laws.FnExactTurnMachine': WHATEVER THE INPUT: true; the input reads as it did. -/
def fnExactTurnMachineSpec : ChangeSpec := { name := "fnExactTurnMachine", fn := fun _ => fun
  | [d1, d2] => { results := [.lit (.bool true)], args := [d1, d2] }
  | _ => none }
def fnExactTurnMachineRow : OpenClaim := { program := "ytnneldeocfkfnaa", sum := "b450ada4f7cf3ce07815b4d5451df6a7abd55fb8f445ee76e84f2251d8bacc81", func := "loop.example/g01264/laws.FnExactTurnMachine", spec := "fnExactTurnMachine", unfollowed := true, recurses := true, apart := false }
def FnExactTurnMachineSaid : Prop := fnExactTurnMachineRow.holds Try.pinned (OpenSpec.ofChange fnExactTurnMachineSpec)

/-- ITS FALSE NEIGHBOUR: 'it returns false'. Refute it at one input. -/
def fnExactTurnMachineWrong : ChangeSpec := { name := "fnExactTurnMachine", fn := fun _ => fun
  | [d1, d2] => { results := [.lit (.bool false)], args := [d1, d2] }
  | _ => none }
def FnExactTurnMachineWrongFalsely : Prop := fnExactTurnMachineRow.holds Try.pinned (OpenSpec.ofChange fnExactTurnMachineWrong)

/-- 'laws.FnExactBothMachines': WHATEVER THE INPUT: true; the input reads as it did. -/
def fnExactBothMachinesSpec : ChangeSpec := { name := "fnExactBothMachines", fn := fun _ => fun
  | [d1, d2] => { results := [.lit (.bool true)], args := [d1, d2] }
  | _ => none }
def fnExactBothMachinesRow : OpenClaim := { program := "ytnneldeocfkfnaa", sum := "b450ada4f7cf3ce07815b4d5451df6a7abd55fb8f445ee76e84f2251d8bacc81", func := "loop.example/g01264/laws.FnExactBothMachines", spec := "fnExactBothMachines", unfollowed := true, recurses := true, apart := false }
def FnExactBothMachinesSaid : Prop := fnExactBothMachinesRow.holds Try.pinned (OpenSpec.ofChange fnExactBothMachinesSpec)

/-- ITS FALSE NEIGHBOUR: 'it returns false'. Refute it at one input. -/
def fnExactBothMachinesWrong : ChangeSpec := { name := "fnExactBothMachines", fn := fun _ => fun
  | [d1, d2] => { results := [.lit (.bool false)], args := [d1, d2] }
  | _ => none }
def FnExactBothMachinesWrongFalsely : Prop := fnExactBothMachinesRow.holds Try.pinned (OpenSpec.ofChange fnExactBothMachinesWrong)

/-- 'laws.FnExactFirstClash': WHATEVER THE INPUT: true; the input reads as it did. -/
def fnExactFirstClashSpec : ChangeSpec := { name := "fnExactFirstClash", fn := fun _ => fun
  | [d1, d2] => { results := [.lit (.bool true)], args := [d1, d2] }
  | _ => none }
def fnExactFirstClashRow : OpenClaim := { program := "ytnneldeocfkfnaa", sum := "b450ada4f7cf3ce07815b4d5451df6a7abd55fb8f445ee76e84f2251d8bacc81", func := "loop.example/g01264/laws.FnExactFirstClash", spec := "fnExactFirstClash", unfollowed := true, recurses := true, apart := false }
def FnExactFirstClashSaid : Prop := fnExactFirstClashRow.holds Try.pinned (OpenSpec.ofChange fnExactFirstClashSpec)

/-- ITS FALSE NEIGHBOUR: 'it returns false'. Refute it at one input. -/
def fnExactFirstClashWrong : ChangeSpec := { name := "fnExactFirstClash", fn := fun _ => fun
  | [d1, d2] => { results := [.lit (.bool false)], args := [d1, d2] }
  | _ => none }
def FnExactFirstClashWrongFalsely : Prop := fnExactFirstClashRow.holds Try.pinned (OpenSpec.ofChange fnExactFirstClashWrong)

/-- 'laws.FnExactClashesOf': WHATEVER THE INPUT: true; the input reads as it did. -/
def fnExactClashesOfSpec : ChangeSpec := { name := "fnExactClashesOf", fn := fun _ => fun
  | [d1, d2, d3, d4] => { results := [.lit (.bool true)], args := [d1, d2, d3, d4] }
  | _ => none }
def fnExactClashesOfRow : OpenClaim := { program := "ytnneldeocfkfnaa", sum := "b450ada4f7cf3ce07815b4d5451df6a7abd55fb8f445ee76e84f2251d8bacc81", func := "loop.example/g01264/laws.FnExactClashesOf", spec := "fnExactClashesOf", unfollowed := true, recurses := true, apart := false }
def FnExactClashesOfSaid : Prop := fnExactClashesOfRow.holds Try.pinned (OpenSpec.ofChange fnExactClashesOfSpec)

/-- ITS FALSE NEIGHBOUR: 'it returns false'. Refute it at one input. -/
def fnExactClashesOfWrong : ChangeSpec := { name := "fnExactClashesOf", fn := fun _ => fun
  | [d1, d2, d3, d4] => { results := [.lit (.bool false)], args := [d1, d2, d3, d4] }
  | _ => none }
def FnExactClashesOfWrongFalsely : Prop := fnExactClashesOfRow.holds Try.pinned (OpenSpec.ofChange fnExactClashesOfWrong)

/- THE SECOND FORM. 'bulk': how many values and letters a reading holds, each counted each time it is reached (what is shared counts as often as it is met; a slice's spare places count too). A statement '..UptoSaid' is the law's where the arguments, and the package variables that the reading takes, are together of bulk at most 1048576: NARROWER than '..Said'. Prove '..Said' where nothing that the law and all that it calls make is longer than what came in: it says more and counts as full. Else prove '..UptoSaid'. A law counts once. -/
mutual
def uptoBulk {H : Type} : DataW H → Nat
  | .lit (.string bytes) => bytes.length + 1
  | .lit _ => 1
  | .nil => 1
  | .ptr d => uptoBulk d + 1
  | .slice elems spare => uptoBulkAll elems + uptoBulkAll spare + 1
  | .agg parts => uptoBulkAll parts + 1
  | .iface _ d => uptoBulk d + 1
  | .map entries => uptoBulkEntries entries + 1
  | .held _ => 1
def uptoBulkAll {H : Type} : List (DataW H) → Nat
  | [] => 0
  | d :: r => uptoBulk d + uptoBulkAll r
def uptoBulkEntries {H : Type} : List (Lit × DataW H) → Nat
  | [] => 0
  | x :: r => uptoBulkEntry x + uptoBulkEntries r
def uptoBulkEntry {H : Type} : Lit × DataW H → Nat
  | (.string bytes, d) => bytes.length + uptoBulk d + 1
  | (_, d) => uptoBulk d + 1
 end
def uptoSmall : (H : Type) → List (DataW H) → Bool := fun _ ds => decide (uptoBulkAll ds ≤ 1048576)
def OpenSpec.upto (s : _root_.Go.ChangeSpec) : _root_.Go.OpenSpec := { _root_.Go.OpenSpec.ofChange s with cond := some uptoSmall }

/-- 'laws.FnExactWithPhases', WHERE WHAT IT READS IS OF BULK AT MOST 1048576: true; the input reads as it did. -/
def fnExactWithPhasesUptoRow : OpenClaim := { program := "ytnneldeocfkfnaa", sum := "b450ada4f7cf3ce07815b4d5451df6a7abd55fb8f445ee76e84f2251d8bacc81", func := "loop.example/g01264/laws.FnExactWithPhases", spec := "fnExactWithPhases", unfollowed := true, recurses := true, apart := false, narrowed := true }
def FnExactWithPhasesUptoSaid : Prop := fnExactWithPhasesUptoRow.holds Try.pinned (OpenSpec.upto fnExactWithPhasesSpec)

/-- 'laws.FnExactTurnMachine', WHERE WHAT IT READS IS OF BULK AT MOST 1048576: true; the input reads as it did. -/
def fnExactTurnMachineUptoRow : OpenClaim := { program := "ytnneldeocfkfnaa", sum := "b450ada4f7cf3ce07815b4d5451df6a7abd55fb8f445ee76e84f2251d8bacc81", func := "loop.example/g01264/laws.FnExactTurnMachine", spec := "fnExactTurnMachine", unfollowed := true, recurses := true, apart := false, narrowed := true }
def FnExactTurnMachineUptoSaid : Prop := fnExactTurnMachineUptoRow.holds Try.pinned (OpenSpec.upto fnExactTurnMachineSpec)

/-- 'laws.FnExactBothMachines', WHERE WHAT IT READS IS OF BULK AT MOST 1048576: true; the input reads as it did. -/
def fnExactBothMachinesUptoRow : OpenClaim := { program := "ytnneldeocfkfnaa", sum := "b450ada4f7cf3ce07815b4d5451df6a7abd55fb8f445ee76e84f2251d8bacc81", func := "loop.example/g01264/laws.FnExactBothMachines", spec := "fnExactBothMachines", unfollowed := true, recurses := true, apart := false, narrowed := true }
def FnExactBothMachinesUptoSaid : Prop := fnExactBothMachinesUptoRow.holds Try.pinned (OpenSpec.upto fnExactBothMachinesSpec)

/-- 'laws.FnExactFirstClash', WHERE WHAT IT READS IS OF BULK AT MOST 1048576: true; the input reads as it did. -/
def fnExactFirstClashUptoRow : OpenClaim := { program := "ytnneldeocfkfnaa", sum := "b450ada4f7cf3ce07815b4d5451df6a7abd55fb8f445ee76e84f2251d8bacc81", func := "loop.example/g01264/laws.FnExactFirstClash", spec := "fnExactFirstClash", unfollowed := true, recurses := true, apart := false, narrowed := true }
def FnExactFirstClashUptoSaid : Prop := fnExactFirstClashUptoRow.holds Try.pinned (OpenSpec.upto fnExactFirstClashSpec)

/-- 'laws.FnExactClashesOf', WHERE WHAT IT READS IS OF BULK AT MOST 1048576: true; the input reads as it did. -/
def fnExactClashesOfUptoRow : OpenClaim := { program := "ytnneldeocfkfnaa", sum := "b450ada4f7cf3ce07815b4d5451df6a7abd55fb8f445ee76e84f2251d8bacc81", func := "loop.example/g01264/laws.FnExactClashesOf", spec := "fnExactClashesOf", unfollowed := true, recurses := true, apart := false, narrowed := true }
def FnExactClashesOfUptoSaid : Prop := fnExactClashesOfUptoRow.holds Try.pinned (OpenSpec.upto fnExactClashesOfSpec)

end Rows
end Go.Proofs.Ytnneldeocfkfnaa
