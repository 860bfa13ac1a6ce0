/-
  NARROWER THAN 'FOR EVERY INPUT', by the rows' own cells (each row's printed sentence says how): FnExactLeastBound: laid · FnExactFillWithin: laid · FnExactSmoothStretch: laid · FnExactRepairCam: laid · FnFilled: laid · FnExactCheckMachine: laid.
  DERIVED. THE GIVEN ROWS OF THIS SEAT. 6 by the template 'for every input the law returns true; each argument reads behind the call as it read before'; 0 by the template 'total and deterministic' (their statements: YteeciijmkmdplaaDoorTotals.lean).
  GIVEN WITH THE SEED: the statements are not yours to turn. If you find one false, say at which input.
  Laid BY PROGRAM, IN A SANDBOX (cutbox-rows.mjs): the forced cells as the released guide's own fill.sh prints them over the translation e5025bad2946b26b… (all of the seat's roots in one cut). By AI agents, Wed Nov 11 2026. No macro, syntax, notation, axiom, sorry.
-/
import Derived.Test.YteeciijmkmdplaaDoorChecked
import GoSem.Claim
import GoSem.ClaimJoined
import GoSem.ClaimMapViews
import Derived.JoinedTies
import Derived.KernelRfl
namespace Go.Proofs.YteeciijmkmdplaaDoor
/- THE CELL 'sum', in the pinned program and in every row, IS THE sha256 OF THE DUMP (.gsa) THAT YteeciijmkmdplaaDoorProg.lean LOADS. Nothing in Lean hashes anything: it is a label: what it is worth is what the hold of that sum in a sandbox is worth. -/
noncomputable def Tryd.pinned : Pinned := { name := "yteeciijmkmdplaadoor", sum := "e5025bad2946b26b53efcde182885ad1a110932d09edc6813f660e408dccdbb6", checked := Tryd.checked }
namespace Rows
def none {H : Type} : Left H := { results := [], args := [] }

/- WHAT THE LISTED PACKAGE-LEVEL VARIABLES READ AS WHEN THE CALL BEGINS. Each datum BY PROGRAM (the guide's laid-datum.mjs) off the statement by which the dump's own 'gosem.cut.vars' lays the variable. In a bare row this is a premise. The card (YteeciijmkmdplaaDoorCards.lean) ties it to the program's text. -/
def laid_math_bits_deBruijn64tab {H : Type} : DataW H := .agg [.lit (.int .u8 0), .lit (.int .u8 1), .lit (.int .u8 56), .lit (.int .u8 2), .lit (.int .u8 57), .lit (.int .u8 49), .lit (.int .u8 28), .lit (.int .u8 3), .lit (.int .u8 61), .lit (.int .u8 58), .lit (.int .u8 42), .lit (.int .u8 50), .lit (.int .u8 38), .lit (.int .u8 29), .lit (.int .u8 17), .lit (.int .u8 4), .lit (.int .u8 62), .lit (.int .u8 47), .lit (.int .u8 59), .lit (.int .u8 36), .lit (.int .u8 45), .lit (.int .u8 43), .lit (.int .u8 51), .lit (.int .u8 22), .lit (.int .u8 53), .lit (.int .u8 39), .lit (.int .u8 33), .lit (.int .u8 30), .lit (.int .u8 24), .lit (.int .u8 18), .lit (.int .u8 12), .lit (.int .u8 5), .lit (.int .u8 63), .lit (.int .u8 55), .lit (.int .u8 48), .lit (.int .u8 27), .lit (.int .u8 60), .lit (.int .u8 41), .lit (.int .u8 37), .lit (.int .u8 16), .lit (.int .u8 46), .lit (.int .u8 35), .lit (.int .u8 44), .lit (.int .u8 21), .lit (.int .u8 52), .lit (.int .u8 32), .lit (.int .u8 23), .lit (.int .u8 11), .lit (.int .u8 54), .lit (.int .u8 26), .lit (.int .u8 40), .lit (.int .u8 15), .lit (.int .u8 34), .lit (.int .u8 20), .lit (.int .u8 31), .lit (.int .u8 10), .lit (.int .u8 25), .lit (.int .u8 14), .lit (.int .u8 19), .lit (.int .u8 9), .lit (.int .u8 13), .lit (.int .u8 8), .lit (.int .u8 7), .lit (.int .u8 6)]

/-- 'laws.FnExactLeastBound': WHATEVER THE INPUT: true; the input reads as it did. -/
def fnExactLeastBoundSpec : ChangeSpec := { name := "fnExactLeastBound", fn := fun _ => fun
  | [d1, d2, d3, d4] => { results := [.lit (.bool true)], args := [d1, d2, d3, d4] }
  | _ => none }
def fnExactLeastBoundRow : OpenClaim := { program := "yteeciijmkmdplaadoor", sum := "e5025bad2946b26b53efcde182885ad1a110932d09edc6813f660e408dccdbb6", func := "loop.example/g01264/laws.FnExactLeastBound", spec := "fnExactLeastBound", unfollowed := true, recurses := true, named := ["math/bits.deBruijn64tab"], apart := false, laid := [("math/bits.deBruijn64tab", laid_math_bits_deBruijn64tab)] }
def FnExactLeastBoundSaid : Prop := fnExactLeastBoundRow.holds Tryd.pinned (OpenSpec.ofChange fnExactLeastBoundSpec)

/-- ITS FALSE NEIGHBOUR: 'it returns false'. Refute it at one input. -/
def fnExactLeastBoundWrong : ChangeSpec := { name := "fnExactLeastBound", fn := fun _ => fun
  | [d1, d2, d3, d4] => { results := [.lit (.bool false)], args := [d1, d2, d3, d4] }
  | _ => none }
def FnExactLeastBoundWrongFalsely : Prop := fnExactLeastBoundRow.holds Tryd.pinned (OpenSpec.ofChange fnExactLeastBoundWrong)

/-- 'laws.FnExactFillWithin': WHATEVER THE INPUT: true; the input reads as it did. -/
def fnExactFillWithinSpec : ChangeSpec := { name := "fnExactFillWithin", fn := fun _ => fun
  | [d1, d2, d3, d4, d5] => { results := [.lit (.bool true)], args := [d1, d2, d3, d4, d5] }
  | _ => none }
def fnExactFillWithinRow : OpenClaim := { program := "yteeciijmkmdplaadoor", sum := "e5025bad2946b26b53efcde182885ad1a110932d09edc6813f660e408dccdbb6", func := "loop.example/g01264/laws.FnExactFillWithin", spec := "fnExactFillWithin", unfollowed := true, recurses := true, named := ["math/bits.deBruijn64tab"], apart := false, laid := [("math/bits.deBruijn64tab", laid_math_bits_deBruijn64tab)] }
def FnExactFillWithinSaid : Prop := fnExactFillWithinRow.holds Tryd.pinned (OpenSpec.ofChange fnExactFillWithinSpec)

/-- ITS FALSE NEIGHBOUR: 'it returns false'. Refute it at one input. -/
def fnExactFillWithinWrong : ChangeSpec := { name := "fnExactFillWithin", fn := fun _ => fun
  | [d1, d2, d3, d4, d5] => { results := [.lit (.bool false)], args := [d1, d2, d3, d4, d5] }
  | _ => none }
def FnExactFillWithinWrongFalsely : Prop := fnExactFillWithinRow.holds Tryd.pinned (OpenSpec.ofChange fnExactFillWithinWrong)

/-- 'laws.FnExactSmoothStretch': WHATEVER THE INPUT: true; the input reads as it did. -/
def fnExactSmoothStretchSpec : ChangeSpec := { name := "fnExactSmoothStretch", fn := fun _ => fun
  | [d1, d2, d3, d4] => { results := [.lit (.bool true)], args := [d1, d2, d3, d4] }
  | _ => none }
def fnExactSmoothStretchRow : OpenClaim := { program := "yteeciijmkmdplaadoor", sum := "e5025bad2946b26b53efcde182885ad1a110932d09edc6813f660e408dccdbb6", func := "loop.example/g01264/laws.FnExactSmoothStretch", spec := "fnExactSmoothStretch", unfollowed := true, recurses := true, named := ["math/bits.deBruijn64tab"], apart := false, laid := [("math/bits.deBruijn64tab", laid_math_bits_deBruijn64tab)] }
def FnExactSmoothStretchSaid : Prop := fnExactSmoothStretchRow.holds Tryd.pinned (OpenSpec.ofChange fnExactSmoothStretchSpec)

/-- ITS FALSE NEIGHBOUR: 'it returns false'. Refute it at one input. -/
def fnExactSmoothStretchWrong : ChangeSpec := { name := "fnExactSmoothStretch", fn := fun _ => fun
  | [d1, d2, d3, d4] => { results := [.lit (.bool false)], args := [d1, d2, d3, d4] }
  | _ => none }
def FnExactSmoothStretchWrongFalsely : Prop := fnExactSmoothStretchRow.holds Tryd.pinned (OpenSpec.ofChange fnExactSmoothStretchWrong)

/-- 'laws.FnExactRepairCam': WHATEVER THE INPUT: true; the input reads as it did. -/
def fnExactRepairCamSpec : ChangeSpec := { name := "fnExactRepairCam", fn := fun _ => fun
  | [d1, d2, d3] => { results := [.lit (.bool true)], args := [d1, d2, d3] }
  | _ => none }
def fnExactRepairCamRow : OpenClaim := { program := "yteeciijmkmdplaadoor", sum := "e5025bad2946b26b53efcde182885ad1a110932d09edc6813f660e408dccdbb6", func := "loop.example/g01264/laws.FnExactRepairCam", spec := "fnExactRepairCam", unfollowed := true, recurses := true, named := ["math/bits.deBruijn64tab"], apart := false, laid := [("math/bits.deBruijn64tab", laid_math_bits_deBruijn64tab)] }
def FnExactRepairCamSaid : Prop := fnExactRepairCamRow.holds Tryd.pinned (OpenSpec.ofChange fnExactRepairCamSpec)

/-- ITS FALSE NEIGHBOUR: 'it returns false'. Refute it at one input. -/
def fnExactRepairCamWrong : ChangeSpec := { name := "fnExactRepairCam", fn := fun _ => fun
  | [d1, d2, d3] => { results := [.lit (.bool false)], args := [d1, d2, d3] }
  | _ => none }
def FnExactRepairCamWrongFalsely : Prop := fnExactRepairCamRow.holds Tryd.pinned (OpenSpec.ofChange fnExactRepairCamWrong)

/-- 'laws.FnFilled': WHATEVER THE INPUT: true; the input reads as it did. -/
def fnFilledSpec : ChangeSpec := { name := "fnFilled", fn := fun _ => fun
  | [d1, d2] => { results := [.lit (.bool true)], args := [d1, d2] }
  | _ => none }
def fnFilledRow : OpenClaim := { program := "yteeciijmkmdplaadoor", sum := "e5025bad2946b26b53efcde182885ad1a110932d09edc6813f660e408dccdbb6", func := "loop.example/g01264/laws.FnFilled", spec := "fnFilled", unfollowed := true, recurses := true, named := ["math/bits.deBruijn64tab"], apart := false, laid := [("math/bits.deBruijn64tab", laid_math_bits_deBruijn64tab)] }
def FnFilledSaid : Prop := fnFilledRow.holds Tryd.pinned (OpenSpec.ofChange fnFilledSpec)

/-- ITS FALSE NEIGHBOUR: 'it returns false'. Refute it at one input. -/
def fnFilledWrong : ChangeSpec := { name := "fnFilled", fn := fun _ => fun
  | [d1, d2] => { results := [.lit (.bool false)], args := [d1, d2] }
  | _ => none }
def FnFilledWrongFalsely : Prop := fnFilledRow.holds Tryd.pinned (OpenSpec.ofChange fnFilledWrong)

/-- 'laws.FnExactCheckMachine': WHATEVER THE INPUT: true; the input reads as it did. -/
def fnExactCheckMachineSpec : ChangeSpec := { name := "fnExactCheckMachine", fn := fun _ => fun
  | [d1, d2] => { results := [.lit (.bool true)], args := [d1, d2] }
  | _ => none }
def fnExactCheckMachineRow : OpenClaim := { program := "yteeciijmkmdplaadoor", sum := "e5025bad2946b26b53efcde182885ad1a110932d09edc6813f660e408dccdbb6", func := "loop.example/g01264/laws.FnExactCheckMachine", spec := "fnExactCheckMachine", unfollowed := true, recurses := true, named := ["math/bits.deBruijn64tab"], apart := false, laid := [("math/bits.deBruijn64tab", laid_math_bits_deBruijn64tab)] }
def FnExactCheckMachineSaid : Prop := fnExactCheckMachineRow.holds Tryd.pinned (OpenSpec.ofChange fnExactCheckMachineSpec)

/-- ITS FALSE NEIGHBOUR: 'it returns false'. Refute it at one input. -/
def fnExactCheckMachineWrong : ChangeSpec := { name := "fnExactCheckMachine", fn := fun _ => fun
  | [d1, d2] => { results := [.lit (.bool false)], args := [d1, d2] }
  | _ => none }
def FnExactCheckMachineWrongFalsely : Prop := fnExactCheckMachineRow.holds Tryd.pinned (OpenSpec.ofChange fnExactCheckMachineWrong)

/- THE SECOND FORM. 'bulk': how many values and letters a reading holds, each counted each time it is reached (what is shared counts as often as it is met; a slice's spare places count too). A statement '..UptoSaid' is the law's where the arguments, and the package variables that the reading takes, are together of bulk at most 1048576: NARROWER than '..Said'. Prove '..Said' where nothing that the law and all that it calls make is longer than what came in: it says more and counts as full. Else prove '..UptoSaid'. A law counts once. -/
mutual
def uptoBulk {H : Type} : DataW H → Nat
  | .lit (.string bytes) => bytes.length + 1
  | .lit _ => 1
  | .nil => 1
  | .ptr d => uptoBulk d + 1
  | .slice elems spare => uptoBulkAll elems + uptoBulkAll spare + 1
  | .agg parts => uptoBulkAll parts + 1
  | .iface _ d => uptoBulk d + 1
  | .map entries => uptoBulkEntries entries + 1
  | .held _ => 1
def uptoBulkAll {H : Type} : List (DataW H) → Nat
  | [] => 0
  | d :: r => uptoBulk d + uptoBulkAll r
def uptoBulkEntries {H : Type} : List (Lit × DataW H) → Nat
  | [] => 0
  | x :: r => uptoBulkEntry x + uptoBulkEntries r
def uptoBulkEntry {H : Type} : Lit × DataW H → Nat
  | (.string bytes, d) => bytes.length + uptoBulk d + 1
  | (_, d) => uptoBulk d + 1
 end
def uptoSmall : (H : Type) → List (DataW H) → Bool := fun _ ds => decide (uptoBulkAll ds ≤ 1048576)
def OpenSpec.upto (s : _root_.Go.ChangeSpec) : _root_.Go.OpenSpec := { _root_.Go.OpenSpec.ofChange s with cond := some uptoSmall }

/-- 'laws.FnExactLeastBound', WHERE WHAT IT READS IS OF BULK AT MOST 1048576: true; the input reads as it did. -/
def fnExactLeastBoundUptoRow : OpenClaim := { program := "yteeciijmkmdplaadoor", sum := "e5025bad2946b26b53efcde182885ad1a110932d09edc6813f660e408dccdbb6", func := "loop.example/g01264/laws.FnExactLeastBound", spec := "fnExactLeastBound", unfollowed := true, recurses := true, named := ["math/bits.deBruijn64tab"], apart := false, laid := [("math/bits.deBruijn64tab", laid_math_bits_deBruijn64tab)], narrowed := true }
def FnExactLeastBoundUptoSaid : Prop := fnExactLeastBoundUptoRow.holds Tryd.pinned (OpenSpec.upto fnExactLeastBoundSpec)

/-- 'laws.FnExactFillWithin', WHERE WHAT IT READS IS OF BULK AT MOST 1048576: true; the input reads as it did. -/
def fnExactFillWithinUptoRow : OpenClaim := { program := "yteeciijmkmdplaadoor", sum := "e5025bad2946b26b53efcde182885ad1a110932d09edc6813f660e408dccdbb6", func := "loop.example/g01264/laws.FnExactFillWithin", spec := "fnExactFillWithin", unfollowed := true, recurses := true, named := ["math/bits.deBruijn64tab"], apart := false, laid := [("math/bits.deBruijn64tab", laid_math_bits_deBruijn64tab)], narrowed := true }
def FnExactFillWithinUptoSaid : Prop := fnExactFillWithinUptoRow.holds Tryd.pinned (OpenSpec.upto fnExactFillWithinSpec)

/-- 'laws.FnExactSmoothStretch', WHERE WHAT IT READS IS OF BULK AT MOST 1048576: true; the input reads as it did. -/
def fnExactSmoothStretchUptoRow : OpenClaim := { program := "yteeciijmkmdplaadoor", sum := "e5025bad2946b26b53efcde182885ad1a110932d09edc6813f660e408dccdbb6", func := "loop.example/g01264/laws.FnExactSmoothStretch", spec := "fnExactSmoothStretch", unfollowed := true, recurses := true, named := ["math/bits.deBruijn64tab"], apart := false, laid := [("math/bits.deBruijn64tab", laid_math_bits_deBruijn64tab)], narrowed := true }
def FnExactSmoothStretchUptoSaid : Prop := fnExactSmoothStretchUptoRow.holds Tryd.pinned (OpenSpec.upto fnExactSmoothStretchSpec)

/-- 'laws.FnExactRepairCam', WHERE WHAT IT READS IS OF BULK AT MOST 1048576: true; the input reads as it did. -/
def fnExactRepairCamUptoRow : OpenClaim := { program := "yteeciijmkmdplaadoor", sum := "e5025bad2946b26b53efcde182885ad1a110932d09edc6813f660e408dccdbb6", func := "loop.example/g01264/laws.FnExactRepairCam", spec := "fnExactRepairCam", unfollowed := true, recurses := true, named := ["math/bits.deBruijn64tab"], apart := false, laid := [("math/bits.deBruijn64tab", laid_math_bits_deBruijn64tab)], narrowed := true }
def FnExactRepairCamUptoSaid : Prop := fnExactRepairCamUptoRow.holds Tryd.pinned (OpenSpec.upto fnExactRepairCamSpec)

/-- 'laws.FnFilled', WHERE WHAT IT READS IS OF BULK AT MOST 1048576: true; the input reads as it did. -/
def fnFilledUptoRow : OpenClaim := { program := "yteeciijmkmdplaadoor", sum := "e5025bad2946b26b53efcde182885ad1a110932d09edc6813f660e408dccdbb6", func := "loop.example/g01264/laws.FnFilled", spec := "fnFilled", unfollowed := true, recurses := true, named := ["math/bits.deBruijn64tab"], apart := false, laid := [("math/bits.deBruijn64tab", laid_math_bits_deBruijn64tab)], narrowed := true }
def FnFilledUptoSaid : Prop := fnFilledUptoRow.holds Tryd.pinned (OpenSpec.upto fnFilledSpec)

/-- 'laws.FnExactCheckMachine', WHERE WHAT IT READS IS OF BULK AT MOST 1048576: true; the input reads as it did. -/
def fnExactCheckMachineUptoRow : OpenClaim := { program := "yteeciijmkmdplaadoor", sum := "e5025bad2946b26b53efcde182885ad1a110932d09edc6813f660e408dccdbb6", func := "loop.example/g01264/laws.FnExactCheckMachine", spec := "fnExactCheckMachine", unfollowed := true, recurses := true, named := ["math/bits.deBruijn64tab"], apart := false, laid := [("math/bits.deBruijn64tab", laid_math_bits_deBruijn64tab)], narrowed := true }
def FnExactCheckMachineUptoSaid : Prop := fnExactCheckMachineUptoRow.holds Tryd.pinned (OpenSpec.upto fnExactCheckMachineSpec)

end Rows
end Go.Proofs.YteeciijmkmdplaaDoor
