/-
  No cell of these rows narrows 'for every input' (looked for: loops, veiled, ifaces, maps, wideKeys, modest, calm, conditions, laid).
  DERIVED. THE GIVEN ROWS OF THIS SEAT. 6 by the template 'for every input the law returns true; each argument reads behind the call as it read before'; 0 by the template 'total and deterministic' (their statements: YtonehebfknnbiaaTotals.lean).
  GIVEN WITH THE SEED: the statements are not yours to turn. If you find one false, say at which input.
  Laid BY PROGRAM, IN A SANDBOX (cutbox-rows.mjs): the forced cells as the released guide's own fill.sh prints them over the translation 3a3a13b53346bdc4… (all of the seat's roots in one cut). By AI agents, Wed Nov 11 2026. No macro, syntax, notation, axiom, sorry.
-/
import Derived.Test.YtonehebfknnbiaaChecked
import GoSem.Claim
import GoSem.ClaimJoined
import GoSem.ClaimMapViews
import Derived.JoinedTies
import Derived.KernelRfl
namespace Go.Proofs.Ytonehebfknnbiaa
/- THE CELL 'sum', in the pinned program and in every row, IS THE sha256 OF THE DUMP (.gsa) THAT YtonehebfknnbiaaProg.lean LOADS. Nothing in Lean hashes anything: it is a label: what it is worth is what the hold of that sum in a sandbox is worth. -/
noncomputable def Try.pinned : Pinned := { name := "ytonehebfknnbiaa", sum := "3a3a13b53346bdc4ca162bf0d50ce99e09b567b70da0976c50886fe2d71aca11", checked := Try.checked }
namespace Rows
def none {H : Type} : Left H := { results := [], args := [] }

/-- 'laws.FnExactPlanCuts': WHATEVER THE INPUT: true; the input reads as it did. -/
def fnExactPlanCutsSpec : ChangeSpec := { name := "fnExactPlanCuts", fn := fun _ => fun
  | [d1, d2, d3, d4, d5] => { results := [.lit (.bool true)], args := [d1, d2, d3, d4, d5] }
  | _ => none }
def fnExactPlanCutsRow : OpenClaim := { program := "ytonehebfknnbiaa", sum := "3a3a13b53346bdc4ca162bf0d50ce99e09b567b70da0976c50886fe2d71aca11", func := "loop.example/g01264/laws.FnExactPlanCuts", spec := "fnExactPlanCuts", unfollowed := true, recurses := true, plainKeys := false, apart := false }
def FnExactPlanCutsSaid : Prop := fnExactPlanCutsRow.holds Try.pinned (OpenSpec.ofChange fnExactPlanCutsSpec)

/-- ITS FALSE NEIGHBOUR: 'it returns false'. Refute it at one input. -/
def fnExactPlanCutsWrong : ChangeSpec := { name := "fnExactPlanCuts", fn := fun _ => fun
  | [d1, d2, d3, d4, d5] => { results := [.lit (.bool false)], args := [d1, d2, d3, d4, d5] }
  | _ => none }
def FnExactPlanCutsWrongFalsely : Prop := fnExactPlanCutsRow.holds Try.pinned (OpenSpec.ofChange fnExactPlanCutsWrong)

/-- 'laws.FnFits': WHATEVER THE INPUT: true; the input reads as it did. -/
def fnFitsSpec : ChangeSpec := { name := "fnFits", fn := fun _ => fun
  | [d1, d2] => { results := [.lit (.bool true)], args := [d1, d2] }
  | _ => none }
def fnFitsRow : OpenClaim := { program := "ytonehebfknnbiaa", sum := "3a3a13b53346bdc4ca162bf0d50ce99e09b567b70da0976c50886fe2d71aca11", func := "loop.example/g01264/laws.FnFits", spec := "fnFits", unfollowed := true, recurses := true, plainKeys := false, apart := false }
def FnFitsSaid : Prop := fnFitsRow.holds Try.pinned (OpenSpec.ofChange fnFitsSpec)

/-- ITS FALSE NEIGHBOUR: 'it returns false'. Refute it at one input. -/
def fnFitsWrong : ChangeSpec := { name := "fnFits", fn := fun _ => fun
  | [d1, d2] => { results := [.lit (.bool false)], args := [d1, d2] }
  | _ => none }
def FnFitsWrongFalsely : Prop := fnFitsRow.holds Try.pinned (OpenSpec.ofChange fnFitsWrong)

/-- 'laws.FnClashes': WHATEVER THE INPUT: true; the input reads as it did. -/
def fnClashesSpec : ChangeSpec := { name := "fnClashes", fn := fun _ => fun
  | [d1, d2] => { results := [.lit (.bool true)], args := [d1, d2] }
  | _ => none }
def fnClashesRow : OpenClaim := { program := "ytonehebfknnbiaa", sum := "3a3a13b53346bdc4ca162bf0d50ce99e09b567b70da0976c50886fe2d71aca11", func := "loop.example/g01264/laws.FnClashes", spec := "fnClashes", unfollowed := true, recurses := true, plainKeys := false, apart := false }
def FnClashesSaid : Prop := fnClashesRow.holds Try.pinned (OpenSpec.ofChange fnClashesSpec)

/-- ITS FALSE NEIGHBOUR: 'it returns false'. Refute it at one input. -/
def fnClashesWrong : ChangeSpec := { name := "fnClashes", fn := fun _ => fun
  | [d1, d2] => { results := [.lit (.bool false)], args := [d1, d2] }
  | _ => none }
def FnClashesWrongFalsely : Prop := fnClashesRow.holds Try.pinned (OpenSpec.ofChange fnClashesWrong)

/-- 'laws.FnExactCompileStrokes': WHATEVER THE INPUT: true; the input reads as it did. -/
def fnExactCompileStrokesSpec : ChangeSpec := { name := "fnExactCompileStrokes", fn := fun _ => fun
  | [d1, d2] => { results := [.lit (.bool true)], args := [d1, d2] }
  | _ => none }
def fnExactCompileStrokesRow : OpenClaim := { program := "ytonehebfknnbiaa", sum := "3a3a13b53346bdc4ca162bf0d50ce99e09b567b70da0976c50886fe2d71aca11", func := "loop.example/g01264/laws.FnExactCompileStrokes", spec := "fnExactCompileStrokes", unfollowed := true, recurses := true, plainKeys := false, apart := false }
def FnExactCompileStrokesSaid : Prop := fnExactCompileStrokesRow.holds Try.pinned (OpenSpec.ofChange fnExactCompileStrokesSpec)

/-- ITS FALSE NEIGHBOUR: 'it returns false'. Refute it at one input. -/
def fnExactCompileStrokesWrong : ChangeSpec := { name := "fnExactCompileStrokes", fn := fun _ => fun
  | [d1, d2] => { results := [.lit (.bool false)], args := [d1, d2] }
  | _ => none }
def FnExactCompileStrokesWrongFalsely : Prop := fnExactCompileStrokesRow.holds Try.pinned (OpenSpec.ofChange fnExactCompileStrokesWrong)

/-- 'laws.FnSlopes': WHATEVER THE INPUT: true; the input reads as it did. -/
def fnSlopesSpec : ChangeSpec := { name := "fnSlopes", fn := fun _ => fun
  | [d1, d2] => { results := [.lit (.bool true)], args := [d1, d2] }
  | _ => none }
def fnSlopesRow : OpenClaim := { program := "ytonehebfknnbiaa", sum := "3a3a13b53346bdc4ca162bf0d50ce99e09b567b70da0976c50886fe2d71aca11", func := "loop.example/g01264/laws.FnSlopes", spec := "fnSlopes", unfollowed := true, recurses := true, plainKeys := false, apart := false }
def FnSlopesSaid : Prop := fnSlopesRow.holds Try.pinned (OpenSpec.ofChange fnSlopesSpec)

/-- ITS FALSE NEIGHBOUR: 'it returns false'. Refute it at one input. -/
def fnSlopesWrong : ChangeSpec := { name := "fnSlopes", fn := fun _ => fun
  | [d1, d2] => { results := [.lit (.bool false)], args := [d1, d2] }
  | _ => none }
def FnSlopesWrongFalsely : Prop := fnSlopesRow.holds Try.pinned (OpenSpec.ofChange fnSlopesWrong)

/-- 'laws.FnCutters': WHATEVER THE INPUT: true; the input reads as it did. -/
def fnCuttersSpec : ChangeSpec := { name := "fnCutters", fn := fun _ => fun
  | [d1, d2] => { results := [.lit (.bool true)], args := [d1, d2] }
  | _ => none }
def fnCuttersRow : OpenClaim := { program := "ytonehebfknnbiaa", sum := "3a3a13b53346bdc4ca162bf0d50ce99e09b567b70da0976c50886fe2d71aca11", func := "loop.example/g01264/laws.FnCutters", spec := "fnCutters", unfollowed := true, recurses := true, plainKeys := false, apart := false }
def FnCuttersSaid : Prop := fnCuttersRow.holds Try.pinned (OpenSpec.ofChange fnCuttersSpec)

/-- ITS FALSE NEIGHBOUR: 'it returns false'. Refute it at one input. -/
def fnCuttersWrong : ChangeSpec := { name := "fnCutters", fn := fun _ => fun
  | [d1, d2] => { results := [.lit (.bool false)], args := [d1, d2] }
  | _ => none }
def FnCuttersWrongFalsely : Prop := fnCuttersRow.holds Try.pinned (OpenSpec.ofChange fnCuttersWrong)

/- THE SECOND FORM. 'bulk': how many values and letters a reading holds, each counted each time it is reached (what is shared counts as often as it is met; a slice's spare places count too). A statement '..UptoSaid' is the law's where the arguments, and the package variables that the reading takes, are together of bulk at most 1048576: NARROWER than '..Said'. Prove '..Said' where nothing that the law and all that it calls make is longer than what came in: it says more and counts as full. Else prove '..UptoSaid'. A law counts once. -/
mutual
def uptoBulk {H : Type} : DataW H → Nat
  | .lit (.string bytes) => bytes.length + 1
  | .lit _ => 1
  | .nil => 1
  | .ptr d => uptoBulk d + 1
  | .slice elems spare => uptoBulkAll elems + uptoBulkAll spare + 1
  | .agg parts => uptoBulkAll parts + 1
  | .iface _ d => uptoBulk d + 1
  | .map entries => uptoBulkEntries entries + 1
  | .held _ => 1
def uptoBulkAll {H : Type} : List (DataW H) → Nat
  | [] => 0
  | d :: r => uptoBulk d + uptoBulkAll r
def uptoBulkEntries {H : Type} : List (Lit × DataW H) → Nat
  | [] => 0
  | x :: r => uptoBulkEntry x + uptoBulkEntries r
def uptoBulkEntry {H : Type} : Lit × DataW H → Nat
  | (.string bytes, d) => bytes.length + uptoBulk d + 1
  | (_, d) => uptoBulk d + 1
 end
def uptoSmall : (H : Type) → List (DataW H) → Bool := fun _ ds => decide (uptoBulkAll ds ≤ 1048576)
def OpenSpec.upto (s : _root_.Go.ChangeSpec) : _root_.Go.OpenSpec := { _root_.Go.OpenSpec.ofChange s with cond := some uptoSmall }

/-- 'laws.FnExactPlanCuts', WHERE WHAT IT READS IS OF BULK AT MOST 1048576: true; the input reads as it did. -/
def fnExactPlanCutsUptoRow : OpenClaim := { program := "ytonehebfknnbiaa", sum := "3a3a13b53346bdc4ca162bf0d50ce99e09b567b70da0976c50886fe2d71aca11", func := "loop.example/g01264/laws.FnExactPlanCuts", spec := "fnExactPlanCuts", unfollowed := true, recurses := true, plainKeys := false, apart := false, narrowed := true }
def FnExactPlanCutsUptoSaid : Prop := fnExactPlanCutsUptoRow.holds Try.pinned (OpenSpec.upto fnExactPlanCutsSpec)

/-- 'laws.FnFits', WHERE WHAT IT READS IS OF BULK AT MOST 1048576: true; the input reads as it did. -/
def fnFitsUptoRow : OpenClaim := { program := "ytonehebfknnbiaa", sum := "3a3a13b53346bdc4ca162bf0d50ce99e09b567b70da0976c50886fe2d71aca11", func := "loop.example/g01264/laws.FnFits", spec := "fnFits", unfollowed := true, recurses := true, plainKeys := false, apart := false, narrowed := true }
def FnFitsUptoSaid : Prop := fnFitsUptoRow.holds Try.pinned (OpenSpec.upto fnFitsSpec)

/-- 'laws.FnClashes', WHERE WHAT IT READS IS OF BULK AT MOST 1048576: true; the input reads as it did. -/
def fnClashesUptoRow : OpenClaim := { program := "ytonehebfknnbiaa", sum := "3a3a13b53346bdc4ca162bf0d50ce99e09b567b70da0976c50886fe2d71aca11", func := "loop.example/g01264/laws.FnClashes", spec := "fnClashes", unfollowed := true, recurses := true, plainKeys := false, apart := false, narrowed := true }
def FnClashesUptoSaid : Prop := fnClashesUptoRow.holds Try.pinned (OpenSpec.upto fnClashesSpec)

/-- 'laws.FnExactCompileStrokes', WHERE WHAT IT READS IS OF BULK AT MOST 1048576: true; the input reads as it did. -/
def fnExactCompileStrokesUptoRow : OpenClaim := { program := "ytonehebfknnbiaa", sum := "3a3a13b53346bdc4ca162bf0d50ce99e09b567b70da0976c50886fe2d71aca11", func := "loop.example/g01264/laws.FnExactCompileStrokes", spec := "fnExactCompileStrokes", unfollowed := true, recurses := true, plainKeys := false, apart := false, narrowed := true }
def FnExactCompileStrokesUptoSaid : Prop := fnExactCompileStrokesUptoRow.holds Try.pinned (OpenSpec.upto fnExactCompileStrokesSpec)

/-- 'laws.FnSlopes', WHERE WHAT IT READS IS OF BULK AT MOST 1048576: true; the input reads as it did. -/
def fnSlopesUptoRow : OpenClaim := { program := "ytonehebfknnbiaa", sum := "3a3a13b53346bdc4ca162bf0d50ce99e09b567b70da0976c50886fe2d71aca11", func := "loop.example/g01264/laws.FnSlopes", spec := "fnSlopes", unfollowed := true, recurses := true, plainKeys := false, apart := false, narrowed := true }
def FnSlopesUptoSaid : Prop := fnSlopesUptoRow.holds Try.pinned (OpenSpec.upto fnSlopesSpec)

/-- 'laws.FnCutters', WHERE WHAT IT READS IS OF BULK AT MOST 1048576: true; the input reads as it did. -/
def fnCuttersUptoRow : OpenClaim := { program := "ytonehebfknnbiaa", sum := "3a3a13b53346bdc4ca162bf0d50ce99e09b567b70da0976c50886fe2d71aca11", func := "loop.example/g01264/laws.FnCutters", spec := "fnCutters", unfollowed := true, recurses := true, plainKeys := false, apart := false, narrowed := true }
def FnCuttersUptoSaid : Prop := fnCuttersUptoRow.holds Try.pinned (OpenSpec.upto fnCuttersSpec)

end Rows
end Go.Proofs.Ytonehebfknnbiaa
