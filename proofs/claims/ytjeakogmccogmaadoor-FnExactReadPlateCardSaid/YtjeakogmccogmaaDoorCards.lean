/-
  DERIVED. GIVEN WITH THE SEED: THE CARDS: each row of YtjeakogmccogmaaDoorRows.lean that lists a variable, with what it lists TIED to the program's text (the seventh form; the later family's looks); each row that meets fmt, with fmt's text TOLD by the authors' own Lean function (tested against real Go, not proved from fmt's source: count such statements apart). THE CARD IS WHAT COUNTS. Prove the row's statement (the work); the ties are given (YtjeakogmccogmaaDoorTie.lean); close each card by the builder's one call (the guide's Derived/Test/ToyasCard.lean, 'card_holds'). Laid BY PROGRAM, IN A SANDBOX (cutbox-door.mjs). By AI agents, Wed Nov 11 2026. No macro, syntax, notation, axiom, sorry.
-/
import Derived.Test.YtjeakogmccogmaaDoorRows
import GoSem.ClaimSeven
namespace Go.Proofs.YtjeakogmccogmaaDoor
namespace Rows

/-- THE TIED CARD OF 'laws.FnExactReadPlate'. -/
def fnExactReadPlateCard : Claim7 := { stood := { row := fnExactReadPlateRow, standIns := [], harness := (true, "04f5ed8d4bd25dc0c851b391101964d4dd7aa892723e9b601b8b44e29a0c94e3"), looks := true }, kinds := [], alts := [], laidByText := true, laidKinds := [.data, .data, .data, .data, .sentinel, .sentinel, .pinned], laidTests := true, laidLooks := .later }
def FnExactReadPlateCardSaid : Prop := Claim7.holds Tryd.pinned (.plain (OpenSpec.ofChange fnExactReadPlateSpec)) fnExactReadPlateCard

/-- THE TIED CARD OF 'laws.FnExactReadCam'. -/
def fnExactReadCamCard : Claim7 := { stood := { row := fnExactReadCamRow, standIns := [], harness := (true, "04f5ed8d4bd25dc0c851b391101964d4dd7aa892723e9b601b8b44e29a0c94e3"), looks := true }, kinds := [], alts := [], laidByText := true, laidKinds := [.data, .data, .data, .data, .sentinel, .sentinel, .pinned], laidTests := true, laidLooks := .later }
def FnExactReadCamCardSaid : Prop := Claim7.holds Tryd.pinned (.plain (OpenSpec.ofChange fnExactReadCamSpec)) fnExactReadCamCard

/-- THE TIED CARD OF 'laws.FnExactReadProgram'. -/
def fnExactReadProgramCard : Claim7 := { stood := { row := fnExactReadProgramRow, standIns := [], harness := (true, "04f5ed8d4bd25dc0c851b391101964d4dd7aa892723e9b601b8b44e29a0c94e3"), looks := true }, kinds := [], alts := [], laidByText := true, laidKinds := [.data, .data, .data, .data, .sentinel, .sentinel, .pinned], laidTests := true, laidLooks := .later }
def FnExactReadProgramCardSaid : Prop := Claim7.holds Tryd.pinned (.plain (OpenSpec.ofChange fnExactReadProgramSpec)) fnExactReadProgramCard

/-- THE SECOND FORM's CARD OF 'laws.FnExactReadPlate'. -/
def fnExactReadPlateUptoCard : Claim7 := { stood := { row := fnExactReadPlateUptoRow, standIns := [], harness := (true, "04f5ed8d4bd25dc0c851b391101964d4dd7aa892723e9b601b8b44e29a0c94e3"), looks := true }, kinds := [], alts := [], laidByText := true, laidKinds := [.data, .data, .data, .data, .sentinel, .sentinel, .pinned], laidTests := true, laidLooks := .later }
def FnExactReadPlateUptoCardSaid : Prop := Claim7.holds Tryd.pinned (.plain (OpenSpec.upto fnExactReadPlateSpec)) fnExactReadPlateUptoCard

/-- THE SECOND FORM's CARD OF 'laws.FnExactReadCam'. -/
def fnExactReadCamUptoCard : Claim7 := { stood := { row := fnExactReadCamUptoRow, standIns := [], harness := (true, "04f5ed8d4bd25dc0c851b391101964d4dd7aa892723e9b601b8b44e29a0c94e3"), looks := true }, kinds := [], alts := [], laidByText := true, laidKinds := [.data, .data, .data, .data, .sentinel, .sentinel, .pinned], laidTests := true, laidLooks := .later }
def FnExactReadCamUptoCardSaid : Prop := Claim7.holds Tryd.pinned (.plain (OpenSpec.upto fnExactReadCamSpec)) fnExactReadCamUptoCard

/-- THE SECOND FORM's CARD OF 'laws.FnExactReadProgram'. -/
def fnExactReadProgramUptoCard : Claim7 := { stood := { row := fnExactReadProgramUptoRow, standIns := [], harness := (true, "04f5ed8d4bd25dc0c851b391101964d4dd7aa892723e9b601b8b44e29a0c94e3"), looks := true }, kinds := [], alts := [], laidByText := true, laidKinds := [.data, .data, .data, .data, .sentinel, .sentinel, .pinned], laidTests := true, laidLooks := .later }
def FnExactReadProgramUptoCardSaid : Prop := Claim7.holds Tryd.pinned (.plain (OpenSpec.upto fnExactReadProgramSpec)) fnExactReadProgramUptoCard
end Rows
end Go.Proofs.YtjeakogmccogmaaDoor
