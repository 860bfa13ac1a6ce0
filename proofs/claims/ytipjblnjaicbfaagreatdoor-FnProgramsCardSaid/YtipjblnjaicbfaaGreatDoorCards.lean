/-
  DERIVED. GIVEN WITH THE SEED: THE CARDS: each row of YtipjblnjaicbfaaGreatDoorRows.lean that lists a variable, with what it lists TIED to the program's text (the seventh form; the later family's looks); each row that meets fmt, with fmt's text TOLD by the authors' own Lean function (tested against real Go, not proved from fmt's source: count such statements apart). THE CARD IS WHAT COUNTS. Prove the row's statement (the work); the ties are given (YtipjblnjaicbfaaGreatDoorTie.lean); close each card by the builder's one call (the guide's Derived/Test/ToyasCard.lean, 'card_holds'). Laid BY PROGRAM, IN A SANDBOX (cutbox-door.mjs). By AI agents, Wed Nov 11 2026. No macro, syntax, notation, axiom, sorry.
-/
import Derived.Test.YtipjblnjaicbfaaGreatDoorRows
import GoSem.ClaimSeven
namespace Go.Proofs.YtipjblnjaicbfaaGreatDoor
namespace Rows

/-- THE TIED CARD OF 'laws.FnMachines'. -/
def fnMachinesCard : Claim7 := { stood := { row := fnMachinesRow, standIns := [], harness := (true, "852222544a5a637661edfe44e71a5d45a89e16e2f63bcbca8582ca65cb042713"), looks := true }, kinds := [], alts := [], laidByText := true, laidKinds := [.data, .data, .data, .data, .sentinel, .sentinel, .pinned], laidTests := true, laidLooks := .later }
def FnMachinesCardSaid : Prop := Claim7.holds Tryz.pinned (.plain (OpenSpec.ofChange fnMachinesSpec)) fnMachinesCard

/-- THE TIED CARD OF 'laws.FnPrograms'. -/
def fnProgramsCard : Claim7 := { stood := { row := fnProgramsRow, standIns := [], harness := (true, "852222544a5a637661edfe44e71a5d45a89e16e2f63bcbca8582ca65cb042713"), looks := true }, kinds := [], alts := [], laidByText := true, laidKinds := [.data, .data, .data, .data, .sentinel, .sentinel, .pinned], laidTests := true, laidLooks := .later }
def FnProgramsCardSaid : Prop := Claim7.holds Tryz.pinned (.plain (OpenSpec.ofChange fnProgramsSpec)) fnProgramsCard

/-- THE TIED CARD OF 'laws.FnRepaired'. -/
def fnRepairedCard : Claim7 := { stood := { row := fnRepairedRow, standIns := [], harness := (true, "852222544a5a637661edfe44e71a5d45a89e16e2f63bcbca8582ca65cb042713"), looks := true }, kinds := [], alts := [], laidByText := true, laidKinds := [.data, .data, .data, .data, .sentinel, .sentinel, .pinned], laidTests := true, laidLooks := .later }
def FnRepairedCardSaid : Prop := Claim7.holds Tryz.pinned (.plain (OpenSpec.ofChange fnRepairedSpec)) fnRepairedCard

/-- THE SECOND FORM's CARD OF 'laws.FnMachines'. -/
def fnMachinesUptoCard : Claim7 := { stood := { row := fnMachinesUptoRow, standIns := [], harness := (true, "852222544a5a637661edfe44e71a5d45a89e16e2f63bcbca8582ca65cb042713"), looks := true }, kinds := [], alts := [], laidByText := true, laidKinds := [.data, .data, .data, .data, .sentinel, .sentinel, .pinned], laidTests := true, laidLooks := .later }
def FnMachinesUptoCardSaid : Prop := Claim7.holds Tryz.pinned (.plain (OpenSpec.upto fnMachinesSpec)) fnMachinesUptoCard

/-- THE SECOND FORM's CARD OF 'laws.FnPrograms'. -/
def fnProgramsUptoCard : Claim7 := { stood := { row := fnProgramsUptoRow, standIns := [], harness := (true, "852222544a5a637661edfe44e71a5d45a89e16e2f63bcbca8582ca65cb042713"), looks := true }, kinds := [], alts := [], laidByText := true, laidKinds := [.data, .data, .data, .data, .sentinel, .sentinel, .pinned], laidTests := true, laidLooks := .later }
def FnProgramsUptoCardSaid : Prop := Claim7.holds Tryz.pinned (.plain (OpenSpec.upto fnProgramsSpec)) fnProgramsUptoCard

/-- THE SECOND FORM's CARD OF 'laws.FnRepaired'. -/
def fnRepairedUptoCard : Claim7 := { stood := { row := fnRepairedUptoRow, standIns := [], harness := (true, "852222544a5a637661edfe44e71a5d45a89e16e2f63bcbca8582ca65cb042713"), looks := true }, kinds := [], alts := [], laidByText := true, laidKinds := [.data, .data, .data, .data, .sentinel, .sentinel, .pinned], laidTests := true, laidLooks := .later }
def FnRepairedUptoCardSaid : Prop := Claim7.holds Tryz.pinned (.plain (OpenSpec.upto fnRepairedSpec)) fnRepairedUptoCard
end Rows
end Go.Proofs.YtipjblnjaicbfaaGreatDoor
