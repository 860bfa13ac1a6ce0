/-
  DERIVED. GIVEN WITH THE SEED: THE CARDS: each row of YteeciijmkmdplaaDoorRows.lean that lists a variable, with what it lists TIED to the program's text (the seventh form; the later family's looks); each row that meets fmt, with fmt's text TOLD by the authors' own Lean function (tested against real Go, not proved from fmt's source: count such statements apart). THE CARD IS WHAT COUNTS. Prove the row's statement (the work); the ties are given (YteeciijmkmdplaaDoorTie.lean); close each card by the builder's one call (the guide's Derived/Test/ToyasCard.lean, 'card_holds'). Laid BY PROGRAM, IN A SANDBOX (cutbox-door.mjs). By AI agents, Wed Nov 11 2026. No macro, syntax, notation, axiom, sorry.
-/
import Derived.Test.YteeciijmkmdplaaDoorRows
import GoSem.ClaimSeven
namespace Go.Proofs.YteeciijmkmdplaaDoor
namespace Rows

/-- THE TIED CARD OF 'laws.FnExactLeastBound'. -/
def fnExactLeastBoundCard : Claim7 := { stood := { row := fnExactLeastBoundRow, standIns := [], harness := (true, "f1919403e6a6c8827bd5a6003e392ca606fe82804c6bc45c357c559a4cc8f1b2"), looks := false }, kinds := [], alts := [], laidByText := true, laidKinds := [.data], laidTests := true, laidLooks := .later }
def FnExactLeastBoundCardSaid : Prop := Claim7.holds Tryd.pinned (.plain (OpenSpec.ofChange fnExactLeastBoundSpec)) fnExactLeastBoundCard

/-- THE TIED CARD OF 'laws.FnExactFillWithin'. -/
def fnExactFillWithinCard : Claim7 := { stood := { row := fnExactFillWithinRow, standIns := [], harness := (true, "f1919403e6a6c8827bd5a6003e392ca606fe82804c6bc45c357c559a4cc8f1b2"), looks := false }, kinds := [], alts := [], laidByText := true, laidKinds := [.data], laidTests := true, laidLooks := .later }
def FnExactFillWithinCardSaid : Prop := Claim7.holds Tryd.pinned (.plain (OpenSpec.ofChange fnExactFillWithinSpec)) fnExactFillWithinCard

/-- THE TIED CARD OF 'laws.FnExactSmoothStretch'. -/
def fnExactSmoothStretchCard : Claim7 := { stood := { row := fnExactSmoothStretchRow, standIns := [], harness := (true, "f1919403e6a6c8827bd5a6003e392ca606fe82804c6bc45c357c559a4cc8f1b2"), looks := false }, kinds := [], alts := [], laidByText := true, laidKinds := [.data], laidTests := true, laidLooks := .later }
def FnExactSmoothStretchCardSaid : Prop := Claim7.holds Tryd.pinned (.plain (OpenSpec.ofChange fnExactSmoothStretchSpec)) fnExactSmoothStretchCard

/-- THE TIED CARD OF 'laws.FnExactRepairCam'. -/
def fnExactRepairCamCard : Claim7 := { stood := { row := fnExactRepairCamRow, standIns := [], harness := (true, "f1919403e6a6c8827bd5a6003e392ca606fe82804c6bc45c357c559a4cc8f1b2"), looks := false }, kinds := [], alts := [], laidByText := true, laidKinds := [.data], laidTests := true, laidLooks := .later }
def FnExactRepairCamCardSaid : Prop := Claim7.holds Tryd.pinned (.plain (OpenSpec.ofChange fnExactRepairCamSpec)) fnExactRepairCamCard

/-- THE TIED CARD OF 'laws.FnFilled'. -/
def fnFilledCard : Claim7 := { stood := { row := fnFilledRow, standIns := [], harness := (true, "f1919403e6a6c8827bd5a6003e392ca606fe82804c6bc45c357c559a4cc8f1b2"), looks := false }, kinds := [], alts := [], laidByText := true, laidKinds := [.data], laidTests := true, laidLooks := .later }
def FnFilledCardSaid : Prop := Claim7.holds Tryd.pinned (.plain (OpenSpec.ofChange fnFilledSpec)) fnFilledCard

/-- THE TIED CARD OF 'laws.FnExactCheckMachine'. -/
def fnExactCheckMachineCard : Claim7 := { stood := { row := fnExactCheckMachineRow, standIns := [], harness := (true, "f1919403e6a6c8827bd5a6003e392ca606fe82804c6bc45c357c559a4cc8f1b2"), looks := false }, kinds := [], alts := [], laidByText := true, laidKinds := [.data], laidTests := true, laidLooks := .later }
def FnExactCheckMachineCardSaid : Prop := Claim7.holds Tryd.pinned (.plain (OpenSpec.ofChange fnExactCheckMachineSpec)) fnExactCheckMachineCard

/-- THE SECOND FORM's CARD OF 'laws.FnExactLeastBound'. -/
def fnExactLeastBoundUptoCard : Claim7 := { stood := { row := fnExactLeastBoundUptoRow, standIns := [], harness := (true, "f1919403e6a6c8827bd5a6003e392ca606fe82804c6bc45c357c559a4cc8f1b2"), looks := false }, kinds := [], alts := [], laidByText := true, laidKinds := [.data], laidTests := true, laidLooks := .later }
def FnExactLeastBoundUptoCardSaid : Prop := Claim7.holds Tryd.pinned (.plain (OpenSpec.upto fnExactLeastBoundSpec)) fnExactLeastBoundUptoCard

/-- THE SECOND FORM's CARD OF 'laws.FnExactFillWithin'. -/
def fnExactFillWithinUptoCard : Claim7 := { stood := { row := fnExactFillWithinUptoRow, standIns := [], harness := (true, "f1919403e6a6c8827bd5a6003e392ca606fe82804c6bc45c357c559a4cc8f1b2"), looks := false }, kinds := [], alts := [], laidByText := true, laidKinds := [.data], laidTests := true, laidLooks := .later }
def FnExactFillWithinUptoCardSaid : Prop := Claim7.holds Tryd.pinned (.plain (OpenSpec.upto fnExactFillWithinSpec)) fnExactFillWithinUptoCard

/-- THE SECOND FORM's CARD OF 'laws.FnExactSmoothStretch'. -/
def fnExactSmoothStretchUptoCard : Claim7 := { stood := { row := fnExactSmoothStretchUptoRow, standIns := [], harness := (true, "f1919403e6a6c8827bd5a6003e392ca606fe82804c6bc45c357c559a4cc8f1b2"), looks := false }, kinds := [], alts := [], laidByText := true, laidKinds := [.data], laidTests := true, laidLooks := .later }
def FnExactSmoothStretchUptoCardSaid : Prop := Claim7.holds Tryd.pinned (.plain (OpenSpec.upto fnExactSmoothStretchSpec)) fnExactSmoothStretchUptoCard

/-- THE SECOND FORM's CARD OF 'laws.FnExactRepairCam'. -/
def fnExactRepairCamUptoCard : Claim7 := { stood := { row := fnExactRepairCamUptoRow, standIns := [], harness := (true, "f1919403e6a6c8827bd5a6003e392ca606fe82804c6bc45c357c559a4cc8f1b2"), looks := false }, kinds := [], alts := [], laidByText := true, laidKinds := [.data], laidTests := true, laidLooks := .later }
def FnExactRepairCamUptoCardSaid : Prop := Claim7.holds Tryd.pinned (.plain (OpenSpec.upto fnExactRepairCamSpec)) fnExactRepairCamUptoCard

/-- THE SECOND FORM's CARD OF 'laws.FnFilled'. -/
def fnFilledUptoCard : Claim7 := { stood := { row := fnFilledUptoRow, standIns := [], harness := (true, "f1919403e6a6c8827bd5a6003e392ca606fe82804c6bc45c357c559a4cc8f1b2"), looks := false }, kinds := [], alts := [], laidByText := true, laidKinds := [.data], laidTests := true, laidLooks := .later }
def FnFilledUptoCardSaid : Prop := Claim7.holds Tryd.pinned (.plain (OpenSpec.upto fnFilledSpec)) fnFilledUptoCard

/-- THE SECOND FORM's CARD OF 'laws.FnExactCheckMachine'. -/
def fnExactCheckMachineUptoCard : Claim7 := { stood := { row := fnExactCheckMachineUptoRow, standIns := [], harness := (true, "f1919403e6a6c8827bd5a6003e392ca606fe82804c6bc45c357c559a4cc8f1b2"), looks := false }, kinds := [], alts := [], laidByText := true, laidKinds := [.data], laidTests := true, laidLooks := .later }
def FnExactCheckMachineUptoCardSaid : Prop := Claim7.holds Tryd.pinned (.plain (OpenSpec.upto fnExactCheckMachineSpec)) fnExactCheckMachineUptoCard
end Rows
end Go.Proofs.YteeciijmkmdplaaDoor
