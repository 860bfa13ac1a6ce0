/-
  DERIVED. GIVEN WITH THE SEED: THE CARDS: each row of YtjfkgmidnjiofaaDoorRows.lean that lists a variable, with what it lists TIED to the program's text (the seventh form; the later family's looks); each row that meets fmt, with fmt's text TOLD by the authors' own Lean function (tested against real Go, not proved from fmt's source: count such statements apart). THE CARD IS WHAT COUNTS. Prove the row's statement (the work); the ties are given (YtjfkgmidnjiofaaDoorTie.lean); close each card by the builder's one call (the guide's Derived/Test/ToyasCard.lean, 'card_holds'). Laid BY PROGRAM, IN A SANDBOX (cutbox-door.mjs). By AI agents, Wed Nov 11 2026. No macro, syntax, notation, axiom, sorry.
-/
import Derived.Test.YtjfkgmidnjiofaaDoorRows
import GoSem.ClaimSeven
namespace Go.Proofs.YtjfkgmidnjiofaaDoor
namespace Rows

/-- THE TIED CARD OF 'laws.FnExactPlateText'. -/
def fnExactPlateTextCard : Claim7 := { stood := { row := fnExactPlateTextRow, standIns := [], harness := (true, "fe70349e24a546d7f9cf44ed98cc458ded4291dbade35a9e7166048335620774"), looks := false }, kinds := [], alts := [], laidByText := true, laidKinds := [.data, .data, .data], laidTests := true, laidLooks := .later }
def FnExactPlateTextCardSaid : Prop := Claim7.holds Tryd.pinned (.plain (OpenSpec.ofChange fnExactPlateTextSpec)) fnExactPlateTextCard

/-- THE TIED CARD OF 'laws.FnExactCamText'. -/
def fnExactCamTextCard : Claim7 := { stood := { row := fnExactCamTextRow, standIns := [], harness := (true, "fe70349e24a546d7f9cf44ed98cc458ded4291dbade35a9e7166048335620774"), looks := false }, kinds := [], alts := [], laidByText := true, laidKinds := [.data, .data, .data], laidTests := true, laidLooks := .later }
def FnExactCamTextCardSaid : Prop := Claim7.holds Tryd.pinned (.plain (OpenSpec.ofChange fnExactCamTextSpec)) fnExactCamTextCard

/-- THE TIED CARD OF 'laws.FnExactProgramText'. -/
def fnExactProgramTextCard : Claim7 := { stood := { row := fnExactProgramTextRow, standIns := [], harness := (true, "fe70349e24a546d7f9cf44ed98cc458ded4291dbade35a9e7166048335620774"), looks := false }, kinds := [], alts := [], laidByText := true, laidKinds := [.data, .data, .data], laidTests := true, laidLooks := .later }
def FnExactProgramTextCardSaid : Prop := Claim7.holds Tryd.pinned (.plain (OpenSpec.ofChange fnExactProgramTextSpec)) fnExactProgramTextCard

/-- THE TIED CARD OF 'laws.FnExactMachineText'. -/
def fnExactMachineTextCard : Claim7 := { stood := { row := fnExactMachineTextRow, standIns := [], harness := (true, "fe70349e24a546d7f9cf44ed98cc458ded4291dbade35a9e7166048335620774"), looks := false }, kinds := [], alts := [], laidByText := true, laidKinds := [.data, .data, .data], laidTests := true, laidLooks := .later }
def FnExactMachineTextCardSaid : Prop := Claim7.holds Tryd.pinned (.plain (OpenSpec.ofChange fnExactMachineTextSpec)) fnExactMachineTextCard

/-- THE TIED CARD OF 'laws.FnExactShaftsText'. -/
def fnExactShaftsTextCard : Claim7 := { stood := { row := fnExactShaftsTextRow, standIns := [], harness := (true, "fe70349e24a546d7f9cf44ed98cc458ded4291dbade35a9e7166048335620774"), looks := false }, kinds := [], alts := [], laidByText := true, laidKinds := [.data, .data, .data], laidTests := true, laidLooks := .later }
def FnExactShaftsTextCardSaid : Prop := Claim7.holds Tryd.pinned (.plain (OpenSpec.ofChange fnExactShaftsTextSpec)) fnExactShaftsTextCard

/-- THE SECOND FORM's CARD OF 'laws.FnExactPlateText'. -/
def fnExactPlateTextUptoCard : Claim7 := { stood := { row := fnExactPlateTextUptoRow, standIns := [], harness := (true, "fe70349e24a546d7f9cf44ed98cc458ded4291dbade35a9e7166048335620774"), looks := false }, kinds := [], alts := [], laidByText := true, laidKinds := [.data, .data, .data], laidTests := true, laidLooks := .later }
def FnExactPlateTextUptoCardSaid : Prop := Claim7.holds Tryd.pinned (.plain (OpenSpec.upto fnExactPlateTextSpec)) fnExactPlateTextUptoCard

/-- THE SECOND FORM's CARD OF 'laws.FnExactCamText'. -/
def fnExactCamTextUptoCard : Claim7 := { stood := { row := fnExactCamTextUptoRow, standIns := [], harness := (true, "fe70349e24a546d7f9cf44ed98cc458ded4291dbade35a9e7166048335620774"), looks := false }, kinds := [], alts := [], laidByText := true, laidKinds := [.data, .data, .data], laidTests := true, laidLooks := .later }
def FnExactCamTextUptoCardSaid : Prop := Claim7.holds Tryd.pinned (.plain (OpenSpec.upto fnExactCamTextSpec)) fnExactCamTextUptoCard

/-- THE SECOND FORM's CARD OF 'laws.FnExactProgramText'. -/
def fnExactProgramTextUptoCard : Claim7 := { stood := { row := fnExactProgramTextUptoRow, standIns := [], harness := (true, "fe70349e24a546d7f9cf44ed98cc458ded4291dbade35a9e7166048335620774"), looks := false }, kinds := [], alts := [], laidByText := true, laidKinds := [.data, .data, .data], laidTests := true, laidLooks := .later }
def FnExactProgramTextUptoCardSaid : Prop := Claim7.holds Tryd.pinned (.plain (OpenSpec.upto fnExactProgramTextSpec)) fnExactProgramTextUptoCard

/-- THE SECOND FORM's CARD OF 'laws.FnExactMachineText'. -/
def fnExactMachineTextUptoCard : Claim7 := { stood := { row := fnExactMachineTextUptoRow, standIns := [], harness := (true, "fe70349e24a546d7f9cf44ed98cc458ded4291dbade35a9e7166048335620774"), looks := false }, kinds := [], alts := [], laidByText := true, laidKinds := [.data, .data, .data], laidTests := true, laidLooks := .later }
def FnExactMachineTextUptoCardSaid : Prop := Claim7.holds Tryd.pinned (.plain (OpenSpec.upto fnExactMachineTextSpec)) fnExactMachineTextUptoCard

/-- THE SECOND FORM's CARD OF 'laws.FnExactShaftsText'. -/
def fnExactShaftsTextUptoCard : Claim7 := { stood := { row := fnExactShaftsTextUptoRow, standIns := [], harness := (true, "fe70349e24a546d7f9cf44ed98cc458ded4291dbade35a9e7166048335620774"), looks := false }, kinds := [], alts := [], laidByText := true, laidKinds := [.data, .data, .data], laidTests := true, laidLooks := .later }
def FnExactShaftsTextUptoCardSaid : Prop := Claim7.holds Tryd.pinned (.plain (OpenSpec.upto fnExactShaftsTextSpec)) fnExactShaftsTextUptoCard
end Rows
end Go.Proofs.YtjfkgmidnjiofaaDoor
