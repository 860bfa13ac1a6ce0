/-
  DERIVED. GIVEN WITH THE SEED: THE CARDS: each row of YtimojogjlbajeaaDoorRows.lean that lists a variable, with what it lists TIED to the program's text (the seventh form; the later family's looks); each row that meets fmt, with fmt's text TOLD by the authors' own Lean function (tested against real Go, not proved from fmt's source: count such statements apart). THE CARD IS WHAT COUNTS. Prove the row's statement (the work); the ties are given (YtimojogjlbajeaaDoorTie.lean); close each card by the builder's one call (the guide's Derived/Test/ToyasCard.lean, 'card_holds'). Laid BY PROGRAM, IN A SANDBOX (cutbox-door.mjs). By AI agents, Wed Nov 11 2026. No macro, syntax, notation, axiom, sorry.
-/
import Derived.Test.YtimojogjlbajeaaDoorRows
import GoSem.ClaimSeven
namespace Go.Proofs.YtimojogjlbajeaaDoor
namespace Rows

/-- THE TIED CARD OF 'laws.FnExactPlateText'. -/
def fnExactPlateTextCard : Claim7 := { stood := { row := fnExactPlateTextRow, standIns := [], harness := (true, "1bd2e887172789a0dc2dbfa5dad7f649cc6fa7cbbad34d7f6b8026b038069068"), looks := false }, kinds := [], alts := [], laidByText := true, laidKinds := [.data, .data, .data], laidTests := true, laidLooks := .later }
def FnExactPlateTextCardSaid : Prop := Claim7.holds Tryd.pinned (.plain (OpenSpec.ofChange fnExactPlateTextSpec)) fnExactPlateTextCard

/-- THE TIED CARD OF 'laws.FnExactShaftsText'. -/
def fnExactShaftsTextCard : Claim7 := { stood := { row := fnExactShaftsTextRow, standIns := [], harness := (true, "1bd2e887172789a0dc2dbfa5dad7f649cc6fa7cbbad34d7f6b8026b038069068"), looks := false }, kinds := [], alts := [], laidByText := true, laidKinds := [.data, .data, .data], laidTests := true, laidLooks := .later }
def FnExactShaftsTextCardSaid : Prop := Claim7.holds Tryd.pinned (.plain (OpenSpec.ofChange fnExactShaftsTextSpec)) fnExactShaftsTextCard

/-- THE SECOND FORM's CARD OF 'laws.FnExactPlateText'. -/
def fnExactPlateTextUptoCard : Claim7 := { stood := { row := fnExactPlateTextUptoRow, standIns := [], harness := (true, "1bd2e887172789a0dc2dbfa5dad7f649cc6fa7cbbad34d7f6b8026b038069068"), looks := false }, kinds := [], alts := [], laidByText := true, laidKinds := [.data, .data, .data], laidTests := true, laidLooks := .later }
def FnExactPlateTextUptoCardSaid : Prop := Claim7.holds Tryd.pinned (.plain (OpenSpec.upto fnExactPlateTextSpec)) fnExactPlateTextUptoCard

/-- THE SECOND FORM's CARD OF 'laws.FnExactShaftsText'. -/
def fnExactShaftsTextUptoCard : Claim7 := { stood := { row := fnExactShaftsTextUptoRow, standIns := [], harness := (true, "1bd2e887172789a0dc2dbfa5dad7f649cc6fa7cbbad34d7f6b8026b038069068"), looks := false }, kinds := [], alts := [], laidByText := true, laidKinds := [.data, .data, .data], laidTests := true, laidLooks := .later }
def FnExactShaftsTextUptoCardSaid : Prop := Claim7.holds Tryd.pinned (.plain (OpenSpec.upto fnExactShaftsTextSpec)) fnExactShaftsTextUptoCard
end Rows
end Go.Proofs.YtimojogjlbajeaaDoor
