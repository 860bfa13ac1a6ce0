/-
  DERIVED. GIVEN WITH THE SEED: THE CARDS: each row of YtoafnbpahdnchaaGreatDoorRows.lean that lists a variable, with what it lists TIED to the program's text (the seventh form; the later family's looks); each row that meets fmt, with fmt's text TOLD by the authors' own Lean function (tested against real Go, not proved from fmt's source: count such statements apart). THE CARD IS WHAT COUNTS. Prove the row's statement (the work); the ties are given (YtoafnbpahdnchaaGreatDoorTie.lean); close each card by the builder's one call (the guide's Derived/Test/ToyasCard.lean, 'card_holds'). Laid BY PROGRAM, IN A SANDBOX (cutbox-door.mjs). By AI agents, Wed Nov 11 2026. No macro, syntax, notation, axiom, sorry.
-/
import Derived.Test.YtoafnbpahdnchaaGreatDoorRows
import GoSem.ClaimSeven
namespace Go.Proofs.YtoafnbpahdnchaaGreatDoor
namespace Rows

/-- THE TIED CARD OF 'laws.FnFollowers'. -/
def fnFollowersCard : Claim7 := { stood := { row := fnFollowersRow, standIns := [], harness := (true, "d627f714d3d01867495bb6a38fafc65738398d11aadaf4f6a7156e29be4db745"), looks := true }, kinds := [], alts := [], laidByText := true, laidKinds := [.data, .data, .data, .data, .sentinel, .sentinel, .pinned], laidTests := true, laidLooks := .later }
def FnFollowersCardSaid : Prop := Claim7.holds Tryz.pinned (.plain (OpenSpec.ofChange fnFollowersSpec)) fnFollowersCard

/-- THE SECOND FORM's CARD OF 'laws.FnFollowers'. -/
def fnFollowersUptoCard : Claim7 := { stood := { row := fnFollowersUptoRow, standIns := [], harness := (true, "d627f714d3d01867495bb6a38fafc65738398d11aadaf4f6a7156e29be4db745"), looks := true }, kinds := [], alts := [], laidByText := true, laidKinds := [.data, .data, .data, .data, .sentinel, .sentinel, .pinned], laidTests := true, laidLooks := .later }
def FnFollowersUptoCardSaid : Prop := Claim7.holds Tryz.pinned (.plain (OpenSpec.upto fnFollowersSpec)) fnFollowersUptoCard
end Rows
end Go.Proofs.YtoafnbpahdnchaaGreatDoor
