/-
  DERIVED. GIVEN WITH THE SEED: THE CARDS: each row of YtfbpilmhnpkfhaaGreatDoorRows.lean that lists a variable, with what it lists TIED to the program's text (the seventh form; the later family's looks); each row that meets fmt, with fmt's text TOLD by the authors' own Lean function (tested against real Go, not proved from fmt's source: count such statements apart). THE CARD IS WHAT COUNTS. Prove the row's statement (the work); the ties are given (YtfbpilmhnpkfhaaGreatDoorTie.lean); close each card by the builder's one call (the guide's Derived/Test/ToyasCard.lean, 'card_holds'). Laid BY PROGRAM, IN A SANDBOX (cutbox-door.mjs). By AI agents, Wed Nov 11 2026. No macro, syntax, notation, axiom, sorry.
-/
import Derived.Test.YtfbpilmhnpkfhaaGreatDoorRows
import GoSem.ClaimSeven
namespace Go.Proofs.YtfbpilmhnpkfhaaGreatDoor
namespace Rows

/-- THE TIED CARD OF 'rostrumlaw.ClientDoes'. -/
def clientDoesCard : Claim7 := { stood := { row := clientDoesRow, standIns := [], harness := (true, "def2f08d6c39185da3c8a126bbf806ae74b3c9e2c0a6601010c8409edccc1d8a"), looks := false }, kinds := [], alts := [], laidByText := true, laidKinds := [.data], laidTests := true, laidLooks := .later }
def ClientDoesCardSaid : Prop := Claim7.holds Tryz.pinned (.plain (OpenSpec.ofChange clientDoesSpec)) clientDoesCard

/-- THE SECOND FORM's CARD OF 'rostrumlaw.ClientDoes'. -/
def clientDoesUptoCard : Claim7 := { stood := { row := clientDoesUptoRow, standIns := [], harness := (true, "def2f08d6c39185da3c8a126bbf806ae74b3c9e2c0a6601010c8409edccc1d8a"), looks := false }, kinds := [], alts := [], laidByText := true, laidKinds := [.data], laidTests := true, laidLooks := .later }
def ClientDoesUptoCardSaid : Prop := Claim7.holds Tryz.pinned (.plain (OpenSpec.upto clientDoesSpec)) clientDoesUptoCard
end Rows
end Go.Proofs.YtfbpilmhnpkfhaaGreatDoor
