/-
  DERIVED. GIVEN WITH THE SEED: THE CARDS: each row of YtcpfnfkibnjcfaaGreatDoorRows.lean that lists a variable, with what it lists TIED to the program's text (the seventh form; the later family's looks); each row that meets fmt, with fmt's text TOLD by the authors' own Lean function (tested against real Go, not proved from fmt's source: count such statements apart). THE CARD IS WHAT COUNTS. Prove the row's statement (the work); the ties are given (YtcpfnfkibnjcfaaGreatDoorTie.lean); close each card by the builder's one call (the guide's Derived/Test/ToyasCard.lean, 'card_holds'). Laid BY PROGRAM, IN A SANDBOX (cutbox-door.mjs). By AI agents, Wed Nov 11 2026. No macro, syntax, notation, axiom, sorry.
-/
import Derived.Test.YtcpfnfkibnjcfaaGreatDoorRows
import GoSem.ClaimSeven
namespace Go.Proofs.YtcpfnfkibnjcfaaGreatDoor
namespace Rows

/-- THE TIED CARD OF 'rostrumtop.TopLeaders'. -/
def topLeadersCard : Claim7 := { stood := { row := topLeadersRow, standIns := [], harness := (true, "3f25f90f1857a8449cf2937fc9e1efdecbdba198684b6ce1ca27396e6c385b47"), looks := false }, kinds := [], alts := [], laidByText := true, laidKinds := [.data], laidTests := true, laidLooks := .later }
def TopLeadersCardSaid : Prop := Claim7.holds Tryz.pinned (.plain (OpenSpec.ofChange topLeadersSpec)) topLeadersCard

/-- THE TIED CARD OF 'rostrumtop.TopLogs'. -/
def topLogsCard : Claim7 := { stood := { row := topLogsRow, standIns := [], harness := (true, "3f25f90f1857a8449cf2937fc9e1efdecbdba198684b6ce1ca27396e6c385b47"), looks := false }, kinds := [], alts := [], laidByText := true, laidKinds := [.data], laidTests := true, laidLooks := .later }
def TopLogsCardSaid : Prop := Claim7.holds Tryz.pinned (.plain (OpenSpec.ofChange topLogsSpec)) topLogsCard

/-- THE SECOND FORM's CARD OF 'rostrumtop.TopLeaders'. -/
def topLeadersUptoCard : Claim7 := { stood := { row := topLeadersUptoRow, standIns := [], harness := (true, "3f25f90f1857a8449cf2937fc9e1efdecbdba198684b6ce1ca27396e6c385b47"), looks := false }, kinds := [], alts := [], laidByText := true, laidKinds := [.data], laidTests := true, laidLooks := .later }
def TopLeadersUptoCardSaid : Prop := Claim7.holds Tryz.pinned (.plain (OpenSpec.upto topLeadersSpec)) topLeadersUptoCard

/-- THE SECOND FORM's CARD OF 'rostrumtop.TopLogs'. -/
def topLogsUptoCard : Claim7 := { stood := { row := topLogsUptoRow, standIns := [], harness := (true, "3f25f90f1857a8449cf2937fc9e1efdecbdba198684b6ce1ca27396e6c385b47"), looks := false }, kinds := [], alts := [], laidByText := true, laidKinds := [.data], laidTests := true, laidLooks := .later }
def TopLogsUptoCardSaid : Prop := Claim7.holds Tryz.pinned (.plain (OpenSpec.upto topLogsSpec)) topLogsUptoCard
end Rows
end Go.Proofs.YtcpfnfkibnjcfaaGreatDoor
