/-
  DERIVED. GIVEN WITH THE SEED: THE CARDS: each row of YtfmgjpcmcjjoiaaGreatDoorRows.lean that lists a variable, with what it lists TIED to the program's text (the seventh form; the later family's looks); each row that meets fmt, with fmt's text TOLD by the authors' own Lean function (tested against real Go, not proved from fmt's source: count such statements apart). THE CARD IS WHAT COUNTS. Prove the row's statement (the work); the ties are given (YtfmgjpcmcjjoiaaGreatDoorTie.lean); close each card by the builder's one call (the guide's Derived/Test/ToyasCard.lean, 'card_holds'). Laid BY PROGRAM, IN A SANDBOX (cutbox-door.mjs). By AI agents, Wed Nov 11 2026. No macro, syntax, notation, axiom, sorry.
-/
import Derived.Test.YtfmgjpcmcjjoiaaGreatDoorRows
import GoSem.ClaimSeven
namespace Go.Proofs.YtfmgjpcmcjjoiaaGreatDoor
namespace Rows

/-- THE TIED CARD OF 'rostrumtop.TopLogs'. -/
def topLogsCard : Claim7 := { stood := { row := topLogsRow, standIns := [], harness := (true, "4efa829baae0e99421c77d7388a497347b399168b083104aee0acc6fcbbf0b4d"), looks := false }, kinds := [], alts := [], laidByText := true, laidKinds := [.data], laidTests := true, laidLooks := .later }
def TopLogsCardSaid : Prop := Claim7.holds Tryz.pinned (.plain (OpenSpec.ofChange topLogsSpec)) topLogsCard

/-- THE TIED CARD OF 'rostrumtop.TopSafe'. -/
def topSafeCard : Claim7 := { stood := { row := topSafeRow, standIns := [], harness := (true, "4efa829baae0e99421c77d7388a497347b399168b083104aee0acc6fcbbf0b4d"), looks := false }, kinds := [], alts := [], laidByText := true, laidKinds := [.data], laidTests := true, laidLooks := .later }
def TopSafeCardSaid : Prop := Claim7.holds Tryz.pinned (.plain (OpenSpec.ofChange topSafeSpec)) topSafeCard

/-- THE TIED CARD OF 'rostrumtop.TopTwice'. -/
def topTwiceCard : Claim7 := { stood := { row := topTwiceRow, standIns := [], harness := (true, "4efa829baae0e99421c77d7388a497347b399168b083104aee0acc6fcbbf0b4d"), looks := false }, kinds := [], alts := [], laidByText := true, laidKinds := [.data], laidTests := true, laidLooks := .later }
def TopTwiceCardSaid : Prop := Claim7.holds Tryz.pinned (.plain (OpenSpec.ofChange topTwiceSpec)) topTwiceCard

/-- THE TIED CARD OF 'rostrumtop.TopDown'. -/
def topDownCard : Claim7 := { stood := { row := topDownRow, standIns := [], harness := (true, "4efa829baae0e99421c77d7388a497347b399168b083104aee0acc6fcbbf0b4d"), looks := false }, kinds := [], alts := [], laidByText := true, laidKinds := [.data], laidTests := true, laidLooks := .later }
def TopDownCardSaid : Prop := Claim7.holds Tryz.pinned (.plain (OpenSpec.ofChange topDownSpec)) topDownCard

/-- THE TIED CARD OF 'rostrumtop.TopLost'. -/
def topLostCard : Claim7 := { stood := { row := topLostRow, standIns := [], harness := (true, "4efa829baae0e99421c77d7388a497347b399168b083104aee0acc6fcbbf0b4d"), looks := false }, kinds := [], alts := [], laidByText := true, laidKinds := [.data], laidTests := true, laidLooks := .later }
def TopLostCardSaid : Prop := Claim7.holds Tryz.pinned (.plain (OpenSpec.ofChange topLostSpec)) topLostCard

/-- THE TIED CARD OF 'rostrumtop.TopCopies'. -/
def topCopiesCard : Claim7 := { stood := { row := topCopiesRow, standIns := [], harness := (true, "4efa829baae0e99421c77d7388a497347b399168b083104aee0acc6fcbbf0b4d"), looks := false }, kinds := [], alts := [], laidByText := true, laidKinds := [.data], laidTests := true, laidLooks := .later }
def TopCopiesCardSaid : Prop := Claim7.holds Tryz.pinned (.plain (OpenSpec.ofChange topCopiesSpec)) topCopiesCard

/-- THE TIED CARD OF 'rostrumtop.TopFlow'. -/
def topFlowCard : Claim7 := { stood := { row := topFlowRow, standIns := [], harness := (true, "4efa829baae0e99421c77d7388a497347b399168b083104aee0acc6fcbbf0b4d"), looks := false }, kinds := [], alts := [], laidByText := true, laidKinds := [.data], laidTests := true, laidLooks := .later }
def TopFlowCardSaid : Prop := Claim7.holds Tryz.pinned (.plain (OpenSpec.ofChange topFlowSpec)) topFlowCard

/-- THE TIED CARD OF 'rostrumtop.TopPick'. -/
def topPickCard : Claim7 := { stood := { row := topPickRow, standIns := [], harness := (true, "4efa829baae0e99421c77d7388a497347b399168b083104aee0acc6fcbbf0b4d"), looks := false }, kinds := [], alts := [], laidByText := true, laidKinds := [.data], laidTests := true, laidLooks := .later }
def TopPickCardSaid : Prop := Claim7.holds Tryz.pinned (.plain (OpenSpec.ofChange topPickSpec)) topPickCard

/-- THE TIED CARD OF 'rostrumtop.TopQuiet'. -/
def topQuietCard : Claim7 := { stood := { row := topQuietRow, standIns := [], harness := (true, "4efa829baae0e99421c77d7388a497347b399168b083104aee0acc6fcbbf0b4d"), looks := false }, kinds := [], alts := [], laidByText := true, laidKinds := [.data], laidTests := true, laidLooks := .later }
def TopQuietCardSaid : Prop := Claim7.holds Tryz.pinned (.plain (OpenSpec.ofChange topQuietSpec)) topQuietCard

/-- THE SECOND FORM's CARD OF 'rostrumtop.TopLogs'. -/
def topLogsUptoCard : Claim7 := { stood := { row := topLogsUptoRow, standIns := [], harness := (true, "4efa829baae0e99421c77d7388a497347b399168b083104aee0acc6fcbbf0b4d"), looks := false }, kinds := [], alts := [], laidByText := true, laidKinds := [.data], laidTests := true, laidLooks := .later }
def TopLogsUptoCardSaid : Prop := Claim7.holds Tryz.pinned (.plain (OpenSpec.upto topLogsSpec)) topLogsUptoCard

/-- THE SECOND FORM's CARD OF 'rostrumtop.TopSafe'. -/
def topSafeUptoCard : Claim7 := { stood := { row := topSafeUptoRow, standIns := [], harness := (true, "4efa829baae0e99421c77d7388a497347b399168b083104aee0acc6fcbbf0b4d"), looks := false }, kinds := [], alts := [], laidByText := true, laidKinds := [.data], laidTests := true, laidLooks := .later }
def TopSafeUptoCardSaid : Prop := Claim7.holds Tryz.pinned (.plain (OpenSpec.upto topSafeSpec)) topSafeUptoCard

/-- THE SECOND FORM's CARD OF 'rostrumtop.TopTwice'. -/
def topTwiceUptoCard : Claim7 := { stood := { row := topTwiceUptoRow, standIns := [], harness := (true, "4efa829baae0e99421c77d7388a497347b399168b083104aee0acc6fcbbf0b4d"), looks := false }, kinds := [], alts := [], laidByText := true, laidKinds := [.data], laidTests := true, laidLooks := .later }
def TopTwiceUptoCardSaid : Prop := Claim7.holds Tryz.pinned (.plain (OpenSpec.upto topTwiceSpec)) topTwiceUptoCard

/-- THE SECOND FORM's CARD OF 'rostrumtop.TopDown'. -/
def topDownUptoCard : Claim7 := { stood := { row := topDownUptoRow, standIns := [], harness := (true, "4efa829baae0e99421c77d7388a497347b399168b083104aee0acc6fcbbf0b4d"), looks := false }, kinds := [], alts := [], laidByText := true, laidKinds := [.data], laidTests := true, laidLooks := .later }
def TopDownUptoCardSaid : Prop := Claim7.holds Tryz.pinned (.plain (OpenSpec.upto topDownSpec)) topDownUptoCard

/-- THE SECOND FORM's CARD OF 'rostrumtop.TopLost'. -/
def topLostUptoCard : Claim7 := { stood := { row := topLostUptoRow, standIns := [], harness := (true, "4efa829baae0e99421c77d7388a497347b399168b083104aee0acc6fcbbf0b4d"), looks := false }, kinds := [], alts := [], laidByText := true, laidKinds := [.data], laidTests := true, laidLooks := .later }
def TopLostUptoCardSaid : Prop := Claim7.holds Tryz.pinned (.plain (OpenSpec.upto topLostSpec)) topLostUptoCard

/-- THE SECOND FORM's CARD OF 'rostrumtop.TopCopies'. -/
def topCopiesUptoCard : Claim7 := { stood := { row := topCopiesUptoRow, standIns := [], harness := (true, "4efa829baae0e99421c77d7388a497347b399168b083104aee0acc6fcbbf0b4d"), looks := false }, kinds := [], alts := [], laidByText := true, laidKinds := [.data], laidTests := true, laidLooks := .later }
def TopCopiesUptoCardSaid : Prop := Claim7.holds Tryz.pinned (.plain (OpenSpec.upto topCopiesSpec)) topCopiesUptoCard

/-- THE SECOND FORM's CARD OF 'rostrumtop.TopFlow'. -/
def topFlowUptoCard : Claim7 := { stood := { row := topFlowUptoRow, standIns := [], harness := (true, "4efa829baae0e99421c77d7388a497347b399168b083104aee0acc6fcbbf0b4d"), looks := false }, kinds := [], alts := [], laidByText := true, laidKinds := [.data], laidTests := true, laidLooks := .later }
def TopFlowUptoCardSaid : Prop := Claim7.holds Tryz.pinned (.plain (OpenSpec.upto topFlowSpec)) topFlowUptoCard

/-- THE SECOND FORM's CARD OF 'rostrumtop.TopPick'. -/
def topPickUptoCard : Claim7 := { stood := { row := topPickUptoRow, standIns := [], harness := (true, "4efa829baae0e99421c77d7388a497347b399168b083104aee0acc6fcbbf0b4d"), looks := false }, kinds := [], alts := [], laidByText := true, laidKinds := [.data], laidTests := true, laidLooks := .later }
def TopPickUptoCardSaid : Prop := Claim7.holds Tryz.pinned (.plain (OpenSpec.upto topPickSpec)) topPickUptoCard

/-- THE SECOND FORM's CARD OF 'rostrumtop.TopQuiet'. -/
def topQuietUptoCard : Claim7 := { stood := { row := topQuietUptoRow, standIns := [], harness := (true, "4efa829baae0e99421c77d7388a497347b399168b083104aee0acc6fcbbf0b4d"), looks := false }, kinds := [], alts := [], laidByText := true, laidKinds := [.data], laidTests := true, laidLooks := .later }
def TopQuietUptoCardSaid : Prop := Claim7.holds Tryz.pinned (.plain (OpenSpec.upto topQuietSpec)) topQuietUptoCard
end Rows
end Go.Proofs.YtfmgjpcmcjjoiaaGreatDoor
