/-
  NARROWER THAN 'FOR EVERY INPUT', by the rows' own cells (each row's printed sentence says how): TopLogs: laid · TopSafe: laid · TopTwice: laid · TopDown: laid · TopLost: laid · TopCopies: laid · TopFlow: laid · TopPick: laid · TopQuiet: laid.
  DERIVED. THE GIVEN ROWS OF THIS SEAT. 9 by the template 'for every input the law returns true; each argument reads behind the call as it read before'; 0 by the template 'total and deterministic' (their statements: YtfmgjpcmcjjoiaaGreatDoorTotals.lean).
  GIVEN WITH THE SEED: the statements are not yours to turn. If you find one false, say at which input.
  Laid BY PROGRAM, IN A SANDBOX (cutbox-rows.mjs): the forced cells as the released guide's own fill.sh prints them over the translation 9274a6f53e352715… (all of the seat's roots in one cut). By AI agents, Wed Nov 11 2026. No macro, syntax, notation, axiom, sorry.
-/
import Derived.Test.YtfmgjpcmcjjoiaaGreatDoorChecked
import GoSem.Claim
import GoSem.ClaimJoined
import GoSem.ClaimMapViews
import Derived.JoinedTies
import Derived.KernelRfl
namespace Go.Proofs.YtfmgjpcmcjjoiaaGreatDoor
/- THE CELL 'sum', in the pinned program and in every row, IS THE sha256 OF THE DUMP (.gsa) THAT YtfmgjpcmcjjoiaaGreatDoorProg.lean LOADS. Nothing in Lean hashes anything: it is a label: what it is worth is what the hold of that sum in a sandbox is worth. -/
noncomputable def Tryz.pinned : Pinned := { name := "ytfmgjpcmcjjoiaagreatdoor", sum := "9274a6f53e352715dfe460b9243e413134c752124f4c7b60eae2c8e669272ee9", checked := Tryz.checked }
namespace Rows
def none {H : Type} : Left H := { results := [], args := [] }

/- WHAT THE LISTED PACKAGE-LEVEL VARIABLES READ AS WHEN THE CALL BEGINS. Each datum BY PROGRAM (the guide's laid-datum.mjs) off the statement by which the dump's own 'gosem.cut.vars' lays the variable. In a bare row this is a premise. The card (YtfmgjpcmcjjoiaaGreatDoorCards.lean) ties it to the program's text. -/
def laid_rostrum_client_nothing {H : Type} : DataW H := .agg [.lit (.int .i64 22), .lit (.string []), .lit (.string []), .lit (.string []), .lit (.int .i64 0)]

/-- 'rostrumtop.TopLogs': WHATEVER THE INPUT: true; the input reads as it did. -/
def topLogsSpec : ChangeSpec := { name := "topLogs", fn := fun _ => fun
  | [d] => { results := [.lit (.bool true)], args := [d] }
  | _ => none }
def topLogsRow : OpenClaim := { program := "ytfmgjpcmcjjoiaagreatdoor", sum := "9274a6f53e352715dfe460b9243e413134c752124f4c7b60eae2c8e669272ee9", func := "rostrum/rostrumtop.TopLogs", spec := "topLogs", inPlace := ["internal/bytealg.abigen_runtime_cmpstring", "slices.overlaps[rostrum/api.Pair]", "slices.overlaps[string]", "slices.overlaps[rostrum/api.Score]", "slices.overlaps[rostrum/api.Entry]"], unfollowed := true, recurses := true, named := ["rostrum/client.nothing"], apart := false, laid := [("rostrum/client.nothing", laid_rostrum_client_nothing)] }
def TopLogsSaid : Prop := topLogsRow.holds Tryz.pinned (OpenSpec.ofChange topLogsSpec)

/-- ITS FALSE NEIGHBOUR: 'it returns false'. Refute it at one input. -/
def topLogsWrong : ChangeSpec := { name := "topLogs", fn := fun _ => fun
  | [d] => { results := [.lit (.bool false)], args := [d] }
  | _ => none }
def TopLogsWrongFalsely : Prop := topLogsRow.holds Tryz.pinned (OpenSpec.ofChange topLogsWrong)

/-- 'rostrumtop.TopSafe': WHATEVER THE INPUT: true; the input reads as it did. -/
def topSafeSpec : ChangeSpec := { name := "topSafe", fn := fun _ => fun
  | [d1, d2] => { results := [.lit (.bool true)], args := [d1, d2] }
  | _ => none }
def topSafeRow : OpenClaim := { program := "ytfmgjpcmcjjoiaagreatdoor", sum := "9274a6f53e352715dfe460b9243e413134c752124f4c7b60eae2c8e669272ee9", func := "rostrum/rostrumtop.TopSafe", spec := "topSafe", inPlace := ["internal/bytealg.abigen_runtime_cmpstring", "slices.overlaps[rostrum/api.Pair]", "slices.overlaps[string]", "slices.overlaps[rostrum/api.Score]", "slices.overlaps[rostrum/api.Entry]"], unfollowed := true, recurses := true, named := ["rostrum/client.nothing"], apart := false, laid := [("rostrum/client.nothing", laid_rostrum_client_nothing)] }
def TopSafeSaid : Prop := topSafeRow.holds Tryz.pinned (OpenSpec.ofChange topSafeSpec)

/-- ITS FALSE NEIGHBOUR: 'it returns false'. Refute it at one input. -/
def topSafeWrong : ChangeSpec := { name := "topSafe", fn := fun _ => fun
  | [d1, d2] => { results := [.lit (.bool false)], args := [d1, d2] }
  | _ => none }
def TopSafeWrongFalsely : Prop := topSafeRow.holds Tryz.pinned (OpenSpec.ofChange topSafeWrong)

/-- 'rostrumtop.TopTwice': WHATEVER THE INPUT: true; the input reads as it did. -/
def topTwiceSpec : ChangeSpec := { name := "topTwice", fn := fun _ => fun
  | [d1, d2, d3, d4] => { results := [.lit (.bool true)], args := [d1, d2, d3, d4] }
  | _ => none }
def topTwiceRow : OpenClaim := { program := "ytfmgjpcmcjjoiaagreatdoor", sum := "9274a6f53e352715dfe460b9243e413134c752124f4c7b60eae2c8e669272ee9", func := "rostrum/rostrumtop.TopTwice", spec := "topTwice", inPlace := ["internal/bytealg.abigen_runtime_cmpstring", "slices.overlaps[rostrum/api.Pair]", "slices.overlaps[string]", "slices.overlaps[rostrum/api.Score]", "slices.overlaps[rostrum/api.Entry]"], unfollowed := true, recurses := true, named := ["rostrum/client.nothing"], apart := false, laid := [("rostrum/client.nothing", laid_rostrum_client_nothing)] }
def TopTwiceSaid : Prop := topTwiceRow.holds Tryz.pinned (OpenSpec.ofChange topTwiceSpec)

/-- ITS FALSE NEIGHBOUR: 'it returns false'. Refute it at one input. -/
def topTwiceWrong : ChangeSpec := { name := "topTwice", fn := fun _ => fun
  | [d1, d2, d3, d4] => { results := [.lit (.bool false)], args := [d1, d2, d3, d4] }
  | _ => none }
def TopTwiceWrongFalsely : Prop := topTwiceRow.holds Tryz.pinned (OpenSpec.ofChange topTwiceWrong)

/-- 'rostrumtop.TopDown': WHATEVER THE INPUT: true; the input reads as it did. -/
def topDownSpec : ChangeSpec := { name := "topDown", fn := fun _ => fun
  | [d1, d2, d3] => { results := [.lit (.bool true)], args := [d1, d2, d3] }
  | _ => none }
def topDownRow : OpenClaim := { program := "ytfmgjpcmcjjoiaagreatdoor", sum := "9274a6f53e352715dfe460b9243e413134c752124f4c7b60eae2c8e669272ee9", func := "rostrum/rostrumtop.TopDown", spec := "topDown", inPlace := ["internal/bytealg.abigen_runtime_cmpstring", "slices.overlaps[rostrum/api.Pair]", "slices.overlaps[string]", "slices.overlaps[rostrum/api.Score]", "slices.overlaps[rostrum/api.Entry]"], unfollowed := true, recurses := true, named := ["rostrum/client.nothing"], apart := false, laid := [("rostrum/client.nothing", laid_rostrum_client_nothing)] }
def TopDownSaid : Prop := topDownRow.holds Tryz.pinned (OpenSpec.ofChange topDownSpec)

/-- ITS FALSE NEIGHBOUR: 'it returns false'. Refute it at one input. -/
def topDownWrong : ChangeSpec := { name := "topDown", fn := fun _ => fun
  | [d1, d2, d3] => { results := [.lit (.bool false)], args := [d1, d2, d3] }
  | _ => none }
def TopDownWrongFalsely : Prop := topDownRow.holds Tryz.pinned (OpenSpec.ofChange topDownWrong)

/-- 'rostrumtop.TopLost': WHATEVER THE INPUT: true; the input reads as it did. -/
def topLostSpec : ChangeSpec := { name := "topLost", fn := fun _ => fun
  | [d1, d2] => { results := [.lit (.bool true)], args := [d1, d2] }
  | _ => none }
def topLostRow : OpenClaim := { program := "ytfmgjpcmcjjoiaagreatdoor", sum := "9274a6f53e352715dfe460b9243e413134c752124f4c7b60eae2c8e669272ee9", func := "rostrum/rostrumtop.TopLost", spec := "topLost", inPlace := ["internal/bytealg.abigen_runtime_cmpstring", "slices.overlaps[rostrum/api.Pair]", "slices.overlaps[string]", "slices.overlaps[rostrum/api.Score]", "slices.overlaps[rostrum/api.Entry]"], unfollowed := true, recurses := true, named := ["rostrum/client.nothing"], apart := false, laid := [("rostrum/client.nothing", laid_rostrum_client_nothing)] }
def TopLostSaid : Prop := topLostRow.holds Tryz.pinned (OpenSpec.ofChange topLostSpec)

/-- ITS FALSE NEIGHBOUR: 'it returns false'. Refute it at one input. -/
def topLostWrong : ChangeSpec := { name := "topLost", fn := fun _ => fun
  | [d1, d2] => { results := [.lit (.bool false)], args := [d1, d2] }
  | _ => none }
def TopLostWrongFalsely : Prop := topLostRow.holds Tryz.pinned (OpenSpec.ofChange topLostWrong)

/-- 'rostrumtop.TopCopies': WHATEVER THE INPUT: true; the input reads as it did. -/
def topCopiesSpec : ChangeSpec := { name := "topCopies", fn := fun _ => fun
  | [d1, d2] => { results := [.lit (.bool true)], args := [d1, d2] }
  | _ => none }
def topCopiesRow : OpenClaim := { program := "ytfmgjpcmcjjoiaagreatdoor", sum := "9274a6f53e352715dfe460b9243e413134c752124f4c7b60eae2c8e669272ee9", func := "rostrum/rostrumtop.TopCopies", spec := "topCopies", inPlace := ["internal/bytealg.abigen_runtime_cmpstring", "slices.overlaps[rostrum/api.Pair]", "slices.overlaps[string]", "slices.overlaps[rostrum/api.Score]", "slices.overlaps[rostrum/api.Entry]"], unfollowed := true, recurses := true, named := ["rostrum/client.nothing"], apart := false, laid := [("rostrum/client.nothing", laid_rostrum_client_nothing)] }
def TopCopiesSaid : Prop := topCopiesRow.holds Tryz.pinned (OpenSpec.ofChange topCopiesSpec)

/-- ITS FALSE NEIGHBOUR: 'it returns false'. Refute it at one input. -/
def topCopiesWrong : ChangeSpec := { name := "topCopies", fn := fun _ => fun
  | [d1, d2] => { results := [.lit (.bool false)], args := [d1, d2] }
  | _ => none }
def TopCopiesWrongFalsely : Prop := topCopiesRow.holds Tryz.pinned (OpenSpec.ofChange topCopiesWrong)

/-- 'rostrumtop.TopFlow': WHATEVER THE INPUT: true; the input reads as it did. -/
def topFlowSpec : ChangeSpec := { name := "topFlow", fn := fun _ => fun
  | [d] => { results := [.lit (.bool true)], args := [d] }
  | _ => none }
def topFlowRow : OpenClaim := { program := "ytfmgjpcmcjjoiaagreatdoor", sum := "9274a6f53e352715dfe460b9243e413134c752124f4c7b60eae2c8e669272ee9", func := "rostrum/rostrumtop.TopFlow", spec := "topFlow", inPlace := ["internal/bytealg.abigen_runtime_cmpstring", "slices.overlaps[rostrum/api.Pair]", "slices.overlaps[string]", "slices.overlaps[rostrum/api.Score]", "slices.overlaps[rostrum/api.Entry]"], unfollowed := true, recurses := true, named := ["rostrum/client.nothing"], apart := false, laid := [("rostrum/client.nothing", laid_rostrum_client_nothing)] }
def TopFlowSaid : Prop := topFlowRow.holds Tryz.pinned (OpenSpec.ofChange topFlowSpec)

/-- ITS FALSE NEIGHBOUR: 'it returns false'. Refute it at one input. -/
def topFlowWrong : ChangeSpec := { name := "topFlow", fn := fun _ => fun
  | [d] => { results := [.lit (.bool false)], args := [d] }
  | _ => none }
def TopFlowWrongFalsely : Prop := topFlowRow.holds Tryz.pinned (OpenSpec.ofChange topFlowWrong)

/-- 'rostrumtop.TopPick': WHATEVER THE INPUT: true; the input reads as it did. -/
def topPickSpec : ChangeSpec := { name := "topPick", fn := fun _ => fun
  | [d1, d2, d3] => { results := [.lit (.bool true)], args := [d1, d2, d3] }
  | _ => none }
def topPickRow : OpenClaim := { program := "ytfmgjpcmcjjoiaagreatdoor", sum := "9274a6f53e352715dfe460b9243e413134c752124f4c7b60eae2c8e669272ee9", func := "rostrum/rostrumtop.TopPick", spec := "topPick", inPlace := ["internal/bytealg.abigen_runtime_cmpstring", "slices.overlaps[rostrum/api.Pair]", "slices.overlaps[string]", "slices.overlaps[rostrum/api.Score]", "slices.overlaps[rostrum/api.Entry]"], unfollowed := true, recurses := true, named := ["rostrum/client.nothing"], apart := false, laid := [("rostrum/client.nothing", laid_rostrum_client_nothing)] }
def TopPickSaid : Prop := topPickRow.holds Tryz.pinned (OpenSpec.ofChange topPickSpec)

/-- ITS FALSE NEIGHBOUR: 'it returns false'. Refute it at one input. -/
def topPickWrong : ChangeSpec := { name := "topPick", fn := fun _ => fun
  | [d1, d2, d3] => { results := [.lit (.bool false)], args := [d1, d2, d3] }
  | _ => none }
def TopPickWrongFalsely : Prop := topPickRow.holds Tryz.pinned (OpenSpec.ofChange topPickWrong)

/-- 'rostrumtop.TopQuiet': WHATEVER THE INPUT: true; the input reads as it did. -/
def topQuietSpec : ChangeSpec := { name := "topQuiet", fn := fun _ => fun
  | [d1, d2] => { results := [.lit (.bool true)], args := [d1, d2] }
  | _ => none }
def topQuietRow : OpenClaim := { program := "ytfmgjpcmcjjoiaagreatdoor", sum := "9274a6f53e352715dfe460b9243e413134c752124f4c7b60eae2c8e669272ee9", func := "rostrum/rostrumtop.TopQuiet", spec := "topQuiet", inPlace := ["internal/bytealg.abigen_runtime_cmpstring", "slices.overlaps[rostrum/api.Pair]", "slices.overlaps[string]", "slices.overlaps[rostrum/api.Score]", "slices.overlaps[rostrum/api.Entry]"], unfollowed := true, recurses := true, named := ["rostrum/client.nothing"], apart := false, laid := [("rostrum/client.nothing", laid_rostrum_client_nothing)] }
def TopQuietSaid : Prop := topQuietRow.holds Tryz.pinned (OpenSpec.ofChange topQuietSpec)

/-- ITS FALSE NEIGHBOUR: 'it returns false'. Refute it at one input. -/
def topQuietWrong : ChangeSpec := { name := "topQuiet", fn := fun _ => fun
  | [d1, d2] => { results := [.lit (.bool false)], args := [d1, d2] }
  | _ => none }
def TopQuietWrongFalsely : Prop := topQuietRow.holds Tryz.pinned (OpenSpec.ofChange topQuietWrong)

/- THE SECOND FORM. 'bulk': how many values and letters a reading holds, each counted each time it is reached (what is shared counts as often as it is met; a slice's spare places count too). A statement '..UptoSaid' is the law's where the arguments, and the package variables that the reading takes, are together of bulk at most 1048576: NARROWER than '..Said'. Prove '..Said' where nothing that the law and all that it calls make is longer than what came in: it says more and counts as full. Else prove '..UptoSaid'. A law counts once. -/
mutual
def uptoBulk {H : Type} : DataW H → Nat
  | .lit (.string bytes) => bytes.length + 1
  | .lit _ => 1
  | .nil => 1
  | .ptr d => uptoBulk d + 1
  | .slice elems spare => uptoBulkAll elems + uptoBulkAll spare + 1
  | .agg parts => uptoBulkAll parts + 1
  | .iface _ d => uptoBulk d + 1
  | .map entries => uptoBulkEntries entries + 1
  | .held _ => 1
def uptoBulkAll {H : Type} : List (DataW H) → Nat
  | [] => 0
  | d :: r => uptoBulk d + uptoBulkAll r
def uptoBulkEntries {H : Type} : List (Lit × DataW H) → Nat
  | [] => 0
  | x :: r => uptoBulkEntry x + uptoBulkEntries r
def uptoBulkEntry {H : Type} : Lit × DataW H → Nat
  | (.string bytes, d) => bytes.length + uptoBulk d + 1
  | (_, d) => uptoBulk d + 1
 end
def uptoSmall : (H : Type) → List (DataW H) → Bool := fun _ ds => decide (uptoBulkAll ds ≤ 1048576)
def OpenSpec.upto (s : _root_.Go.ChangeSpec) : _root_.Go.OpenSpec := { _root_.Go.OpenSpec.ofChange s with cond := some uptoSmall }

/-- 'rostrumtop.TopLogs', WHERE WHAT IT READS IS OF BULK AT MOST 1048576: true; the input reads as it did. -/
def topLogsUptoRow : OpenClaim := { program := "ytfmgjpcmcjjoiaagreatdoor", sum := "9274a6f53e352715dfe460b9243e413134c752124f4c7b60eae2c8e669272ee9", func := "rostrum/rostrumtop.TopLogs", spec := "topLogs", inPlace := ["internal/bytealg.abigen_runtime_cmpstring", "slices.overlaps[rostrum/api.Pair]", "slices.overlaps[string]", "slices.overlaps[rostrum/api.Score]", "slices.overlaps[rostrum/api.Entry]"], unfollowed := true, recurses := true, named := ["rostrum/client.nothing"], apart := false, laid := [("rostrum/client.nothing", laid_rostrum_client_nothing)], narrowed := true }
def TopLogsUptoSaid : Prop := topLogsUptoRow.holds Tryz.pinned (OpenSpec.upto topLogsSpec)

/-- 'rostrumtop.TopSafe', WHERE WHAT IT READS IS OF BULK AT MOST 1048576: true; the input reads as it did. -/
def topSafeUptoRow : OpenClaim := { program := "ytfmgjpcmcjjoiaagreatdoor", sum := "9274a6f53e352715dfe460b9243e413134c752124f4c7b60eae2c8e669272ee9", func := "rostrum/rostrumtop.TopSafe", spec := "topSafe", inPlace := ["internal/bytealg.abigen_runtime_cmpstring", "slices.overlaps[rostrum/api.Pair]", "slices.overlaps[string]", "slices.overlaps[rostrum/api.Score]", "slices.overlaps[rostrum/api.Entry]"], unfollowed := true, recurses := true, named := ["rostrum/client.nothing"], apart := false, laid := [("rostrum/client.nothing", laid_rostrum_client_nothing)], narrowed := true }
def TopSafeUptoSaid : Prop := topSafeUptoRow.holds Tryz.pinned (OpenSpec.upto topSafeSpec)

/-- 'rostrumtop.TopTwice', WHERE WHAT IT READS IS OF BULK AT MOST 1048576: true; the input reads as it did. -/
def topTwiceUptoRow : OpenClaim := { program := "ytfmgjpcmcjjoiaagreatdoor", sum := "9274a6f53e352715dfe460b9243e413134c752124f4c7b60eae2c8e669272ee9", func := "rostrum/rostrumtop.TopTwice", spec := "topTwice", inPlace := ["internal/bytealg.abigen_runtime_cmpstring", "slices.overlaps[rostrum/api.Pair]", "slices.overlaps[string]", "slices.overlaps[rostrum/api.Score]", "slices.overlaps[rostrum/api.Entry]"], unfollowed := true, recurses := true, named := ["rostrum/client.nothing"], apart := false, laid := [("rostrum/client.nothing", laid_rostrum_client_nothing)], narrowed := true }
def TopTwiceUptoSaid : Prop := topTwiceUptoRow.holds Tryz.pinned (OpenSpec.upto topTwiceSpec)

/-- 'rostrumtop.TopDown', WHERE WHAT IT READS IS OF BULK AT MOST 1048576: true; the input reads as it did. -/
def topDownUptoRow : OpenClaim := { program := "ytfmgjpcmcjjoiaagreatdoor", sum := "9274a6f53e352715dfe460b9243e413134c752124f4c7b60eae2c8e669272ee9", func := "rostrum/rostrumtop.TopDown", spec := "topDown", inPlace := ["internal/bytealg.abigen_runtime_cmpstring", "slices.overlaps[rostrum/api.Pair]", "slices.overlaps[string]", "slices.overlaps[rostrum/api.Score]", "slices.overlaps[rostrum/api.Entry]"], unfollowed := true, recurses := true, named := ["rostrum/client.nothing"], apart := false, laid := [("rostrum/client.nothing", laid_rostrum_client_nothing)], narrowed := true }
def TopDownUptoSaid : Prop := topDownUptoRow.holds Tryz.pinned (OpenSpec.upto topDownSpec)

/-- 'rostrumtop.TopLost', WHERE WHAT IT READS IS OF BULK AT MOST 1048576: true; the input reads as it did. -/
def topLostUptoRow : OpenClaim := { program := "ytfmgjpcmcjjoiaagreatdoor", sum := "9274a6f53e352715dfe460b9243e413134c752124f4c7b60eae2c8e669272ee9", func := "rostrum/rostrumtop.TopLost", spec := "topLost", inPlace := ["internal/bytealg.abigen_runtime_cmpstring", "slices.overlaps[rostrum/api.Pair]", "slices.overlaps[string]", "slices.overlaps[rostrum/api.Score]", "slices.overlaps[rostrum/api.Entry]"], unfollowed := true, recurses := true, named := ["rostrum/client.nothing"], apart := false, laid := [("rostrum/client.nothing", laid_rostrum_client_nothing)], narrowed := true }
def TopLostUptoSaid : Prop := topLostUptoRow.holds Tryz.pinned (OpenSpec.upto topLostSpec)

/-- 'rostrumtop.TopCopies', WHERE WHAT IT READS IS OF BULK AT MOST 1048576: true; the input reads as it did. -/
def topCopiesUptoRow : OpenClaim := { program := "ytfmgjpcmcjjoiaagreatdoor", sum := "9274a6f53e352715dfe460b9243e413134c752124f4c7b60eae2c8e669272ee9", func := "rostrum/rostrumtop.TopCopies", spec := "topCopies", inPlace := ["internal/bytealg.abigen_runtime_cmpstring", "slices.overlaps[rostrum/api.Pair]", "slices.overlaps[string]", "slices.overlaps[rostrum/api.Score]", "slices.overlaps[rostrum/api.Entry]"], unfollowed := true, recurses := true, named := ["rostrum/client.nothing"], apart := false, laid := [("rostrum/client.nothing", laid_rostrum_client_nothing)], narrowed := true }
def TopCopiesUptoSaid : Prop := topCopiesUptoRow.holds Tryz.pinned (OpenSpec.upto topCopiesSpec)

/-- 'rostrumtop.TopFlow', WHERE WHAT IT READS IS OF BULK AT MOST 1048576: true; the input reads as it did. -/
def topFlowUptoRow : OpenClaim := { program := "ytfmgjpcmcjjoiaagreatdoor", sum := "9274a6f53e352715dfe460b9243e413134c752124f4c7b60eae2c8e669272ee9", func := "rostrum/rostrumtop.TopFlow", spec := "topFlow", inPlace := ["internal/bytealg.abigen_runtime_cmpstring", "slices.overlaps[rostrum/api.Pair]", "slices.overlaps[string]", "slices.overlaps[rostrum/api.Score]", "slices.overlaps[rostrum/api.Entry]"], unfollowed := true, recurses := true, named := ["rostrum/client.nothing"], apart := false, laid := [("rostrum/client.nothing", laid_rostrum_client_nothing)], narrowed := true }
def TopFlowUptoSaid : Prop := topFlowUptoRow.holds Tryz.pinned (OpenSpec.upto topFlowSpec)

/-- 'rostrumtop.TopPick', WHERE WHAT IT READS IS OF BULK AT MOST 1048576: true; the input reads as it did. -/
def topPickUptoRow : OpenClaim := { program := "ytfmgjpcmcjjoiaagreatdoor", sum := "9274a6f53e352715dfe460b9243e413134c752124f4c7b60eae2c8e669272ee9", func := "rostrum/rostrumtop.TopPick", spec := "topPick", inPlace := ["internal/bytealg.abigen_runtime_cmpstring", "slices.overlaps[rostrum/api.Pair]", "slices.overlaps[string]", "slices.overlaps[rostrum/api.Score]", "slices.overlaps[rostrum/api.Entry]"], unfollowed := true, recurses := true, named := ["rostrum/client.nothing"], apart := false, laid := [("rostrum/client.nothing", laid_rostrum_client_nothing)], narrowed := true }
def TopPickUptoSaid : Prop := topPickUptoRow.holds Tryz.pinned (OpenSpec.upto topPickSpec)

/-- 'rostrumtop.TopQuiet', WHERE WHAT IT READS IS OF BULK AT MOST 1048576: true; the input reads as it did. -/
def topQuietUptoRow : OpenClaim := { program := "ytfmgjpcmcjjoiaagreatdoor", sum := "9274a6f53e352715dfe460b9243e413134c752124f4c7b60eae2c8e669272ee9", func := "rostrum/rostrumtop.TopQuiet", spec := "topQuiet", inPlace := ["internal/bytealg.abigen_runtime_cmpstring", "slices.overlaps[rostrum/api.Pair]", "slices.overlaps[string]", "slices.overlaps[rostrum/api.Score]", "slices.overlaps[rostrum/api.Entry]"], unfollowed := true, recurses := true, named := ["rostrum/client.nothing"], apart := false, laid := [("rostrum/client.nothing", laid_rostrum_client_nothing)], narrowed := true }
def TopQuietUptoSaid : Prop := topQuietUptoRow.holds Tryz.pinned (OpenSpec.upto topQuietSpec)

end Rows
end Go.Proofs.YtfmgjpcmcjjoiaaGreatDoor
