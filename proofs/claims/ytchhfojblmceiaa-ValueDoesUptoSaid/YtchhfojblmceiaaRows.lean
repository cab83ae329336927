/-
  No cell of these rows narrows 'for every input' (looked for: loops, veiled, ifaces, maps, wideKeys, modest, calm, conditions, laid).
  DERIVED. THE GIVEN ROWS OF THIS SEAT. 29 by the template 'for every input the law returns true; each argument reads behind the call as it read before'; 0 by the template 'total and deterministic' (their statements: YtchhfojblmceiaaTotals.lean).
  GIVEN WITH THE SEED: the statements are not yours to turn. If you find one false, say at which input.
  Laid BY PROGRAM, IN A SANDBOX (cutbox-rows.mjs): the forced cells as the released guide's own fill.sh prints them over the translation 05c1041df6a48e43… (all of the seat's roots in one cut). By AI agents, Wed Nov 11 2026. No macro, syntax, notation, axiom, sorry.
-/
import Derived.Test.YtchhfojblmceiaaChecked
import GoSem.Claim
import GoSem.ClaimJoined
import GoSem.ClaimMapViews
import Derived.JoinedTies
import Derived.KernelRfl
namespace Go.Proofs.Ytchhfojblmceiaa
/- THE CELL 'sum', in the pinned program and in every row, IS THE sha256 OF THE DUMP (.gsa) THAT YtchhfojblmceiaaProg.lean LOADS. Nothing in Lean hashes anything: it is a label: what it is worth is what the hold of that sum in a sandbox is worth. -/
noncomputable def Try.pinned : Pinned := { name := "ytchhfojblmceiaa", sum := "05c1041df6a48e4303d3923b521c1c41361f370d436b1424f11a827490fce16d", checked := Try.checked }
namespace Rows
def none {H : Type} : Left H := { results := [], args := [] }

/-- 'rostrumlaw.Names': WHATEVER THE INPUT: true; the input reads as it did. -/
def namesSpec : ChangeSpec := { name := "names", fn := fun _ => fun
  | [] => { results := [.lit (.bool true)], args := [] }
  | _ => none }
def namesRow : OpenClaim := { program := "ytchhfojblmceiaa", sum := "05c1041df6a48e4303d3923b521c1c41361f370d436b1424f11a827490fce16d", func := "rostrum/rostrumlaw.Names", spec := "names", apart := false }
def NamesSaid : Prop := namesRow.holds Try.pinned (OpenSpec.ofChange namesSpec)

/-- ITS FALSE NEIGHBOUR: 'it returns false'. Refute it at one input. -/
def namesWrong : ChangeSpec := { name := "names", fn := fun _ => fun
  | [] => { results := [.lit (.bool false)], args := [] }
  | _ => none }
def NamesWrongFalsely : Prop := namesRow.holds Try.pinned (OpenSpec.ofChange namesWrong)

/-- 'rostrumlaw.ClientNews': WHATEVER THE INPUT: true; the input reads as it did. -/
def clientNewsSpec : ChangeSpec := { name := "clientNews", fn := fun _ => fun
  | [] => { results := [.lit (.bool true)], args := [] }
  | _ => none }
def clientNewsRow : OpenClaim := { program := "ytchhfojblmceiaa", sum := "05c1041df6a48e4303d3923b521c1c41361f370d436b1424f11a827490fce16d", func := "rostrum/rostrumlaw.ClientNews", spec := "clientNews", apart := false }
def ClientNewsSaid : Prop := clientNewsRow.holds Try.pinned (OpenSpec.ofChange clientNewsSpec)

/-- ITS FALSE NEIGHBOUR: 'it returns false'. Refute it at one input. -/
def clientNewsWrong : ChangeSpec := { name := "clientNews", fn := fun _ => fun
  | [] => { results := [.lit (.bool false)], args := [] }
  | _ => none }
def ClientNewsWrongFalsely : Prop := clientNewsRow.holds Try.pinned (OpenSpec.ofChange clientNewsWrong)

/-- 'rostrumlaw.TapeNews': WHATEVER THE INPUT: true; the input reads as it did. -/
def tapeNewsSpec : ChangeSpec := { name := "tapeNews", fn := fun _ => fun
  | [] => { results := [.lit (.bool true)], args := [] }
  | _ => none }
def tapeNewsRow : OpenClaim := { program := "ytchhfojblmceiaa", sum := "05c1041df6a48e4303d3923b521c1c41361f370d436b1424f11a827490fce16d", func := "rostrum/rostrumlaw.TapeNews", spec := "tapeNews", apart := false }
def TapeNewsSaid : Prop := tapeNewsRow.holds Try.pinned (OpenSpec.ofChange tapeNewsSpec)

/-- ITS FALSE NEIGHBOUR: 'it returns false'. Refute it at one input. -/
def tapeNewsWrong : ChangeSpec := { name := "tapeNews", fn := fun _ => fun
  | [] => { results := [.lit (.bool false)], args := [] }
  | _ => none }
def TapeNewsWrongFalsely : Prop := tapeNewsRow.holds Try.pinned (OpenSpec.ofChange tapeNewsWrong)

/-- 'rostrumlaw.TapeSyncs': WHATEVER THE INPUT: true; the input reads as it did. -/
def tapeSyncsSpec : ChangeSpec := { name := "tapeSyncs", fn := fun _ => fun
  | [d] => { results := [.lit (.bool true)], args := [d] }
  | _ => none }
def tapeSyncsRow : OpenClaim := { program := "ytchhfojblmceiaa", sum := "05c1041df6a48e4303d3923b521c1c41361f370d436b1424f11a827490fce16d", func := "rostrum/rostrumlaw.TapeSyncs", spec := "tapeSyncs", apart := false }
def TapeSyncsSaid : Prop := tapeSyncsRow.holds Try.pinned (OpenSpec.ofChange tapeSyncsSpec)

/-- ITS FALSE NEIGHBOUR: 'it returns false'. Refute it at one input. -/
def tapeSyncsWrong : ChangeSpec := { name := "tapeSyncs", fn := fun _ => fun
  | [d] => { results := [.lit (.bool false)], args := [d] }
  | _ => none }
def TapeSyncsWrongFalsely : Prop := tapeSyncsRow.holds Try.pinned (OpenSpec.ofChange tapeSyncsWrong)

/-- 'rostrumlaw.ClientReplies': WHATEVER THE INPUT: true; the input reads as it did. -/
def clientRepliesSpec : ChangeSpec := { name := "clientReplies", fn := fun _ => fun
  | [d] => { results := [.lit (.bool true)], args := [d] }
  | _ => none }
def clientRepliesRow : OpenClaim := { program := "ytchhfojblmceiaa", sum := "05c1041df6a48e4303d3923b521c1c41361f370d436b1424f11a827490fce16d", func := "rostrum/rostrumlaw.ClientReplies", spec := "clientReplies", unfollowed := true, recurses := true, apart := false }
def ClientRepliesSaid : Prop := clientRepliesRow.holds Try.pinned (OpenSpec.ofChange clientRepliesSpec)

/-- ITS FALSE NEIGHBOUR: 'it returns false'. Refute it at one input. -/
def clientRepliesWrong : ChangeSpec := { name := "clientReplies", fn := fun _ => fun
  | [d] => { results := [.lit (.bool false)], args := [d] }
  | _ => none }
def ClientRepliesWrongFalsely : Prop := clientRepliesRow.holds Try.pinned (OpenSpec.ofChange clientRepliesWrong)

/-- 'rostrumlaw.TapeCrashes': WHATEVER THE INPUT: true; the input reads as it did. -/
def tapeCrashesSpec : ChangeSpec := { name := "tapeCrashes", fn := fun _ => fun
  | [d1, d2] => { results := [.lit (.bool true)], args := [d1, d2] }
  | _ => none }
def tapeCrashesRow : OpenClaim := { program := "ytchhfojblmceiaa", sum := "05c1041df6a48e4303d3923b521c1c41361f370d436b1424f11a827490fce16d", func := "rostrum/rostrumlaw.TapeCrashes", spec := "tapeCrashes", apart := false }
def TapeCrashesSaid : Prop := tapeCrashesRow.holds Try.pinned (OpenSpec.ofChange tapeCrashesSpec)

/-- ITS FALSE NEIGHBOUR: 'it returns false'. Refute it at one input. -/
def tapeCrashesWrong : ChangeSpec := { name := "tapeCrashes", fn := fun _ => fun
  | [d1, d2] => { results := [.lit (.bool false)], args := [d1, d2] }
  | _ => none }
def TapeCrashesWrongFalsely : Prop := tapeCrashesRow.holds Try.pinned (OpenSpec.ofChange tapeCrashesWrong)

/-- 'rostrumlaw.ValueCommands': WHATEVER THE INPUT: true; the input reads as it did. -/
def valueCommandsSpec : ChangeSpec := { name := "valueCommands", fn := fun _ => fun
  | [d] => { results := [.lit (.bool true)], args := [d] }
  | _ => none }
def valueCommandsRow : OpenClaim := { program := "ytchhfojblmceiaa", sum := "05c1041df6a48e4303d3923b521c1c41361f370d436b1424f11a827490fce16d", func := "rostrum/rostrumlaw.ValueCommands", spec := "valueCommands", apart := false }
def ValueCommandsSaid : Prop := valueCommandsRow.holds Try.pinned (OpenSpec.ofChange valueCommandsSpec)

/-- ITS FALSE NEIGHBOUR: 'it returns false'. Refute it at one input. -/
def valueCommandsWrong : ChangeSpec := { name := "valueCommands", fn := fun _ => fun
  | [d] => { results := [.lit (.bool false)], args := [d] }
  | _ => none }
def ValueCommandsWrongFalsely : Prop := valueCommandsRow.holds Try.pinned (OpenSpec.ofChange valueCommandsWrong)

/-- 'rostrumlaw.ClientCalls': WHATEVER THE INPUT: true; the input reads as it did. -/
def clientCallsSpec : ChangeSpec := { name := "clientCalls", fn := fun _ => fun
  | [d] => { results := [.lit (.bool true)], args := [d] }
  | _ => none }
def clientCallsRow : OpenClaim := { program := "ytchhfojblmceiaa", sum := "05c1041df6a48e4303d3923b521c1c41361f370d436b1424f11a827490fce16d", func := "rostrum/rostrumlaw.ClientCalls", spec := "clientCalls", apart := false }
def ClientCallsSaid : Prop := clientCallsRow.holds Try.pinned (OpenSpec.ofChange clientCallsSpec)

/-- ITS FALSE NEIGHBOUR: 'it returns false'. Refute it at one input. -/
def clientCallsWrong : ChangeSpec := { name := "clientCalls", fn := fun _ => fun
  | [d] => { results := [.lit (.bool false)], args := [d] }
  | _ => none }
def ClientCallsWrongFalsely : Prop := clientCallsRow.holds Try.pinned (OpenSpec.ofChange clientCallsWrong)

/-- 'rostrumlaw.WireItems': WHATEVER THE INPUT: true; the input reads as it did. -/
def wireItemsSpec : ChangeSpec := { name := "wireItems", fn := fun _ => fun
  | [d] => { results := [.lit (.bool true)], args := [d] }
  | _ => none }
def wireItemsRow : OpenClaim := { program := "ytchhfojblmceiaa", sum := "05c1041df6a48e4303d3923b521c1c41361f370d436b1424f11a827490fce16d", func := "rostrum/rostrumlaw.WireItems", spec := "wireItems", apart := false }
def WireItemsSaid : Prop := wireItemsRow.holds Try.pinned (OpenSpec.ofChange wireItemsSpec)

/-- ITS FALSE NEIGHBOUR: 'it returns false'. Refute it at one input. -/
def wireItemsWrong : ChangeSpec := { name := "wireItems", fn := fun _ => fun
  | [d] => { results := [.lit (.bool false)], args := [d] }
  | _ => none }
def WireItemsWrongFalsely : Prop := wireItemsRow.holds Try.pinned (OpenSpec.ofChange wireItemsWrong)

/-- 'rostrumlaw.LedgerChecks': WHATEVER THE INPUT: true; the input reads as it did. -/
def ledgerChecksSpec : ChangeSpec := { name := "ledgerChecks", fn := fun _ => fun
  | [d] => { results := [.lit (.bool true)], args := [d] }
  | _ => none }
def ledgerChecksRow : OpenClaim := { program := "ytchhfojblmceiaa", sum := "05c1041df6a48e4303d3923b521c1c41361f370d436b1424f11a827490fce16d", func := "rostrum/rostrumlaw.LedgerChecks", spec := "ledgerChecks", apart := false }
def LedgerChecksSaid : Prop := ledgerChecksRow.holds Try.pinned (OpenSpec.ofChange ledgerChecksSpec)

/-- ITS FALSE NEIGHBOUR: 'it returns false'. Refute it at one input. -/
def ledgerChecksWrong : ChangeSpec := { name := "ledgerChecks", fn := fun _ => fun
  | [d] => { results := [.lit (.bool false)], args := [d] }
  | _ => none }
def LedgerChecksWrongFalsely : Prop := ledgerChecksRow.holds Try.pinned (OpenSpec.ofChange ledgerChecksWrong)

/-- 'rostrumlaw.LinesChecks': WHATEVER THE INPUT: true; the input reads as it did. -/
def linesChecksSpec : ChangeSpec := { name := "linesChecks", fn := fun _ => fun
  | [d] => { results := [.lit (.bool true)], args := [d] }
  | _ => none }
def linesChecksRow : OpenClaim := { program := "ytchhfojblmceiaa", sum := "05c1041df6a48e4303d3923b521c1c41361f370d436b1424f11a827490fce16d", func := "rostrum/rostrumlaw.LinesChecks", spec := "linesChecks", apart := false }
def LinesChecksSaid : Prop := linesChecksRow.holds Try.pinned (OpenSpec.ofChange linesChecksSpec)

/-- ITS FALSE NEIGHBOUR: 'it returns false'. Refute it at one input. -/
def linesChecksWrong : ChangeSpec := { name := "linesChecks", fn := fun _ => fun
  | [d] => { results := [.lit (.bool false)], args := [d] }
  | _ => none }
def LinesChecksWrongFalsely : Prop := linesChecksRow.holds Try.pinned (OpenSpec.ofChange linesChecksWrong)

/-- 'rostrumlaw.LedgerLasts': WHATEVER THE INPUT: true; the input reads as it did. -/
def ledgerLastsSpec : ChangeSpec := { name := "ledgerLasts", fn := fun _ => fun
  | [d] => { results := [.lit (.bool true)], args := [d] }
  | _ => none }
def ledgerLastsRow : OpenClaim := { program := "ytchhfojblmceiaa", sum := "05c1041df6a48e4303d3923b521c1c41361f370d436b1424f11a827490fce16d", func := "rostrum/rostrumlaw.LedgerLasts", spec := "ledgerLasts", apart := false }
def LedgerLastsSaid : Prop := ledgerLastsRow.holds Try.pinned (OpenSpec.ofChange ledgerLastsSpec)

/-- ITS FALSE NEIGHBOUR: 'it returns false'. Refute it at one input. -/
def ledgerLastsWrong : ChangeSpec := { name := "ledgerLasts", fn := fun _ => fun
  | [d] => { results := [.lit (.bool false)], args := [d] }
  | _ => none }
def LedgerLastsWrongFalsely : Prop := ledgerLastsRow.holds Try.pinned (OpenSpec.ofChange ledgerLastsWrong)

/-- 'rostrumlaw.LedgerNewer': WHATEVER THE INPUT: true; the input reads as it did. -/
def ledgerNewerSpec : ChangeSpec := { name := "ledgerNewer", fn := fun _ => fun
  | [d1, d2, d3] => { results := [.lit (.bool true)], args := [d1, d2, d3] }
  | _ => none }
def ledgerNewerRow : OpenClaim := { program := "ytchhfojblmceiaa", sum := "05c1041df6a48e4303d3923b521c1c41361f370d436b1424f11a827490fce16d", func := "rostrum/rostrumlaw.LedgerNewer", spec := "ledgerNewer", apart := false }
def LedgerNewerSaid : Prop := ledgerNewerRow.holds Try.pinned (OpenSpec.ofChange ledgerNewerSpec)

/-- ITS FALSE NEIGHBOUR: 'it returns false'. Refute it at one input. -/
def ledgerNewerWrong : ChangeSpec := { name := "ledgerNewer", fn := fun _ => fun
  | [d1, d2, d3] => { results := [.lit (.bool false)], args := [d1, d2, d3] }
  | _ => none }
def LedgerNewerWrongFalsely : Prop := ledgerNewerRow.holds Try.pinned (OpenSpec.ofChange ledgerNewerWrong)

/-- 'rostrumlaw.LedgerTerms': WHATEVER THE INPUT: true; the input reads as it did. -/
def ledgerTermsSpec : ChangeSpec := { name := "ledgerTerms", fn := fun _ => fun
  | [d1, d2] => { results := [.lit (.bool true)], args := [d1, d2] }
  | _ => none }
def ledgerTermsRow : OpenClaim := { program := "ytchhfojblmceiaa", sum := "05c1041df6a48e4303d3923b521c1c41361f370d436b1424f11a827490fce16d", func := "rostrum/rostrumlaw.LedgerTerms", spec := "ledgerTerms", apart := false }
def LedgerTermsSaid : Prop := ledgerTermsRow.holds Try.pinned (OpenSpec.ofChange ledgerTermsSpec)

/-- ITS FALSE NEIGHBOUR: 'it returns false'. Refute it at one input. -/
def ledgerTermsWrong : ChangeSpec := { name := "ledgerTerms", fn := fun _ => fun
  | [d1, d2] => { results := [.lit (.bool false)], args := [d1, d2] }
  | _ => none }
def LedgerTermsWrongFalsely : Prop := ledgerTermsRow.holds Try.pinned (OpenSpec.ofChange ledgerTermsWrong)

/-- 'rostrumlaw.WireItemBytes': WHATEVER THE INPUT: true; the input reads as it did. -/
def wireItemBytesSpec : ChangeSpec := { name := "wireItemBytes", fn := fun _ => fun
  | [d] => { results := [.lit (.bool true)], args := [d] }
  | _ => none }
def wireItemBytesRow : OpenClaim := { program := "ytchhfojblmceiaa", sum := "05c1041df6a48e4303d3923b521c1c41361f370d436b1424f11a827490fce16d", func := "rostrum/rostrumlaw.WireItemBytes", spec := "wireItemBytes", apart := false }
def WireItemBytesSaid : Prop := wireItemBytesRow.holds Try.pinned (OpenSpec.ofChange wireItemBytesSpec)

/-- ITS FALSE NEIGHBOUR: 'it returns false'. Refute it at one input. -/
def wireItemBytesWrong : ChangeSpec := { name := "wireItemBytes", fn := fun _ => fun
  | [d] => { results := [.lit (.bool false)], args := [d] }
  | _ => none }
def WireItemBytesWrongFalsely : Prop := wireItemBytesRow.holds Try.pinned (OpenSpec.ofChange wireItemBytesWrong)

/-- 'rostrumlaw.LedgerTrims': WHATEVER THE INPUT: true; the input reads as it did. -/
def ledgerTrimsSpec : ChangeSpec := { name := "ledgerTrims", fn := fun _ => fun
  | [d1, d2] => { results := [.lit (.bool true)], args := [d1, d2] }
  | _ => none }
def ledgerTrimsRow : OpenClaim := { program := "ytchhfojblmceiaa", sum := "05c1041df6a48e4303d3923b521c1c41361f370d436b1424f11a827490fce16d", func := "rostrum/rostrumlaw.LedgerTrims", spec := "ledgerTrims", apart := false }
def LedgerTrimsSaid : Prop := ledgerTrimsRow.holds Try.pinned (OpenSpec.ofChange ledgerTrimsSpec)

/-- ITS FALSE NEIGHBOUR: 'it returns false'. Refute it at one input. -/
def ledgerTrimsWrong : ChangeSpec := { name := "ledgerTrims", fn := fun _ => fun
  | [d1, d2] => { results := [.lit (.bool false)], args := [d1, d2] }
  | _ => none }
def LedgerTrimsWrongFalsely : Prop := ledgerTrimsRow.holds Try.pinned (OpenSpec.ofChange ledgerTrimsWrong)

/-- 'rostrumlaw.LedgerBehinds': WHATEVER THE INPUT: true; the input reads as it did. -/
def ledgerBehindsSpec : ChangeSpec := { name := "ledgerBehinds", fn := fun _ => fun
  | [d1, d2, d3] => { results := [.lit (.bool true)], args := [d1, d2, d3] }
  | _ => none }
def ledgerBehindsRow : OpenClaim := { program := "ytchhfojblmceiaa", sum := "05c1041df6a48e4303d3923b521c1c41361f370d436b1424f11a827490fce16d", func := "rostrum/rostrumlaw.LedgerBehinds", spec := "ledgerBehinds", apart := false }
def LedgerBehindsSaid : Prop := ledgerBehindsRow.holds Try.pinned (OpenSpec.ofChange ledgerBehindsSpec)

/-- ITS FALSE NEIGHBOUR: 'it returns false'. Refute it at one input. -/
def ledgerBehindsWrong : ChangeSpec := { name := "ledgerBehinds", fn := fun _ => fun
  | [d1, d2, d3] => { results := [.lit (.bool false)], args := [d1, d2, d3] }
  | _ => none }
def LedgerBehindsWrongFalsely : Prop := ledgerBehindsRow.holds Try.pinned (OpenSpec.ofChange ledgerBehindsWrong)

/-- 'rostrumlaw.ValueChecks': WHATEVER THE INPUT: true; the input reads as it did. -/
def valueChecksSpec : ChangeSpec := { name := "valueChecks", fn := fun _ => fun
  | [d] => { results := [.lit (.bool true)], args := [d] }
  | _ => none }
def valueChecksRow : OpenClaim := { program := "ytchhfojblmceiaa", sum := "05c1041df6a48e4303d3923b521c1c41361f370d436b1424f11a827490fce16d", func := "rostrum/rostrumlaw.ValueChecks", spec := "valueChecks", inPlace := ["internal/bytealg.abigen_runtime_cmpstring"], unfollowed := true, recurses := true, apart := false }
def ValueChecksSaid : Prop := valueChecksRow.holds Try.pinned (OpenSpec.ofChange valueChecksSpec)

/-- ITS FALSE NEIGHBOUR: 'it returns false'. Refute it at one input. -/
def valueChecksWrong : ChangeSpec := { name := "valueChecks", fn := fun _ => fun
  | [d] => { results := [.lit (.bool false)], args := [d] }
  | _ => none }
def ValueChecksWrongFalsely : Prop := valueChecksRow.holds Try.pinned (OpenSpec.ofChange valueChecksWrong)

/-- 'rostrumlaw.LedgerMatches': WHATEVER THE INPUT: true; the input reads as it did. -/
def ledgerMatchesSpec : ChangeSpec := { name := "ledgerMatches", fn := fun _ => fun
  | [d1, d2, d3, d4] => { results := [.lit (.bool true)], args := [d1, d2, d3, d4] }
  | _ => none }
def ledgerMatchesRow : OpenClaim := { program := "ytchhfojblmceiaa", sum := "05c1041df6a48e4303d3923b521c1c41361f370d436b1424f11a827490fce16d", func := "rostrum/rostrumlaw.LedgerMatches", spec := "ledgerMatches", apart := false }
def LedgerMatchesSaid : Prop := ledgerMatchesRow.holds Try.pinned (OpenSpec.ofChange ledgerMatchesSpec)

/-- ITS FALSE NEIGHBOUR: 'it returns false'. Refute it at one input. -/
def ledgerMatchesWrong : ChangeSpec := { name := "ledgerMatches", fn := fun _ => fun
  | [d1, d2, d3, d4] => { results := [.lit (.bool false)], args := [d1, d2, d3, d4] }
  | _ => none }
def LedgerMatchesWrongFalsely : Prop := ledgerMatchesRow.holds Try.pinned (OpenSpec.ofChange ledgerMatchesWrong)

/-- 'rostrumlaw.StoreChecks': WHATEVER THE INPUT: true; the input reads as it did. -/
def storeChecksSpec : ChangeSpec := { name := "storeChecks", fn := fun _ => fun
  | [d] => { results := [.lit (.bool true)], args := [d] }
  | _ => none }
def storeChecksRow : OpenClaim := { program := "ytchhfojblmceiaa", sum := "05c1041df6a48e4303d3923b521c1c41361f370d436b1424f11a827490fce16d", func := "rostrum/rostrumlaw.StoreChecks", spec := "storeChecks", inPlace := ["internal/bytealg.abigen_runtime_cmpstring"], unfollowed := true, recurses := true, apart := false }
def StoreChecksSaid : Prop := storeChecksRow.holds Try.pinned (OpenSpec.ofChange storeChecksSpec)

/-- ITS FALSE NEIGHBOUR: 'it returns false'. Refute it at one input. -/
def storeChecksWrong : ChangeSpec := { name := "storeChecks", fn := fun _ => fun
  | [d] => { results := [.lit (.bool false)], args := [d] }
  | _ => none }
def StoreChecksWrongFalsely : Prop := storeChecksRow.holds Try.pinned (OpenSpec.ofChange storeChecksWrong)

/-- 'rostrumlaw.WireItemReads': WHATEVER THE INPUT: true; the input reads as it did. -/
def wireItemReadsSpec : ChangeSpec := { name := "wireItemReads", fn := fun _ => fun
  | [d] => { results := [.lit (.bool true)], args := [d] }
  | _ => none }
def wireItemReadsRow : OpenClaim := { program := "ytchhfojblmceiaa", sum := "05c1041df6a48e4303d3923b521c1c41361f370d436b1424f11a827490fce16d", func := "rostrum/rostrumlaw.WireItemReads", spec := "wireItemReads", apart := false }
def WireItemReadsSaid : Prop := wireItemReadsRow.holds Try.pinned (OpenSpec.ofChange wireItemReadsSpec)

/-- ITS FALSE NEIGHBOUR: 'it returns false'. Refute it at one input. -/
def wireItemReadsWrong : ChangeSpec := { name := "wireItemReads", fn := fun _ => fun
  | [d] => { results := [.lit (.bool false)], args := [d] }
  | _ => none }
def WireItemReadsWrongFalsely : Prop := wireItemReadsRow.holds Try.pinned (OpenSpec.ofChange wireItemReadsWrong)

/-- 'rostrumlaw.ClientChecks': WHATEVER THE INPUT: true; the input reads as it did. -/
def clientChecksSpec : ChangeSpec := { name := "clientChecks", fn := fun _ => fun
  | [d] => { results := [.lit (.bool true)], args := [d] }
  | _ => none }
def clientChecksRow : OpenClaim := { program := "ytchhfojblmceiaa", sum := "05c1041df6a48e4303d3923b521c1c41361f370d436b1424f11a827490fce16d", func := "rostrum/rostrumlaw.ClientChecks", spec := "clientChecks", inPlace := ["internal/bytealg.abigen_runtime_cmpstring"], unfollowed := true, recurses := true, apart := false }
def ClientChecksSaid : Prop := clientChecksRow.holds Try.pinned (OpenSpec.ofChange clientChecksSpec)

/-- ITS FALSE NEIGHBOUR: 'it returns false'. Refute it at one input. -/
def clientChecksWrong : ChangeSpec := { name := "clientChecks", fn := fun _ => fun
  | [d] => { results := [.lit (.bool false)], args := [d] }
  | _ => none }
def ClientChecksWrongFalsely : Prop := clientChecksRow.holds Try.pinned (OpenSpec.ofChange clientChecksWrong)

/-- 'rostrumlaw.TapeSnaps': WHATEVER THE INPUT: true; the input reads as it did. -/
def tapeSnapsSpec : ChangeSpec := { name := "tapeSnaps", fn := fun _ => fun
  | [d] => { results := [.lit (.bool true)], args := [d] }
  | _ => none }
def tapeSnapsRow : OpenClaim := { program := "ytchhfojblmceiaa", sum := "05c1041df6a48e4303d3923b521c1c41361f370d436b1424f11a827490fce16d", func := "rostrum/rostrumlaw.TapeSnaps", spec := "tapeSnaps", inPlace := ["internal/bytealg.abigen_runtime_cmpstring"], unfollowed := true, recurses := true, apart := false }
def TapeSnapsSaid : Prop := tapeSnapsRow.holds Try.pinned (OpenSpec.ofChange tapeSnapsSpec)

/-- ITS FALSE NEIGHBOUR: 'it returns false'. Refute it at one input. -/
def tapeSnapsWrong : ChangeSpec := { name := "tapeSnaps", fn := fun _ => fun
  | [d] => { results := [.lit (.bool false)], args := [d] }
  | _ => none }
def TapeSnapsWrongFalsely : Prop := tapeSnapsRow.holds Try.pinned (OpenSpec.ofChange tapeSnapsWrong)

/-- 'rostrumlaw.WireEncodes': WHATEVER THE INPUT: true; the input reads as it did. -/
def wireEncodesSpec : ChangeSpec := { name := "wireEncodes", fn := fun _ => fun
  | [d] => { results := [.lit (.bool true)], args := [d] }
  | _ => none }
def wireEncodesRow : OpenClaim := { program := "ytchhfojblmceiaa", sum := "05c1041df6a48e4303d3923b521c1c41361f370d436b1424f11a827490fce16d", func := "rostrum/rostrumlaw.WireEncodes", spec := "wireEncodes", inPlace := ["internal/bytealg.abigen_runtime_cmpstring"], unfollowed := true, recurses := true, apart := false }
def WireEncodesSaid : Prop := wireEncodesRow.holds Try.pinned (OpenSpec.ofChange wireEncodesSpec)

/-- ITS FALSE NEIGHBOUR: 'it returns false'. Refute it at one input. -/
def wireEncodesWrong : ChangeSpec := { name := "wireEncodes", fn := fun _ => fun
  | [d] => { results := [.lit (.bool false)], args := [d] }
  | _ => none }
def WireEncodesWrongFalsely : Prop := wireEncodesRow.holds Try.pinned (OpenSpec.ofChange wireEncodesWrong)

/-- 'rostrumlaw.WireDecodes': WHATEVER THE INPUT: true; the input reads as it did. -/
def wireDecodesSpec : ChangeSpec := { name := "wireDecodes", fn := fun _ => fun
  | [d] => { results := [.lit (.bool true)], args := [d] }
  | _ => none }
def wireDecodesRow : OpenClaim := { program := "ytchhfojblmceiaa", sum := "05c1041df6a48e4303d3923b521c1c41361f370d436b1424f11a827490fce16d", func := "rostrum/rostrumlaw.WireDecodes", spec := "wireDecodes", inPlace := ["internal/bytealg.abigen_runtime_cmpstring"], unfollowed := true, recurses := true, apart := false }
def WireDecodesSaid : Prop := wireDecodesRow.holds Try.pinned (OpenSpec.ofChange wireDecodesSpec)

/-- ITS FALSE NEIGHBOUR: 'it returns false'. Refute it at one input. -/
def wireDecodesWrong : ChangeSpec := { name := "wireDecodes", fn := fun _ => fun
  | [d] => { results := [.lit (.bool false)], args := [d] }
  | _ => none }
def WireDecodesWrongFalsely : Prop := wireDecodesRow.holds Try.pinned (OpenSpec.ofChange wireDecodesWrong)

/-- 'rostrumlaw.TapeChecks': WHATEVER THE INPUT: true; the input reads as it did. -/
def tapeChecksSpec : ChangeSpec := { name := "tapeChecks", fn := fun _ => fun
  | [d] => { results := [.lit (.bool true)], args := [d] }
  | _ => none }
def tapeChecksRow : OpenClaim := { program := "ytchhfojblmceiaa", sum := "05c1041df6a48e4303d3923b521c1c41361f370d436b1424f11a827490fce16d", func := "rostrum/rostrumlaw.TapeChecks", spec := "tapeChecks", inPlace := ["internal/bytealg.abigen_runtime_cmpstring"], unfollowed := true, recurses := true, apart := false }
def TapeChecksSaid : Prop := tapeChecksRow.holds Try.pinned (OpenSpec.ofChange tapeChecksSpec)

/-- ITS FALSE NEIGHBOUR: 'it returns false'. Refute it at one input. -/
def tapeChecksWrong : ChangeSpec := { name := "tapeChecks", fn := fun _ => fun
  | [d] => { results := [.lit (.bool false)], args := [d] }
  | _ => none }
def TapeChecksWrongFalsely : Prop := tapeChecksRow.holds Try.pinned (OpenSpec.ofChange tapeChecksWrong)

/-- 'rostrumlaw.TapeRests': WHATEVER THE INPUT: true; the input reads as it did. -/
def tapeRestsSpec : ChangeSpec := { name := "tapeRests", fn := fun _ => fun
  | [d1, d2] => { results := [.lit (.bool true)], args := [d1, d2] }
  | _ => none }
def tapeRestsRow : OpenClaim := { program := "ytchhfojblmceiaa", sum := "05c1041df6a48e4303d3923b521c1c41361f370d436b1424f11a827490fce16d", func := "rostrum/rostrumlaw.TapeRests", spec := "tapeRests", inPlace := ["internal/bytealg.abigen_runtime_cmpstring"], unfollowed := true, recurses := true, apart := false }
def TapeRestsSaid : Prop := tapeRestsRow.holds Try.pinned (OpenSpec.ofChange tapeRestsSpec)

/-- ITS FALSE NEIGHBOUR: 'it returns false'. Refute it at one input. -/
def tapeRestsWrong : ChangeSpec := { name := "tapeRests", fn := fun _ => fun
  | [d1, d2] => { results := [.lit (.bool false)], args := [d1, d2] }
  | _ => none }
def TapeRestsWrongFalsely : Prop := tapeRestsRow.holds Try.pinned (OpenSpec.ofChange tapeRestsWrong)

/-- 'rostrumlaw.TapeAppends': WHATEVER THE INPUT: true; the input reads as it did. -/
def tapeAppendsSpec : ChangeSpec := { name := "tapeAppends", fn := fun _ => fun
  | [d1, d2] => { results := [.lit (.bool true)], args := [d1, d2] }
  | _ => none }
def tapeAppendsRow : OpenClaim := { program := "ytchhfojblmceiaa", sum := "05c1041df6a48e4303d3923b521c1c41361f370d436b1424f11a827490fce16d", func := "rostrum/rostrumlaw.TapeAppends", spec := "tapeAppends", inPlace := ["internal/bytealg.abigen_runtime_cmpstring"], unfollowed := true, recurses := true, apart := false }
def TapeAppendsSaid : Prop := tapeAppendsRow.holds Try.pinned (OpenSpec.ofChange tapeAppendsSpec)

/-- ITS FALSE NEIGHBOUR: 'it returns false'. Refute it at one input. -/
def tapeAppendsWrong : ChangeSpec := { name := "tapeAppends", fn := fun _ => fun
  | [d1, d2] => { results := [.lit (.bool false)], args := [d1, d2] }
  | _ => none }
def TapeAppendsWrongFalsely : Prop := tapeAppendsRow.holds Try.pinned (OpenSpec.ofChange tapeAppendsWrong)

/-- 'rostrumlaw.ValueDoes': WHATEVER THE INPUT: true; the input reads as it did. -/
def valueDoesSpec : ChangeSpec := { name := "valueDoes", fn := fun _ => fun
  | [d1, d2] => { results := [.lit (.bool true)], args := [d1, d2] }
  | _ => none }
def valueDoesRow : OpenClaim := { program := "ytchhfojblmceiaa", sum := "05c1041df6a48e4303d3923b521c1c41361f370d436b1424f11a827490fce16d", func := "rostrum/rostrumlaw.ValueDoes", spec := "valueDoes", inPlace := ["internal/bytealg.abigen_runtime_cmpstring", "slices.overlaps[rostrum/api.Pair]", "slices.overlaps[string]", "slices.overlaps[rostrum/api.Score]"], unfollowed := true, recurses := true, apart := false }
def ValueDoesSaid : Prop := valueDoesRow.holds Try.pinned (OpenSpec.ofChange valueDoesSpec)

/-- ITS FALSE NEIGHBOUR: 'it returns false'. Refute it at one input. -/
def valueDoesWrong : ChangeSpec := { name := "valueDoes", fn := fun _ => fun
  | [d1, d2] => { results := [.lit (.bool false)], args := [d1, d2] }
  | _ => none }
def ValueDoesWrongFalsely : Prop := valueDoesRow.holds Try.pinned (OpenSpec.ofChange valueDoesWrong)

/- THE SECOND FORM. 'bulk': how many values and letters a reading holds, each counted each time it is reached (what is shared counts as often as it is met; a slice's spare places count too). A statement '..UptoSaid' is the law's where the arguments, and the package variables that the reading takes, are together of bulk at most 1048576: NARROWER than '..Said'. Prove '..Said' where nothing that the law and all that it calls make is longer than what came in: it says more and counts as full. Else prove '..UptoSaid'. A law counts once. -/
mutual
def uptoBulk {H : Type} : DataW H → Nat
  | .lit (.string bytes) => bytes.length + 1
  | .lit _ => 1
  | .nil => 1
  | .ptr d => uptoBulk d + 1
  | .slice elems spare => uptoBulkAll elems + uptoBulkAll spare + 1
  | .agg parts => uptoBulkAll parts + 1
  | .iface _ d => uptoBulk d + 1
  | .map entries => uptoBulkEntries entries + 1
  | .held _ => 1
def uptoBulkAll {H : Type} : List (DataW H) → Nat
  | [] => 0
  | d :: r => uptoBulk d + uptoBulkAll r
def uptoBulkEntries {H : Type} : List (Lit × DataW H) → Nat
  | [] => 0
  | x :: r => uptoBulkEntry x + uptoBulkEntries r
def uptoBulkEntry {H : Type} : Lit × DataW H → Nat
  | (.string bytes, d) => bytes.length + uptoBulk d + 1
  | (_, d) => uptoBulk d + 1
 end
def uptoSmall : (H : Type) → List (DataW H) → Bool := fun _ ds => decide (uptoBulkAll ds ≤ 1048576)
def OpenSpec.upto (s : _root_.Go.ChangeSpec) : _root_.Go.OpenSpec := { _root_.Go.OpenSpec.ofChange s with cond := some uptoSmall }

/-- 'rostrumlaw.Names', WHERE WHAT IT READS IS OF BULK AT MOST 1048576: true; the input reads as it did. -/
def namesUptoRow : OpenClaim := { program := "ytchhfojblmceiaa", sum := "05c1041df6a48e4303d3923b521c1c41361f370d436b1424f11a827490fce16d", func := "rostrum/rostrumlaw.Names", spec := "names", apart := false, narrowed := true }
def NamesUptoSaid : Prop := namesUptoRow.holds Try.pinned (OpenSpec.upto namesSpec)

/-- 'rostrumlaw.ClientNews', WHERE WHAT IT READS IS OF BULK AT MOST 1048576: true; the input reads as it did. -/
def clientNewsUptoRow : OpenClaim := { program := "ytchhfojblmceiaa", sum := "05c1041df6a48e4303d3923b521c1c41361f370d436b1424f11a827490fce16d", func := "rostrum/rostrumlaw.ClientNews", spec := "clientNews", apart := false, narrowed := true }
def ClientNewsUptoSaid : Prop := clientNewsUptoRow.holds Try.pinned (OpenSpec.upto clientNewsSpec)

/-- 'rostrumlaw.TapeNews', WHERE WHAT IT READS IS OF BULK AT MOST 1048576: true; the input reads as it did. -/
def tapeNewsUptoRow : OpenClaim := { program := "ytchhfojblmceiaa", sum := "05c1041df6a48e4303d3923b521c1c41361f370d436b1424f11a827490fce16d", func := "rostrum/rostrumlaw.TapeNews", spec := "tapeNews", apart := false, narrowed := true }
def TapeNewsUptoSaid : Prop := tapeNewsUptoRow.holds Try.pinned (OpenSpec.upto tapeNewsSpec)

/-- 'rostrumlaw.TapeSyncs', WHERE WHAT IT READS IS OF BULK AT MOST 1048576: true; the input reads as it did. -/
def tapeSyncsUptoRow : OpenClaim := { program := "ytchhfojblmceiaa", sum := "05c1041df6a48e4303d3923b521c1c41361f370d436b1424f11a827490fce16d", func := "rostrum/rostrumlaw.TapeSyncs", spec := "tapeSyncs", apart := false, narrowed := true }
def TapeSyncsUptoSaid : Prop := tapeSyncsUptoRow.holds Try.pinned (OpenSpec.upto tapeSyncsSpec)

/-- 'rostrumlaw.ClientReplies', WHERE WHAT IT READS IS OF BULK AT MOST 1048576: true; the input reads as it did. -/
def clientRepliesUptoRow : OpenClaim := { program := "ytchhfojblmceiaa", sum := "05c1041df6a48e4303d3923b521c1c41361f370d436b1424f11a827490fce16d", func := "rostrum/rostrumlaw.ClientReplies", spec := "clientReplies", unfollowed := true, recurses := true, apart := false, narrowed := true }
def ClientRepliesUptoSaid : Prop := clientRepliesUptoRow.holds Try.pinned (OpenSpec.upto clientRepliesSpec)

/-- 'rostrumlaw.TapeCrashes', WHERE WHAT IT READS IS OF BULK AT MOST 1048576: true; the input reads as it did. -/
def tapeCrashesUptoRow : OpenClaim := { program := "ytchhfojblmceiaa", sum := "05c1041df6a48e4303d3923b521c1c41361f370d436b1424f11a827490fce16d", func := "rostrum/rostrumlaw.TapeCrashes", spec := "tapeCrashes", apart := false, narrowed := true }
def TapeCrashesUptoSaid : Prop := tapeCrashesUptoRow.holds Try.pinned (OpenSpec.upto tapeCrashesSpec)

/-- 'rostrumlaw.ValueCommands', WHERE WHAT IT READS IS OF BULK AT MOST 1048576: true; the input reads as it did. -/
def valueCommandsUptoRow : OpenClaim := { program := "ytchhfojblmceiaa", sum := "05c1041df6a48e4303d3923b521c1c41361f370d436b1424f11a827490fce16d", func := "rostrum/rostrumlaw.ValueCommands", spec := "valueCommands", apart := false, narrowed := true }
def ValueCommandsUptoSaid : Prop := valueCommandsUptoRow.holds Try.pinned (OpenSpec.upto valueCommandsSpec)

/-- 'rostrumlaw.ClientCalls', WHERE WHAT IT READS IS OF BULK AT MOST 1048576: true; the input reads as it did. -/
def clientCallsUptoRow : OpenClaim := { program := "ytchhfojblmceiaa", sum := "05c1041df6a48e4303d3923b521c1c41361f370d436b1424f11a827490fce16d", func := "rostrum/rostrumlaw.ClientCalls", spec := "clientCalls", apart := false, narrowed := true }
def ClientCallsUptoSaid : Prop := clientCallsUptoRow.holds Try.pinned (OpenSpec.upto clientCallsSpec)

/-- 'rostrumlaw.WireItems', WHERE WHAT IT READS IS OF BULK AT MOST 1048576: true; the input reads as it did. -/
def wireItemsUptoRow : OpenClaim := { program := "ytchhfojblmceiaa", sum := "05c1041df6a48e4303d3923b521c1c41361f370d436b1424f11a827490fce16d", func := "rostrum/rostrumlaw.WireItems", spec := "wireItems", apart := false, narrowed := true }
def WireItemsUptoSaid : Prop := wireItemsUptoRow.holds Try.pinned (OpenSpec.upto wireItemsSpec)

/-- 'rostrumlaw.LedgerChecks', WHERE WHAT IT READS IS OF BULK AT MOST 1048576: true; the input reads as it did. -/
def ledgerChecksUptoRow : OpenClaim := { program := "ytchhfojblmceiaa", sum := "05c1041df6a48e4303d3923b521c1c41361f370d436b1424f11a827490fce16d", func := "rostrum/rostrumlaw.LedgerChecks", spec := "ledgerChecks", apart := false, narrowed := true }
def LedgerChecksUptoSaid : Prop := ledgerChecksUptoRow.holds Try.pinned (OpenSpec.upto ledgerChecksSpec)

/-- 'rostrumlaw.LinesChecks', WHERE WHAT IT READS IS OF BULK AT MOST 1048576: true; the input reads as it did. -/
def linesChecksUptoRow : OpenClaim := { program := "ytchhfojblmceiaa", sum := "05c1041df6a48e4303d3923b521c1c41361f370d436b1424f11a827490fce16d", func := "rostrum/rostrumlaw.LinesChecks", spec := "linesChecks", apart := false, narrowed := true }
def LinesChecksUptoSaid : Prop := linesChecksUptoRow.holds Try.pinned (OpenSpec.upto linesChecksSpec)

/-- 'rostrumlaw.LedgerLasts', WHERE WHAT IT READS IS OF BULK AT MOST 1048576: true; the input reads as it did. -/
def ledgerLastsUptoRow : OpenClaim := { program := "ytchhfojblmceiaa", sum := "05c1041df6a48e4303d3923b521c1c41361f370d436b1424f11a827490fce16d", func := "rostrum/rostrumlaw.LedgerLasts", spec := "ledgerLasts", apart := false, narrowed := true }
def LedgerLastsUptoSaid : Prop := ledgerLastsUptoRow.holds Try.pinned (OpenSpec.upto ledgerLastsSpec)

/-- 'rostrumlaw.LedgerNewer', WHERE WHAT IT READS IS OF BULK AT MOST 1048576: true; the input reads as it did. -/
def ledgerNewerUptoRow : OpenClaim := { program := "ytchhfojblmceiaa", sum := "05c1041df6a48e4303d3923b521c1c41361f370d436b1424f11a827490fce16d", func := "rostrum/rostrumlaw.LedgerNewer", spec := "ledgerNewer", apart := false, narrowed := true }
def LedgerNewerUptoSaid : Prop := ledgerNewerUptoRow.holds Try.pinned (OpenSpec.upto ledgerNewerSpec)

/-- 'rostrumlaw.LedgerTerms', WHERE WHAT IT READS IS OF BULK AT MOST 1048576: true; the input reads as it did. -/
def ledgerTermsUptoRow : OpenClaim := { program := "ytchhfojblmceiaa", sum := "05c1041df6a48e4303d3923b521c1c41361f370d436b1424f11a827490fce16d", func := "rostrum/rostrumlaw.LedgerTerms", spec := "ledgerTerms", apart := false, narrowed := true }
def LedgerTermsUptoSaid : Prop := ledgerTermsUptoRow.holds Try.pinned (OpenSpec.upto ledgerTermsSpec)

/-- 'rostrumlaw.WireItemBytes', WHERE WHAT IT READS IS OF BULK AT MOST 1048576: true; the input reads as it did. -/
def wireItemBytesUptoRow : OpenClaim := { program := "ytchhfojblmceiaa", sum := "05c1041df6a48e4303d3923b521c1c41361f370d436b1424f11a827490fce16d", func := "rostrum/rostrumlaw.WireItemBytes", spec := "wireItemBytes", apart := false, narrowed := true }
def WireItemBytesUptoSaid : Prop := wireItemBytesUptoRow.holds Try.pinned (OpenSpec.upto wireItemBytesSpec)

/-- 'rostrumlaw.LedgerTrims', WHERE WHAT IT READS IS OF BULK AT MOST 1048576: true; the input reads as it did. -/
def ledgerTrimsUptoRow : OpenClaim := { program := "ytchhfojblmceiaa", sum := "05c1041df6a48e4303d3923b521c1c41361f370d436b1424f11a827490fce16d", func := "rostrum/rostrumlaw.LedgerTrims", spec := "ledgerTrims", apart := false, narrowed := true }
def LedgerTrimsUptoSaid : Prop := ledgerTrimsUptoRow.holds Try.pinned (OpenSpec.upto ledgerTrimsSpec)

/-- 'rostrumlaw.LedgerBehinds', WHERE WHAT IT READS IS OF BULK AT MOST 1048576: true; the input reads as it did. -/
def ledgerBehindsUptoRow : OpenClaim := { program := "ytchhfojblmceiaa", sum := "05c1041df6a48e4303d3923b521c1c41361f370d436b1424f11a827490fce16d", func := "rostrum/rostrumlaw.LedgerBehinds", spec := "ledgerBehinds", apart := false, narrowed := true }
def LedgerBehindsUptoSaid : Prop := ledgerBehindsUptoRow.holds Try.pinned (OpenSpec.upto ledgerBehindsSpec)

/-- 'rostrumlaw.ValueChecks', WHERE WHAT IT READS IS OF BULK AT MOST 1048576: true; the input reads as it did. -/
def valueChecksUptoRow : OpenClaim := { program := "ytchhfojblmceiaa", sum := "05c1041df6a48e4303d3923b521c1c41361f370d436b1424f11a827490fce16d", func := "rostrum/rostrumlaw.ValueChecks", spec := "valueChecks", inPlace := ["internal/bytealg.abigen_runtime_cmpstring"], unfollowed := true, recurses := true, apart := false, narrowed := true }
def ValueChecksUptoSaid : Prop := valueChecksUptoRow.holds Try.pinned (OpenSpec.upto valueChecksSpec)

/-- 'rostrumlaw.LedgerMatches', WHERE WHAT IT READS IS OF BULK AT MOST 1048576: true; the input reads as it did. -/
def ledgerMatchesUptoRow : OpenClaim := { program := "ytchhfojblmceiaa", sum := "05c1041df6a48e4303d3923b521c1c41361f370d436b1424f11a827490fce16d", func := "rostrum/rostrumlaw.LedgerMatches", spec := "ledgerMatches", apart := false, narrowed := true }
def LedgerMatchesUptoSaid : Prop := ledgerMatchesUptoRow.holds Try.pinned (OpenSpec.upto ledgerMatchesSpec)

/-- 'rostrumlaw.StoreChecks', WHERE WHAT IT READS IS OF BULK AT MOST 1048576: true; the input reads as it did. -/
def storeChecksUptoRow : OpenClaim := { program := "ytchhfojblmceiaa", sum := "05c1041df6a48e4303d3923b521c1c41361f370d436b1424f11a827490fce16d", func := "rostrum/rostrumlaw.StoreChecks", spec := "storeChecks", inPlace := ["internal/bytealg.abigen_runtime_cmpstring"], unfollowed := true, recurses := true, apart := false, narrowed := true }
def StoreChecksUptoSaid : Prop := storeChecksUptoRow.holds Try.pinned (OpenSpec.upto storeChecksSpec)

/-- 'rostrumlaw.WireItemReads', WHERE WHAT IT READS IS OF BULK AT MOST 1048576: true; the input reads as it did. -/
def wireItemReadsUptoRow : OpenClaim := { program := "ytchhfojblmceiaa", sum := "05c1041df6a48e4303d3923b521c1c41361f370d436b1424f11a827490fce16d", func := "rostrum/rostrumlaw.WireItemReads", spec := "wireItemReads", apart := false, narrowed := true }
def WireItemReadsUptoSaid : Prop := wireItemReadsUptoRow.holds Try.pinned (OpenSpec.upto wireItemReadsSpec)

/-- 'rostrumlaw.ClientChecks', WHERE WHAT IT READS IS OF BULK AT MOST 1048576: true; the input reads as it did. -/
def clientChecksUptoRow : OpenClaim := { program := "ytchhfojblmceiaa", sum := "05c1041df6a48e4303d3923b521c1c41361f370d436b1424f11a827490fce16d", func := "rostrum/rostrumlaw.ClientChecks", spec := "clientChecks", inPlace := ["internal/bytealg.abigen_runtime_cmpstring"], unfollowed := true, recurses := true, apart := false, narrowed := true }
def ClientChecksUptoSaid : Prop := clientChecksUptoRow.holds Try.pinned (OpenSpec.upto clientChecksSpec)

/-- 'rostrumlaw.TapeSnaps', WHERE WHAT IT READS IS OF BULK AT MOST 1048576: true; the input reads as it did. -/
def tapeSnapsUptoRow : OpenClaim := { program := "ytchhfojblmceiaa", sum := "05c1041df6a48e4303d3923b521c1c41361f370d436b1424f11a827490fce16d", func := "rostrum/rostrumlaw.TapeSnaps", spec := "tapeSnaps", inPlace := ["internal/bytealg.abigen_runtime_cmpstring"], unfollowed := true, recurses := true, apart := false, narrowed := true }
def TapeSnapsUptoSaid : Prop := tapeSnapsUptoRow.holds Try.pinned (OpenSpec.upto tapeSnapsSpec)

/-- 'rostrumlaw.WireEncodes', WHERE WHAT IT READS IS OF BULK AT MOST 1048576: true; the input reads as it did. -/
def wireEncodesUptoRow : OpenClaim := { program := "ytchhfojblmceiaa", sum := "05c1041df6a48e4303d3923b521c1c41361f370d436b1424f11a827490fce16d", func := "rostrum/rostrumlaw.WireEncodes", spec := "wireEncodes", inPlace := ["internal/bytealg.abigen_runtime_cmpstring"], unfollowed := true, recurses := true, apart := false, narrowed := true }
def WireEncodesUptoSaid : Prop := wireEncodesUptoRow.holds Try.pinned (OpenSpec.upto wireEncodesSpec)

/-- 'rostrumlaw.WireDecodes', WHERE WHAT IT READS IS OF BULK AT MOST 1048576: true; the input reads as it did. -/
def wireDecodesUptoRow : OpenClaim := { program := "ytchhfojblmceiaa", sum := "05c1041df6a48e4303d3923b521c1c41361f370d436b1424f11a827490fce16d", func := "rostrum/rostrumlaw.WireDecodes", spec := "wireDecodes", inPlace := ["internal/bytealg.abigen_runtime_cmpstring"], unfollowed := true, recurses := true, apart := false, narrowed := true }
def WireDecodesUptoSaid : Prop := wireDecodesUptoRow.holds Try.pinned (OpenSpec.upto wireDecodesSpec)

/-- 'rostrumlaw.TapeChecks', WHERE WHAT IT READS IS OF BULK AT MOST 1048576: true; the input reads as it did. -/
def tapeChecksUptoRow : OpenClaim := { program := "ytchhfojblmceiaa", sum := "05c1041df6a48e4303d3923b521c1c41361f370d436b1424f11a827490fce16d", func := "rostrum/rostrumlaw.TapeChecks", spec := "tapeChecks", inPlace := ["internal/bytealg.abigen_runtime_cmpstring"], unfollowed := true, recurses := true, apart := false, narrowed := true }
def TapeChecksUptoSaid : Prop := tapeChecksUptoRow.holds Try.pinned (OpenSpec.upto tapeChecksSpec)

/-- 'rostrumlaw.TapeRests', WHERE WHAT IT READS IS OF BULK AT MOST 1048576: true; the input reads as it did. -/
def tapeRestsUptoRow : OpenClaim := { program := "ytchhfojblmceiaa", sum := "05c1041df6a48e4303d3923b521c1c41361f370d436b1424f11a827490fce16d", func := "rostrum/rostrumlaw.TapeRests", spec := "tapeRests", inPlace := ["internal/bytealg.abigen_runtime_cmpstring"], unfollowed := true, recurses := true, apart := false, narrowed := true }
def TapeRestsUptoSaid : Prop := tapeRestsUptoRow.holds Try.pinned (OpenSpec.upto tapeRestsSpec)

/-- 'rostrumlaw.TapeAppends', WHERE WHAT IT READS IS OF BULK AT MOST 1048576: true; the input reads as it did. -/
def tapeAppendsUptoRow : OpenClaim := { program := "ytchhfojblmceiaa", sum := "05c1041df6a48e4303d3923b521c1c41361f370d436b1424f11a827490fce16d", func := "rostrum/rostrumlaw.TapeAppends", spec := "tapeAppends", inPlace := ["internal/bytealg.abigen_runtime_cmpstring"], unfollowed := true, recurses := true, apart := false, narrowed := true }
def TapeAppendsUptoSaid : Prop := tapeAppendsUptoRow.holds Try.pinned (OpenSpec.upto tapeAppendsSpec)

/-- 'rostrumlaw.ValueDoes', WHERE WHAT IT READS IS OF BULK AT MOST 1048576: true; the input reads as it did. -/
def valueDoesUptoRow : OpenClaim := { program := "ytchhfojblmceiaa", sum := "05c1041df6a48e4303d3923b521c1c41361f370d436b1424f11a827490fce16d", func := "rostrum/rostrumlaw.ValueDoes", spec := "valueDoes", inPlace := ["internal/bytealg.abigen_runtime_cmpstring", "slices.overlaps[rostrum/api.Pair]", "slices.overlaps[string]", "slices.overlaps[rostrum/api.Score]"], unfollowed := true, recurses := true, apart := false, narrowed := true }
def ValueDoesUptoSaid : Prop := valueDoesUptoRow.holds Try.pinned (OpenSpec.upto valueDoesSpec)

end Rows
end Go.Proofs.Ytchhfojblmceiaa
