/-
  No cell of these rows narrows 'for every input' (looked for: loops, veiled, ifaces, maps, wideKeys, modest, calm, conditions, laid).
  DERIVED. THE GIVEN ROWS OF THIS SEAT. 15 by the template 'for every input the law returns true; each argument reads behind the call as it read before'; 0 by the template 'total and deterministic' (their statements: YtefkpiameojpoaaTotals.lean).
  GIVEN WITH THE SEED: the statements are not yours to turn. If you find one false, say at which input.
  Laid BY PROGRAM, IN A SANDBOX (cutbox-rows.mjs): the forced cells as the released guide's own fill.sh prints them over the translation 54fe0c0a19774a73… (all of the seat's roots in one cut). By AI agents, Wed Nov 11 2026. No macro, syntax, notation, axiom, sorry.
-/
import Derived.Test.YtefkpiameojpoaaChecked
import GoSem.Claim
import GoSem.ClaimJoined
import GoSem.ClaimMapViews
import Derived.JoinedTies
import Derived.KernelRfl
namespace Go.Proofs.Ytefkpiameojpoaa
/- THE CELL 'sum', in the pinned program and in every row, IS THE sha256 OF THE DUMP (.gsa) THAT YtefkpiameojpoaaProg.lean LOADS. Nothing in Lean hashes anything: it is a label: what it is worth is what the hold of that sum in a sandbox is worth. -/
noncomputable def Try.pinned : Pinned := { name := "ytefkpiameojpoaa", sum := "54fe0c0a19774a731815401c552a37c2a45f13f4281d326a12e2ed2d8c04e2f7", checked := Try.checked }
namespace Rows
def none {H : Type} : Left H := { results := [], args := [] }

/-- 'laws.FnExactLineFault': WHATEVER THE INPUT: true; the input reads as it did. -/
def fnExactLineFaultSpec : ChangeSpec := { name := "fnExactLineFault", fn := fun _ => fun
  | [d] => { results := [.lit (.bool true)], args := [d] }
  | _ => none }
def fnExactLineFaultRow : OpenClaim := { program := "ytefkpiameojpoaa", sum := "54fe0c0a19774a731815401c552a37c2a45f13f4281d326a12e2ed2d8c04e2f7", func := "loop.example/g00343/laws.FnExactLineFault", spec := "fnExactLineFault", unfollowed := true, recurses := true, apart := false }
def FnExactLineFaultSaid : Prop := fnExactLineFaultRow.holds Try.pinned (OpenSpec.ofChange fnExactLineFaultSpec)

/-- ITS FALSE NEIGHBOUR: 'it returns false'. Refute it at one input. -/
def fnExactLineFaultWrong : ChangeSpec := { name := "fnExactLineFault", fn := fun _ => fun
  | [d] => { results := [.lit (.bool false)], args := [d] }
  | _ => none }
def FnExactLineFaultWrongFalsely : Prop := fnExactLineFaultRow.holds Try.pinned (OpenSpec.ofChange fnExactLineFaultWrong)

/-- 'laws.FnExactSameCharts': WHATEVER THE INPUT: true; the input reads as it did. -/
def fnExactSameChartsSpec : ChangeSpec := { name := "fnExactSameCharts", fn := fun _ => fun
  | [d1, d2] => { results := [.lit (.bool true)], args := [d1, d2] }
  | _ => none }
def fnExactSameChartsRow : OpenClaim := { program := "ytefkpiameojpoaa", sum := "54fe0c0a19774a731815401c552a37c2a45f13f4281d326a12e2ed2d8c04e2f7", func := "loop.example/g00343/laws.FnExactSameCharts", spec := "fnExactSameCharts", apart := false }
def FnExactSameChartsSaid : Prop := fnExactSameChartsRow.holds Try.pinned (OpenSpec.ofChange fnExactSameChartsSpec)

/-- ITS FALSE NEIGHBOUR: 'it returns false'. Refute it at one input. -/
def fnExactSameChartsWrong : ChangeSpec := { name := "fnExactSameCharts", fn := fun _ => fun
  | [d1, d2] => { results := [.lit (.bool false)], args := [d1, d2] }
  | _ => none }
def FnExactSameChartsWrongFalsely : Prop := fnExactSameChartsRow.holds Try.pinned (OpenSpec.ofChange fnExactSameChartsWrong)

/-- 'laws.FnExactSameRuns': WHATEVER THE INPUT: true; the input reads as it did. -/
def fnExactSameRunsSpec : ChangeSpec := { name := "fnExactSameRuns", fn := fun _ => fun
  | [d1, d2] => { results := [.lit (.bool true)], args := [d1, d2] }
  | _ => none }
def fnExactSameRunsRow : OpenClaim := { program := "ytefkpiameojpoaa", sum := "54fe0c0a19774a731815401c552a37c2a45f13f4281d326a12e2ed2d8c04e2f7", func := "loop.example/g00343/laws.FnExactSameRuns", spec := "fnExactSameRuns", apart := false }
def FnExactSameRunsSaid : Prop := fnExactSameRunsRow.holds Try.pinned (OpenSpec.ofChange fnExactSameRunsSpec)

/-- ITS FALSE NEIGHBOUR: 'it returns false'. Refute it at one input. -/
def fnExactSameRunsWrong : ChangeSpec := { name := "fnExactSameRuns", fn := fun _ => fun
  | [d1, d2] => { results := [.lit (.bool false)], args := [d1, d2] }
  | _ => none }
def FnExactSameRunsWrongFalsely : Prop := fnExactSameRunsRow.holds Try.pinned (OpenSpec.ofChange fnExactSameRunsWrong)

/-- 'laws.FnExactActFault': WHATEVER THE INPUT: true; the input reads as it did. -/
def fnExactActFaultSpec : ChangeSpec := { name := "fnExactActFault", fn := fun _ => fun
  | [d] => { results := [.lit (.bool true)], args := [d] }
  | _ => none }
def fnExactActFaultRow : OpenClaim := { program := "ytefkpiameojpoaa", sum := "54fe0c0a19774a731815401c552a37c2a45f13f4281d326a12e2ed2d8c04e2f7", func := "loop.example/g00343/laws.FnExactActFault", spec := "fnExactActFault", unfollowed := true, recurses := true, apart := false }
def FnExactActFaultSaid : Prop := fnExactActFaultRow.holds Try.pinned (OpenSpec.ofChange fnExactActFaultSpec)

/-- ITS FALSE NEIGHBOUR: 'it returns false'. Refute it at one input. -/
def fnExactActFaultWrong : ChangeSpec := { name := "fnExactActFault", fn := fun _ => fun
  | [d] => { results := [.lit (.bool false)], args := [d] }
  | _ => none }
def FnExactActFaultWrongFalsely : Prop := fnExactActFaultRow.holds Try.pinned (OpenSpec.ofChange fnExactActFaultWrong)

/-- 'laws.FnExactPackLine': WHATEVER THE INPUT: true; the input reads as it did. -/
def fnExactPackLineSpec : ChangeSpec := { name := "fnExactPackLine", fn := fun _ => fun
  | [d] => { results := [.lit (.bool true)], args := [d] }
  | _ => none }
def fnExactPackLineRow : OpenClaim := { program := "ytefkpiameojpoaa", sum := "54fe0c0a19774a731815401c552a37c2a45f13f4281d326a12e2ed2d8c04e2f7", func := "loop.example/g00343/laws.FnExactPackLine", spec := "fnExactPackLine", unfollowed := true, recurses := true, apart := false }
def FnExactPackLineSaid : Prop := fnExactPackLineRow.holds Try.pinned (OpenSpec.ofChange fnExactPackLineSpec)

/-- ITS FALSE NEIGHBOUR: 'it returns false'. Refute it at one input. -/
def fnExactPackLineWrong : ChangeSpec := { name := "fnExactPackLine", fn := fun _ => fun
  | [d] => { results := [.lit (.bool false)], args := [d] }
  | _ => none }
def FnExactPackLineWrongFalsely : Prop := fnExactPackLineRow.holds Try.pinned (OpenSpec.ofChange fnExactPackLineWrong)

/-- 'laws.FnExactJournalFault': WHATEVER THE INPUT: true; the input reads as it did. -/
def fnExactJournalFaultSpec : ChangeSpec := { name := "fnExactJournalFault", fn := fun _ => fun
  | [d] => { results := [.lit (.bool true)], args := [d] }
  | _ => none }
def fnExactJournalFaultRow : OpenClaim := { program := "ytefkpiameojpoaa", sum := "54fe0c0a19774a731815401c552a37c2a45f13f4281d326a12e2ed2d8c04e2f7", func := "loop.example/g00343/laws.FnExactJournalFault", spec := "fnExactJournalFault", unfollowed := true, recurses := true, apart := false }
def FnExactJournalFaultSaid : Prop := fnExactJournalFaultRow.holds Try.pinned (OpenSpec.ofChange fnExactJournalFaultSpec)

/-- ITS FALSE NEIGHBOUR: 'it returns false'. Refute it at one input. -/
def fnExactJournalFaultWrong : ChangeSpec := { name := "fnExactJournalFault", fn := fun _ => fun
  | [d] => { results := [.lit (.bool false)], args := [d] }
  | _ => none }
def FnExactJournalFaultWrongFalsely : Prop := fnExactJournalFaultRow.holds Try.pinned (OpenSpec.ofChange fnExactJournalFaultWrong)

/-- 'laws.FnExactReadLines': WHATEVER THE INPUT: true; the input reads as it did. -/
def fnExactReadLinesSpec : ChangeSpec := { name := "fnExactReadLines", fn := fun _ => fun
  | [d] => { results := [.lit (.bool true)], args := [d] }
  | _ => none }
def fnExactReadLinesRow : OpenClaim := { program := "ytefkpiameojpoaa", sum := "54fe0c0a19774a731815401c552a37c2a45f13f4281d326a12e2ed2d8c04e2f7", func := "loop.example/g00343/laws.FnExactReadLines", spec := "fnExactReadLines", unfollowed := true, recurses := true, apart := false }
def FnExactReadLinesSaid : Prop := fnExactReadLinesRow.holds Try.pinned (OpenSpec.ofChange fnExactReadLinesSpec)

/-- ITS FALSE NEIGHBOUR: 'it returns false'. Refute it at one input. -/
def fnExactReadLinesWrong : ChangeSpec := { name := "fnExactReadLines", fn := fun _ => fun
  | [d] => { results := [.lit (.bool false)], args := [d] }
  | _ => none }
def FnExactReadLinesWrongFalsely : Prop := fnExactReadLinesRow.holds Try.pinned (OpenSpec.ofChange fnExactReadLinesWrong)

/-- 'laws.FnLines': WHATEVER THE INPUT: true; the input reads as it did. -/
def fnLinesSpec : ChangeSpec := { name := "fnLines", fn := fun _ => fun
  | [d] => { results := [.lit (.bool true)], args := [d] }
  | _ => none }
def fnLinesRow : OpenClaim := { program := "ytefkpiameojpoaa", sum := "54fe0c0a19774a731815401c552a37c2a45f13f4281d326a12e2ed2d8c04e2f7", func := "loop.example/g00343/laws.FnLines", spec := "fnLines", unfollowed := true, recurses := true, apart := false }
def FnLinesSaid : Prop := fnLinesRow.holds Try.pinned (OpenSpec.ofChange fnLinesSpec)

/-- ITS FALSE NEIGHBOUR: 'it returns false'. Refute it at one input. -/
def fnLinesWrong : ChangeSpec := { name := "fnLines", fn := fun _ => fun
  | [d] => { results := [.lit (.bool false)], args := [d] }
  | _ => none }
def FnLinesWrongFalsely : Prop := fnLinesRow.holds Try.pinned (OpenSpec.ofChange fnLinesWrong)

/-- 'laws.FnExactSyncJournal': WHATEVER THE INPUT: true; the input reads as it did. -/
def fnExactSyncJournalSpec : ChangeSpec := { name := "fnExactSyncJournal", fn := fun _ => fun
  | [d] => { results := [.lit (.bool true)], args := [d] }
  | _ => none }
def fnExactSyncJournalRow : OpenClaim := { program := "ytefkpiameojpoaa", sum := "54fe0c0a19774a731815401c552a37c2a45f13f4281d326a12e2ed2d8c04e2f7", func := "loop.example/g00343/laws.FnExactSyncJournal", spec := "fnExactSyncJournal", unfollowed := true, recurses := true, apart := false }
def FnExactSyncJournalSaid : Prop := fnExactSyncJournalRow.holds Try.pinned (OpenSpec.ofChange fnExactSyncJournalSpec)

/-- ITS FALSE NEIGHBOUR: 'it returns false'. Refute it at one input. -/
def fnExactSyncJournalWrong : ChangeSpec := { name := "fnExactSyncJournal", fn := fun _ => fun
  | [d] => { results := [.lit (.bool false)], args := [d] }
  | _ => none }
def FnExactSyncJournalWrongFalsely : Prop := fnExactSyncJournalRow.holds Try.pinned (OpenSpec.ofChange fnExactSyncJournalWrong)

/-- 'laws.FnAppends': WHATEVER THE INPUT: true; the input reads as it did. -/
def fnAppendsSpec : ChangeSpec := { name := "fnAppends", fn := fun _ => fun
  | [d] => { results := [.lit (.bool true)], args := [d] }
  | _ => none }
def fnAppendsRow : OpenClaim := { program := "ytefkpiameojpoaa", sum := "54fe0c0a19774a731815401c552a37c2a45f13f4281d326a12e2ed2d8c04e2f7", func := "loop.example/g00343/laws.FnAppends", spec := "fnAppends", unfollowed := true, recurses := true, apart := false }
def FnAppendsSaid : Prop := fnAppendsRow.holds Try.pinned (OpenSpec.ofChange fnAppendsSpec)

/-- ITS FALSE NEIGHBOUR: 'it returns false'. Refute it at one input. -/
def fnAppendsWrong : ChangeSpec := { name := "fnAppends", fn := fun _ => fun
  | [d] => { results := [.lit (.bool false)], args := [d] }
  | _ => none }
def FnAppendsWrongFalsely : Prop := fnAppendsRow.holds Try.pinned (OpenSpec.ofChange fnAppendsWrong)

/-- 'laws.FnTorn': WHATEVER THE INPUT: true; the input reads as it did. -/
def fnTornSpec : ChangeSpec := { name := "fnTorn", fn := fun _ => fun
  | [d] => { results := [.lit (.bool true)], args := [d] }
  | _ => none }
def fnTornRow : OpenClaim := { program := "ytefkpiameojpoaa", sum := "54fe0c0a19774a731815401c552a37c2a45f13f4281d326a12e2ed2d8c04e2f7", func := "loop.example/g00343/laws.FnTorn", spec := "fnTorn", unfollowed := true, recurses := true, apart := false }
def FnTornSaid : Prop := fnTornRow.holds Try.pinned (OpenSpec.ofChange fnTornSpec)

/-- ITS FALSE NEIGHBOUR: 'it returns false'. Refute it at one input. -/
def fnTornWrong : ChangeSpec := { name := "fnTorn", fn := fun _ => fun
  | [d] => { results := [.lit (.bool false)], args := [d] }
  | _ => none }
def FnTornWrongFalsely : Prop := fnTornRow.holds Try.pinned (OpenSpec.ofChange fnTornWrong)

/-- 'laws.FnExactCrashJournal': WHATEVER THE INPUT: true; the input reads as it did. -/
def fnExactCrashJournalSpec : ChangeSpec := { name := "fnExactCrashJournal", fn := fun _ => fun
  | [d1, d2] => { results := [.lit (.bool true)], args := [d1, d2] }
  | _ => none }
def fnExactCrashJournalRow : OpenClaim := { program := "ytefkpiameojpoaa", sum := "54fe0c0a19774a731815401c552a37c2a45f13f4281d326a12e2ed2d8c04e2f7", func := "loop.example/g00343/laws.FnExactCrashJournal", spec := "fnExactCrashJournal", unfollowed := true, recurses := true, apart := false }
def FnExactCrashJournalSaid : Prop := fnExactCrashJournalRow.holds Try.pinned (OpenSpec.ofChange fnExactCrashJournalSpec)

/-- ITS FALSE NEIGHBOUR: 'it returns false'. Refute it at one input. -/
def fnExactCrashJournalWrong : ChangeSpec := { name := "fnExactCrashJournal", fn := fun _ => fun
  | [d1, d2] => { results := [.lit (.bool false)], args := [d1, d2] }
  | _ => none }
def FnExactCrashJournalWrongFalsely : Prop := fnExactCrashJournalRow.holds Try.pinned (OpenSpec.ofChange fnExactCrashJournalWrong)

/-- 'laws.FnExactAppendLine': WHATEVER THE INPUT: true; the input reads as it did. -/
def fnExactAppendLineSpec : ChangeSpec := { name := "fnExactAppendLine", fn := fun _ => fun
  | [d1, d2] => { results := [.lit (.bool true)], args := [d1, d2] }
  | _ => none }
def fnExactAppendLineRow : OpenClaim := { program := "ytefkpiameojpoaa", sum := "54fe0c0a19774a731815401c552a37c2a45f13f4281d326a12e2ed2d8c04e2f7", func := "loop.example/g00343/laws.FnExactAppendLine", spec := "fnExactAppendLine", unfollowed := true, recurses := true, apart := false }
def FnExactAppendLineSaid : Prop := fnExactAppendLineRow.holds Try.pinned (OpenSpec.ofChange fnExactAppendLineSpec)

/-- ITS FALSE NEIGHBOUR: 'it returns false'. Refute it at one input. -/
def fnExactAppendLineWrong : ChangeSpec := { name := "fnExactAppendLine", fn := fun _ => fun
  | [d1, d2] => { results := [.lit (.bool false)], args := [d1, d2] }
  | _ => none }
def FnExactAppendLineWrongFalsely : Prop := fnExactAppendLineRow.holds Try.pinned (OpenSpec.ofChange fnExactAppendLineWrong)

/-- 'laws.FnExactSameEngines': WHATEVER THE INPUT: true; the input reads as it did. -/
def fnExactSameEnginesSpec : ChangeSpec := { name := "fnExactSameEngines", fn := fun _ => fun
  | [d1, d2] => { results := [.lit (.bool true)], args := [d1, d2] }
  | _ => none }
def fnExactSameEnginesRow : OpenClaim := { program := "ytefkpiameojpoaa", sum := "54fe0c0a19774a731815401c552a37c2a45f13f4281d326a12e2ed2d8c04e2f7", func := "loop.example/g00343/laws.FnExactSameEngines", spec := "fnExactSameEngines", unfollowed := true, recurses := true, apart := false }
def FnExactSameEnginesSaid : Prop := fnExactSameEnginesRow.holds Try.pinned (OpenSpec.ofChange fnExactSameEnginesSpec)

/-- ITS FALSE NEIGHBOUR: 'it returns false'. Refute it at one input. -/
def fnExactSameEnginesWrong : ChangeSpec := { name := "fnExactSameEngines", fn := fun _ => fun
  | [d1, d2] => { results := [.lit (.bool false)], args := [d1, d2] }
  | _ => none }
def FnExactSameEnginesWrongFalsely : Prop := fnExactSameEnginesRow.holds Try.pinned (OpenSpec.ofChange fnExactSameEnginesWrong)

/-- 'laws.FnExactSameDesks': WHATEVER THE INPUT: true; the input reads as it did. -/
def fnExactSameDesksSpec : ChangeSpec := { name := "fnExactSameDesks", fn := fun _ => fun
  | [d1, d2] => { results := [.lit (.bool true)], args := [d1, d2] }
  | _ => none }
def fnExactSameDesksRow : OpenClaim := { program := "ytefkpiameojpoaa", sum := "54fe0c0a19774a731815401c552a37c2a45f13f4281d326a12e2ed2d8c04e2f7", func := "loop.example/g00343/laws.FnExactSameDesks", spec := "fnExactSameDesks", unfollowed := true, recurses := true, apart := false }
def FnExactSameDesksSaid : Prop := fnExactSameDesksRow.holds Try.pinned (OpenSpec.ofChange fnExactSameDesksSpec)

/-- ITS FALSE NEIGHBOUR: 'it returns false'. Refute it at one input. -/
def fnExactSameDesksWrong : ChangeSpec := { name := "fnExactSameDesks", fn := fun _ => fun
  | [d1, d2] => { results := [.lit (.bool false)], args := [d1, d2] }
  | _ => none }
def FnExactSameDesksWrongFalsely : Prop := fnExactSameDesksRow.holds Try.pinned (OpenSpec.ofChange fnExactSameDesksWrong)

/- THE SECOND FORM. 'bulk': how many values and letters a reading holds, each counted each time it is reached (what is shared counts as often as it is met; a slice's spare places count too). A statement '..UptoSaid' is the law's where the arguments, and the package variables that the reading takes, are together of bulk at most 1048576: NARROWER than '..Said'. Prove '..Said' where nothing that the law and all that it calls make is longer than what came in: it says more and counts as full. Else prove '..UptoSaid'. A law counts once. -/
mutual
def uptoBulk {H : Type} : DataW H → Nat
  | .lit (.string bytes) => bytes.length + 1
  | .lit _ => 1
  | .nil => 1
  | .ptr d => uptoBulk d + 1
  | .slice elems spare => uptoBulkAll elems + uptoBulkAll spare + 1
  | .agg parts => uptoBulkAll parts + 1
  | .iface _ d => uptoBulk d + 1
  | .map entries => uptoBulkEntries entries + 1
  | .held _ => 1
def uptoBulkAll {H : Type} : List (DataW H) → Nat
  | [] => 0
  | d :: r => uptoBulk d + uptoBulkAll r
def uptoBulkEntries {H : Type} : List (Lit × DataW H) → Nat
  | [] => 0
  | x :: r => uptoBulkEntry x + uptoBulkEntries r
def uptoBulkEntry {H : Type} : Lit × DataW H → Nat
  | (.string bytes, d) => bytes.length + uptoBulk d + 1
  | (_, d) => uptoBulk d + 1
 end
def uptoSmall : (H : Type) → List (DataW H) → Bool := fun _ ds => decide (uptoBulkAll ds ≤ 1048576)
def OpenSpec.upto (s : _root_.Go.ChangeSpec) : _root_.Go.OpenSpec := { _root_.Go.OpenSpec.ofChange s with cond := some uptoSmall }

/-- 'laws.FnExactLineFault', WHERE WHAT IT READS IS OF BULK AT MOST 1048576: true; the input reads as it did. -/
def fnExactLineFaultUptoRow : OpenClaim := { program := "ytefkpiameojpoaa", sum := "54fe0c0a19774a731815401c552a37c2a45f13f4281d326a12e2ed2d8c04e2f7", func := "loop.example/g00343/laws.FnExactLineFault", spec := "fnExactLineFault", unfollowed := true, recurses := true, apart := false, narrowed := true }
def FnExactLineFaultUptoSaid : Prop := fnExactLineFaultUptoRow.holds Try.pinned (OpenSpec.upto fnExactLineFaultSpec)

/-- 'laws.FnExactSameCharts', WHERE WHAT IT READS IS OF BULK AT MOST 1048576: true; the input reads as it did. -/
def fnExactSameChartsUptoRow : OpenClaim := { program := "ytefkpiameojpoaa", sum := "54fe0c0a19774a731815401c552a37c2a45f13f4281d326a12e2ed2d8c04e2f7", func := "loop.example/g00343/laws.FnExactSameCharts", spec := "fnExactSameCharts", apart := false, narrowed := true }
def FnExactSameChartsUptoSaid : Prop := fnExactSameChartsUptoRow.holds Try.pinned (OpenSpec.upto fnExactSameChartsSpec)

/-- 'laws.FnExactSameRuns', WHERE WHAT IT READS IS OF BULK AT MOST 1048576: true; the input reads as it did. -/
def fnExactSameRunsUptoRow : OpenClaim := { program := "ytefkpiameojpoaa", sum := "54fe0c0a19774a731815401c552a37c2a45f13f4281d326a12e2ed2d8c04e2f7", func := "loop.example/g00343/laws.FnExactSameRuns", spec := "fnExactSameRuns", apart := false, narrowed := true }
def FnExactSameRunsUptoSaid : Prop := fnExactSameRunsUptoRow.holds Try.pinned (OpenSpec.upto fnExactSameRunsSpec)

/-- 'laws.FnExactActFault', WHERE WHAT IT READS IS OF BULK AT MOST 1048576: true; the input reads as it did. -/
def fnExactActFaultUptoRow : OpenClaim := { program := "ytefkpiameojpoaa", sum := "54fe0c0a19774a731815401c552a37c2a45f13f4281d326a12e2ed2d8c04e2f7", func := "loop.example/g00343/laws.FnExactActFault", spec := "fnExactActFault", unfollowed := true, recurses := true, apart := false, narrowed := true }
def FnExactActFaultUptoSaid : Prop := fnExactActFaultUptoRow.holds Try.pinned (OpenSpec.upto fnExactActFaultSpec)

/-- 'laws.FnExactPackLine', WHERE WHAT IT READS IS OF BULK AT MOST 1048576: true; the input reads as it did. -/
def fnExactPackLineUptoRow : OpenClaim := { program := "ytefkpiameojpoaa", sum := "54fe0c0a19774a731815401c552a37c2a45f13f4281d326a12e2ed2d8c04e2f7", func := "loop.example/g00343/laws.FnExactPackLine", spec := "fnExactPackLine", unfollowed := true, recurses := true, apart := false, narrowed := true }
def FnExactPackLineUptoSaid : Prop := fnExactPackLineUptoRow.holds Try.pinned (OpenSpec.upto fnExactPackLineSpec)

/-- 'laws.FnExactJournalFault', WHERE WHAT IT READS IS OF BULK AT MOST 1048576: true; the input reads as it did. -/
def fnExactJournalFaultUptoRow : OpenClaim := { program := "ytefkpiameojpoaa", sum := "54fe0c0a19774a731815401c552a37c2a45f13f4281d326a12e2ed2d8c04e2f7", func := "loop.example/g00343/laws.FnExactJournalFault", spec := "fnExactJournalFault", unfollowed := true, recurses := true, apart := false, narrowed := true }
def FnExactJournalFaultUptoSaid : Prop := fnExactJournalFaultUptoRow.holds Try.pinned (OpenSpec.upto fnExactJournalFaultSpec)

/-- 'laws.FnExactReadLines', WHERE WHAT IT READS IS OF BULK AT MOST 1048576: true; the input reads as it did. -/
def fnExactReadLinesUptoRow : OpenClaim := { program := "ytefkpiameojpoaa", sum := "54fe0c0a19774a731815401c552a37c2a45f13f4281d326a12e2ed2d8c04e2f7", func := "loop.example/g00343/laws.FnExactReadLines", spec := "fnExactReadLines", unfollowed := true, recurses := true, apart := false, narrowed := true }
def FnExactReadLinesUptoSaid : Prop := fnExactReadLinesUptoRow.holds Try.pinned (OpenSpec.upto fnExactReadLinesSpec)

/-- 'laws.FnLines', WHERE WHAT IT READS IS OF BULK AT MOST 1048576: true; the input reads as it did. -/
def fnLinesUptoRow : OpenClaim := { program := "ytefkpiameojpoaa", sum := "54fe0c0a19774a731815401c552a37c2a45f13f4281d326a12e2ed2d8c04e2f7", func := "loop.example/g00343/laws.FnLines", spec := "fnLines", unfollowed := true, recurses := true, apart := false, narrowed := true }
def FnLinesUptoSaid : Prop := fnLinesUptoRow.holds Try.pinned (OpenSpec.upto fnLinesSpec)

/-- 'laws.FnExactSyncJournal', WHERE WHAT IT READS IS OF BULK AT MOST 1048576: true; the input reads as it did. -/
def fnExactSyncJournalUptoRow : OpenClaim := { program := "ytefkpiameojpoaa", sum := "54fe0c0a19774a731815401c552a37c2a45f13f4281d326a12e2ed2d8c04e2f7", func := "loop.example/g00343/laws.FnExactSyncJournal", spec := "fnExactSyncJournal", unfollowed := true, recurses := true, apart := false, narrowed := true }
def FnExactSyncJournalUptoSaid : Prop := fnExactSyncJournalUptoRow.holds Try.pinned (OpenSpec.upto fnExactSyncJournalSpec)

/-- 'laws.FnAppends', WHERE WHAT IT READS IS OF BULK AT MOST 1048576: true; the input reads as it did. -/
def fnAppendsUptoRow : OpenClaim := { program := "ytefkpiameojpoaa", sum := "54fe0c0a19774a731815401c552a37c2a45f13f4281d326a12e2ed2d8c04e2f7", func := "loop.example/g00343/laws.FnAppends", spec := "fnAppends", unfollowed := true, recurses := true, apart := false, narrowed := true }
def FnAppendsUptoSaid : Prop := fnAppendsUptoRow.holds Try.pinned (OpenSpec.upto fnAppendsSpec)

/-- 'laws.FnTorn', WHERE WHAT IT READS IS OF BULK AT MOST 1048576: true; the input reads as it did. -/
def fnTornUptoRow : OpenClaim := { program := "ytefkpiameojpoaa", sum := "54fe0c0a19774a731815401c552a37c2a45f13f4281d326a12e2ed2d8c04e2f7", func := "loop.example/g00343/laws.FnTorn", spec := "fnTorn", unfollowed := true, recurses := true, apart := false, narrowed := true }
def FnTornUptoSaid : Prop := fnTornUptoRow.holds Try.pinned (OpenSpec.upto fnTornSpec)

/-- 'laws.FnExactCrashJournal', WHERE WHAT IT READS IS OF BULK AT MOST 1048576: true; the input reads as it did. -/
def fnExactCrashJournalUptoRow : OpenClaim := { program := "ytefkpiameojpoaa", sum := "54fe0c0a19774a731815401c552a37c2a45f13f4281d326a12e2ed2d8c04e2f7", func := "loop.example/g00343/laws.FnExactCrashJournal", spec := "fnExactCrashJournal", unfollowed := true, recurses := true, apart := false, narrowed := true }
def FnExactCrashJournalUptoSaid : Prop := fnExactCrashJournalUptoRow.holds Try.pinned (OpenSpec.upto fnExactCrashJournalSpec)

/-- 'laws.FnExactAppendLine', WHERE WHAT IT READS IS OF BULK AT MOST 1048576: true; the input reads as it did. -/
def fnExactAppendLineUptoRow : OpenClaim := { program := "ytefkpiameojpoaa", sum := "54fe0c0a19774a731815401c552a37c2a45f13f4281d326a12e2ed2d8c04e2f7", func := "loop.example/g00343/laws.FnExactAppendLine", spec := "fnExactAppendLine", unfollowed := true, recurses := true, apart := false, narrowed := true }
def FnExactAppendLineUptoSaid : Prop := fnExactAppendLineUptoRow.holds Try.pinned (OpenSpec.upto fnExactAppendLineSpec)

/-- 'laws.FnExactSameEngines', WHERE WHAT IT READS IS OF BULK AT MOST 1048576: true; the input reads as it did. -/
def fnExactSameEnginesUptoRow : OpenClaim := { program := "ytefkpiameojpoaa", sum := "54fe0c0a19774a731815401c552a37c2a45f13f4281d326a12e2ed2d8c04e2f7", func := "loop.example/g00343/laws.FnExactSameEngines", spec := "fnExactSameEngines", unfollowed := true, recurses := true, apart := false, narrowed := true }
def FnExactSameEnginesUptoSaid : Prop := fnExactSameEnginesUptoRow.holds Try.pinned (OpenSpec.upto fnExactSameEnginesSpec)

/-- 'laws.FnExactSameDesks', WHERE WHAT IT READS IS OF BULK AT MOST 1048576: true; the input reads as it did. -/
def fnExactSameDesksUptoRow : OpenClaim := { program := "ytefkpiameojpoaa", sum := "54fe0c0a19774a731815401c552a37c2a45f13f4281d326a12e2ed2d8c04e2f7", func := "loop.example/g00343/laws.FnExactSameDesks", spec := "fnExactSameDesks", unfollowed := true, recurses := true, apart := false, narrowed := true }
def FnExactSameDesksUptoSaid : Prop := fnExactSameDesksUptoRow.holds Try.pinned (OpenSpec.upto fnExactSameDesksSpec)

end Rows
end Go.Proofs.Ytefkpiameojpoaa
