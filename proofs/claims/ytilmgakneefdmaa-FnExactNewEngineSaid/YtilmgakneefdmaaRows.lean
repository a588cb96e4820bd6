/-
  No cell of these rows narrows 'for every input' (looked for: loops, veiled, ifaces, maps, wideKeys, modest, calm, conditions, laid).
  DERIVED. THE GIVEN ROWS OF THIS SEAT. 4 by the template 'for every input the law returns true; each argument reads behind the call as it read before'; 0 by the template 'total and deterministic' (their statements: YtilmgakneefdmaaTotals.lean).
  GIVEN WITH THE SEED: the statements are not yours to turn. If you find one false, say at which input.
  Laid BY PROGRAM, IN A SANDBOX (cutbox-rows.mjs): the forced cells as the released guide's own fill.sh prints them over the translation 2a42678d7218bde1… (all of the seat's roots in one cut). By AI agents, Wed Nov 11 2026. No macro, syntax, notation, axiom, sorry.
-/
import Derived.Test.YtilmgakneefdmaaChecked
import GoSem.Claim
import GoSem.ClaimJoined
import GoSem.ClaimMapViews
import Derived.JoinedTies
import Derived.KernelRfl
namespace Go.Proofs.Ytilmgakneefdmaa
/- THE CELL 'sum', in the pinned program and in every row, IS THE sha256 OF THE DUMP (.gsa) THAT YtilmgakneefdmaaProg.lean LOADS. Nothing in Lean hashes anything: it is a label: what it is worth is what the hold of that sum in a sandbox is worth. -/
noncomputable def Try.pinned : Pinned := { name := "ytilmgakneefdmaa", sum := "2a42678d7218bde15f1e3746fbe167ffe655f5247e45c85bdd547e2474addf5c", checked := Try.checked }
namespace Rows
def none {H : Type} : Left H := { results := [], args := [] }

/-- 'laws.FnExactChartFault': WHATEVER THE INPUT: true; the input reads as it did. -/
def fnExactChartFaultSpec : ChangeSpec := { name := "fnExactChartFault", fn := fun _ => fun
  | [d1, d2] => { results := [.lit (.bool true)], args := [d1, d2] }
  | _ => none }
def fnExactChartFaultRow : OpenClaim := { program := "ytilmgakneefdmaa", sum := "2a42678d7218bde15f1e3746fbe167ffe655f5247e45c85bdd547e2474addf5c", func := "loop.example/g00343/laws.FnExactChartFault", spec := "fnExactChartFault", unfollowed := true, recurses := true, apart := false }
def FnExactChartFaultSaid : Prop := fnExactChartFaultRow.holds Try.pinned (OpenSpec.ofChange fnExactChartFaultSpec)

/-- ITS FALSE NEIGHBOUR: 'it returns false'. Refute it at one input. -/
def fnExactChartFaultWrong : ChangeSpec := { name := "fnExactChartFault", fn := fun _ => fun
  | [d1, d2] => { results := [.lit (.bool false)], args := [d1, d2] }
  | _ => none }
def FnExactChartFaultWrongFalsely : Prop := fnExactChartFaultRow.holds Try.pinned (OpenSpec.ofChange fnExactChartFaultWrong)

/-- 'laws.FnExactOpenSteps': WHATEVER THE INPUT: true; the input reads as it did. -/
def fnExactOpenStepsSpec : ChangeSpec := { name := "fnExactOpenSteps", fn := fun _ => fun
  | [d1, d2] => { results := [.lit (.bool true)], args := [d1, d2] }
  | _ => none }
def fnExactOpenStepsRow : OpenClaim := { program := "ytilmgakneefdmaa", sum := "2a42678d7218bde15f1e3746fbe167ffe655f5247e45c85bdd547e2474addf5c", func := "loop.example/g00343/laws.FnExactOpenSteps", spec := "fnExactOpenSteps", unfollowed := true, recurses := true, apart := false }
def FnExactOpenStepsSaid : Prop := fnExactOpenStepsRow.holds Try.pinned (OpenSpec.ofChange fnExactOpenStepsSpec)

/-- ITS FALSE NEIGHBOUR: 'it returns false'. Refute it at one input. -/
def fnExactOpenStepsWrong : ChangeSpec := { name := "fnExactOpenSteps", fn := fun _ => fun
  | [d1, d2] => { results := [.lit (.bool false)], args := [d1, d2] }
  | _ => none }
def FnExactOpenStepsWrongFalsely : Prop := fnExactOpenStepsRow.holds Try.pinned (OpenSpec.ofChange fnExactOpenStepsWrong)

/-- 'laws.FnExactNewEngine': WHATEVER THE INPUT: true; the input reads as it did. -/
def fnExactNewEngineSpec : ChangeSpec := { name := "fnExactNewEngine", fn := fun _ => fun
  | [d] => { results := [.lit (.bool true)], args := [d] }
  | _ => none }
def fnExactNewEngineRow : OpenClaim := { program := "ytilmgakneefdmaa", sum := "2a42678d7218bde15f1e3746fbe167ffe655f5247e45c85bdd547e2474addf5c", func := "loop.example/g00343/laws.FnExactNewEngine", spec := "fnExactNewEngine", unfollowed := true, recurses := true, apart := false }
def FnExactNewEngineSaid : Prop := fnExactNewEngineRow.holds Try.pinned (OpenSpec.ofChange fnExactNewEngineSpec)

/-- ITS FALSE NEIGHBOUR: 'it returns false'. Refute it at one input. -/
def fnExactNewEngineWrong : ChangeSpec := { name := "fnExactNewEngine", fn := fun _ => fun
  | [d] => { results := [.lit (.bool false)], args := [d] }
  | _ => none }
def FnExactNewEngineWrongFalsely : Prop := fnExactNewEngineRow.holds Try.pinned (OpenSpec.ofChange fnExactNewEngineWrong)

/-- 'laws.FnExactEngineFault': WHATEVER THE INPUT: true; the input reads as it did. -/
def fnExactEngineFaultSpec : ChangeSpec := { name := "fnExactEngineFault", fn := fun _ => fun
  | [d] => { results := [.lit (.bool true)], args := [d] }
  | _ => none }
def fnExactEngineFaultRow : OpenClaim := { program := "ytilmgakneefdmaa", sum := "2a42678d7218bde15f1e3746fbe167ffe655f5247e45c85bdd547e2474addf5c", func := "loop.example/g00343/laws.FnExactEngineFault", spec := "fnExactEngineFault", unfollowed := true, recurses := true, apart := false }
def FnExactEngineFaultSaid : Prop := fnExactEngineFaultRow.holds Try.pinned (OpenSpec.ofChange fnExactEngineFaultSpec)

/-- ITS FALSE NEIGHBOUR: 'it returns false'. Refute it at one input. -/
def fnExactEngineFaultWrong : ChangeSpec := { name := "fnExactEngineFault", fn := fun _ => fun
  | [d] => { results := [.lit (.bool false)], args := [d] }
  | _ => none }
def FnExactEngineFaultWrongFalsely : Prop := fnExactEngineFaultRow.holds Try.pinned (OpenSpec.ofChange fnExactEngineFaultWrong)

/- THE SECOND FORM. 'bulk': how many values and letters a reading holds, each counted each time it is reached (what is shared counts as often as it is met; a slice's spare places count too). A statement '..UptoSaid' is the law's where the arguments, and the package variables that the reading takes, are together of bulk at most 1048576: NARROWER than '..Said'. Prove '..Said' where nothing that the law and all that it calls make is longer than what came in: it says more and counts as full. Else prove '..UptoSaid'. A law counts once. -/
mutual
def uptoBulk {H : Type} : DataW H → Nat
  | .lit (.string bytes) => bytes.length + 1
  | .lit _ => 1
  | .nil => 1
  | .ptr d => uptoBulk d + 1
  | .slice elems spare => uptoBulkAll elems + uptoBulkAll spare + 1
  | .agg parts => uptoBulkAll parts + 1
  | .iface _ d => uptoBulk d + 1
  | .map entries => uptoBulkEntries entries + 1
  | .held _ => 1
def uptoBulkAll {H : Type} : List (DataW H) → Nat
  | [] => 0
  | d :: r => uptoBulk d + uptoBulkAll r
def uptoBulkEntries {H : Type} : List (Lit × DataW H) → Nat
  | [] => 0
  | x :: r => uptoBulkEntry x + uptoBulkEntries r
def uptoBulkEntry {H : Type} : Lit × DataW H → Nat
  | (.string bytes, d) => bytes.length + uptoBulk d + 1
  | (_, d) => uptoBulk d + 1
 end
def uptoSmall : (H : Type) → List (DataW H) → Bool := fun _ ds => decide (uptoBulkAll ds ≤ 1048576)
def OpenSpec.upto (s : _root_.Go.ChangeSpec) : _root_.Go.OpenSpec := { _root_.Go.OpenSpec.ofChange s with cond := some uptoSmall }

/-- 'laws.FnExactChartFault', WHERE WHAT IT READS IS OF BULK AT MOST 1048576: true; the input reads as it did. -/
def fnExactChartFaultUptoRow : OpenClaim := { program := "ytilmgakneefdmaa", sum := "2a42678d7218bde15f1e3746fbe167ffe655f5247e45c85bdd547e2474addf5c", func := "loop.example/g00343/laws.FnExactChartFault", spec := "fnExactChartFault", unfollowed := true, recurses := true, apart := false, narrowed := true }
def FnExactChartFaultUptoSaid : Prop := fnExactChartFaultUptoRow.holds Try.pinned (OpenSpec.upto fnExactChartFaultSpec)

/-- 'laws.FnExactOpenSteps', WHERE WHAT IT READS IS OF BULK AT MOST 1048576: true; the input reads as it did. -/
def fnExactOpenStepsUptoRow : OpenClaim := { program := "ytilmgakneefdmaa", sum := "2a42678d7218bde15f1e3746fbe167ffe655f5247e45c85bdd547e2474addf5c", func := "loop.example/g00343/laws.FnExactOpenSteps", spec := "fnExactOpenSteps", unfollowed := true, recurses := true, apart := false, narrowed := true }
def FnExactOpenStepsUptoSaid : Prop := fnExactOpenStepsUptoRow.holds Try.pinned (OpenSpec.upto fnExactOpenStepsSpec)

/-- 'laws.FnExactNewEngine', WHERE WHAT IT READS IS OF BULK AT MOST 1048576: true; the input reads as it did. -/
def fnExactNewEngineUptoRow : OpenClaim := { program := "ytilmgakneefdmaa", sum := "2a42678d7218bde15f1e3746fbe167ffe655f5247e45c85bdd547e2474addf5c", func := "loop.example/g00343/laws.FnExactNewEngine", spec := "fnExactNewEngine", unfollowed := true, recurses := true, apart := false, narrowed := true }
def FnExactNewEngineUptoSaid : Prop := fnExactNewEngineUptoRow.holds Try.pinned (OpenSpec.upto fnExactNewEngineSpec)

/-- 'laws.FnExactEngineFault', WHERE WHAT IT READS IS OF BULK AT MOST 1048576: true; the input reads as it did. -/
def fnExactEngineFaultUptoRow : OpenClaim := { program := "ytilmgakneefdmaa", sum := "2a42678d7218bde15f1e3746fbe167ffe655f5247e45c85bdd547e2474addf5c", func := "loop.example/g00343/laws.FnExactEngineFault", spec := "fnExactEngineFault", unfollowed := true, recurses := true, apart := false, narrowed := true }
def FnExactEngineFaultUptoSaid : Prop := fnExactEngineFaultUptoRow.holds Try.pinned (OpenSpec.upto fnExactEngineFaultSpec)

end Rows
end Go.Proofs.Ytilmgakneefdmaa
