/-
  No cell of these rows narrows 'for every input' (looked for: loops, veiled, ifaces, maps, wideKeys, modest, calm, conditions, laid).
  DERIVED. THE GIVEN ROWS OF THIS SEAT. 5 by the template 'for every input the law returns true; each argument reads behind the call as it read before'; 0 by the template 'total and deterministic' (their statements: YtilmgakneefdmaaGreatTotals.lean).
  GIVEN WITH THE SEED: the statements are not yours to turn. If you find one false, say at which input.
  Laid BY PROGRAM, IN A SANDBOX (cutbox-rows.mjs): the forced cells as the released guide's own fill.sh prints them over the translation 229294ef20b1399b… (all of the seat's roots in one cut). By AI agents, Wed Nov 11 2026. No macro, syntax, notation, axiom, sorry.
-/
import Derived.Test.YtilmgakneefdmaaGreatChecked
import GoSem.Claim
import GoSem.ClaimJoined
import GoSem.ClaimMapViews
import Derived.JoinedTies
import Derived.KernelRfl
namespace Go.Proofs.YtilmgakneefdmaaGreat
/- THE CELL 'sum', in the pinned program and in every row, IS THE sha256 OF THE DUMP (.gsa) THAT YtilmgakneefdmaaGreatProg.lean LOADS. Nothing in Lean hashes anything: it is a label: what it is worth is what the hold of that sum in a sandbox is worth. -/
noncomputable def Tryz.pinned : Pinned := { name := "ytilmgakneefdmaagreat", sum := "229294ef20b1399bae2617b919217c18dab8cb700306669a02af3cc26ccc8346", checked := Tryz.checked }
namespace Rows
def none {H : Type} : Left H := { results := [], args := [] }

/-- 'laws.FnExactNewWorld': WHATEVER THE INPUT: true; the input reads as it did. -/
def fnExactNewWorldSpec : ChangeSpec := { name := "fnExactNewWorld", fn := fun _ => fun
  | [d] => { results := [.lit (.bool true)], args := [d] }
  | _ => none }
def fnExactNewWorldRow : OpenClaim := { program := "ytilmgakneefdmaagreat", sum := "229294ef20b1399bae2617b919217c18dab8cb700306669a02af3cc26ccc8346", func := "loop.example/g00343/laws.FnExactNewWorld", spec := "fnExactNewWorld", unfollowed := true, recurses := true, apart := false }
def FnExactNewWorldSaid : Prop := fnExactNewWorldRow.holds Tryz.pinned (OpenSpec.ofChange fnExactNewWorldSpec)

/-- ITS FALSE NEIGHBOUR: 'it returns false'. Refute it at one input. -/
def fnExactNewWorldWrong : ChangeSpec := { name := "fnExactNewWorld", fn := fun _ => fun
  | [d] => { results := [.lit (.bool false)], args := [d] }
  | _ => none }
def FnExactNewWorldWrongFalsely : Prop := fnExactNewWorldRow.holds Tryz.pinned (OpenSpec.ofChange fnExactNewWorldWrong)

/-- 'laws.FnExactDeskFault': WHATEVER THE INPUT: true; the input reads as it did. -/
def fnExactDeskFaultSpec : ChangeSpec := { name := "fnExactDeskFault", fn := fun _ => fun
  | [d] => { results := [.lit (.bool true)], args := [d] }
  | _ => none }
def fnExactDeskFaultRow : OpenClaim := { program := "ytilmgakneefdmaagreat", sum := "229294ef20b1399bae2617b919217c18dab8cb700306669a02af3cc26ccc8346", func := "loop.example/g00343/laws.FnExactDeskFault", spec := "fnExactDeskFault", unfollowed := true, recurses := true, apart := false }
def FnExactDeskFaultSaid : Prop := fnExactDeskFaultRow.holds Tryz.pinned (OpenSpec.ofChange fnExactDeskFaultSpec)

/-- ITS FALSE NEIGHBOUR: 'it returns false'. Refute it at one input. -/
def fnExactDeskFaultWrong : ChangeSpec := { name := "fnExactDeskFault", fn := fun _ => fun
  | [d] => { results := [.lit (.bool false)], args := [d] }
  | _ => none }
def FnExactDeskFaultWrongFalsely : Prop := fnExactDeskFaultRow.holds Tryz.pinned (OpenSpec.ofChange fnExactDeskFaultWrong)

/-- 'laws.FnExactDropInst': WHATEVER THE INPUT: true; the input reads as it did. -/
def fnExactDropInstSpec : ChangeSpec := { name := "fnExactDropInst", fn := fun _ => fun
  | [d1, d2] => { results := [.lit (.bool true)], args := [d1, d2] }
  | _ => none }
def fnExactDropInstRow : OpenClaim := { program := "ytilmgakneefdmaagreat", sum := "229294ef20b1399bae2617b919217c18dab8cb700306669a02af3cc26ccc8346", func := "loop.example/g00343/laws.FnExactDropInst", spec := "fnExactDropInst", unfollowed := true, recurses := true, apart := false }
def FnExactDropInstSaid : Prop := fnExactDropInstRow.holds Tryz.pinned (OpenSpec.ofChange fnExactDropInstSpec)

/-- ITS FALSE NEIGHBOUR: 'it returns false'. Refute it at one input. -/
def fnExactDropInstWrong : ChangeSpec := { name := "fnExactDropInst", fn := fun _ => fun
  | [d1, d2] => { results := [.lit (.bool false)], args := [d1, d2] }
  | _ => none }
def FnExactDropInstWrongFalsely : Prop := fnExactDropInstRow.holds Tryz.pinned (OpenSpec.ofChange fnExactDropInstWrong)

/-- 'laws.FnExactClaimsOf': WHATEVER THE INPUT: true; the input reads as it did. -/
def fnExactClaimsOfSpec : ChangeSpec := { name := "fnExactClaimsOf", fn := fun _ => fun
  | [d1, d2] => { results := [.lit (.bool true)], args := [d1, d2] }
  | _ => none }
def fnExactClaimsOfRow : OpenClaim := { program := "ytilmgakneefdmaagreat", sum := "229294ef20b1399bae2617b919217c18dab8cb700306669a02af3cc26ccc8346", func := "loop.example/g00343/laws.FnExactClaimsOf", spec := "fnExactClaimsOf", unfollowed := true, recurses := true, apart := false }
def FnExactClaimsOfSaid : Prop := fnExactClaimsOfRow.holds Tryz.pinned (OpenSpec.ofChange fnExactClaimsOfSpec)

/-- ITS FALSE NEIGHBOUR: 'it returns false'. Refute it at one input. -/
def fnExactClaimsOfWrong : ChangeSpec := { name := "fnExactClaimsOf", fn := fun _ => fun
  | [d1, d2] => { results := [.lit (.bool false)], args := [d1, d2] }
  | _ => none }
def FnExactClaimsOfWrongFalsely : Prop := fnExactClaimsOfRow.holds Tryz.pinned (OpenSpec.ofChange fnExactClaimsOfWrong)

/-- 'laws.FnExactOfferedAt': WHATEVER THE INPUT: true; the input reads as it did. -/
def fnExactOfferedAtSpec : ChangeSpec := { name := "fnExactOfferedAt", fn := fun _ => fun
  | [d] => { results := [.lit (.bool true)], args := [d] }
  | _ => none }
def fnExactOfferedAtRow : OpenClaim := { program := "ytilmgakneefdmaagreat", sum := "229294ef20b1399bae2617b919217c18dab8cb700306669a02af3cc26ccc8346", func := "loop.example/g00343/laws.FnExactOfferedAt", spec := "fnExactOfferedAt", unfollowed := true, recurses := true, apart := false }
def FnExactOfferedAtSaid : Prop := fnExactOfferedAtRow.holds Tryz.pinned (OpenSpec.ofChange fnExactOfferedAtSpec)

/-- ITS FALSE NEIGHBOUR: 'it returns false'. Refute it at one input. -/
def fnExactOfferedAtWrong : ChangeSpec := { name := "fnExactOfferedAt", fn := fun _ => fun
  | [d] => { results := [.lit (.bool false)], args := [d] }
  | _ => none }
def FnExactOfferedAtWrongFalsely : Prop := fnExactOfferedAtRow.holds Tryz.pinned (OpenSpec.ofChange fnExactOfferedAtWrong)

/- THE SECOND FORM. 'bulk': how many values and letters a reading holds, each counted each time it is reached (what is shared counts as often as it is met; a slice's spare places count too). A statement '..UptoSaid' is the law's where the arguments, and the package variables that the reading takes, are together of bulk at most 1048576: NARROWER than '..Said'. Prove '..Said' where nothing that the law and all that it calls make is longer than what came in: it says more and counts as full. Else prove '..UptoSaid'. A law counts once. -/
mutual
def uptoBulk {H : Type} : DataW H → Nat
  | .lit (.string bytes) => bytes.length + 1
  | .lit _ => 1
  | .nil => 1
  | .ptr d => uptoBulk d + 1
  | .slice elems spare => uptoBulkAll elems + uptoBulkAll spare + 1
  | .agg parts => uptoBulkAll parts + 1
  | .iface _ d => uptoBulk d + 1
  | .map entries => uptoBulkEntries entries + 1
  | .held _ => 1
def uptoBulkAll {H : Type} : List (DataW H) → Nat
  | [] => 0
  | d :: r => uptoBulk d + uptoBulkAll r
def uptoBulkEntries {H : Type} : List (Lit × DataW H) → Nat
  | [] => 0
  | x :: r => uptoBulkEntry x + uptoBulkEntries r
def uptoBulkEntry {H : Type} : Lit × DataW H → Nat
  | (.string bytes, d) => bytes.length + uptoBulk d + 1
  | (_, d) => uptoBulk d + 1
 end
def uptoSmall : (H : Type) → List (DataW H) → Bool := fun _ ds => decide (uptoBulkAll ds ≤ 1048576)
def OpenSpec.upto (s : _root_.Go.ChangeSpec) : _root_.Go.OpenSpec := { _root_.Go.OpenSpec.ofChange s with cond := some uptoSmall }

/-- 'laws.FnExactNewWorld', WHERE WHAT IT READS IS OF BULK AT MOST 1048576: true; the input reads as it did. -/
def fnExactNewWorldUptoRow : OpenClaim := { program := "ytilmgakneefdmaagreat", sum := "229294ef20b1399bae2617b919217c18dab8cb700306669a02af3cc26ccc8346", func := "loop.example/g00343/laws.FnExactNewWorld", spec := "fnExactNewWorld", unfollowed := true, recurses := true, apart := false, narrowed := true }
def FnExactNewWorldUptoSaid : Prop := fnExactNewWorldUptoRow.holds Tryz.pinned (OpenSpec.upto fnExactNewWorldSpec)

/-- 'laws.FnExactDeskFault', WHERE WHAT IT READS IS OF BULK AT MOST 1048576: true; the input reads as it did. -/
def fnExactDeskFaultUptoRow : OpenClaim := { program := "ytilmgakneefdmaagreat", sum := "229294ef20b1399bae2617b919217c18dab8cb700306669a02af3cc26ccc8346", func := "loop.example/g00343/laws.FnExactDeskFault", spec := "fnExactDeskFault", unfollowed := true, recurses := true, apart := false, narrowed := true }
def FnExactDeskFaultUptoSaid : Prop := fnExactDeskFaultUptoRow.holds Tryz.pinned (OpenSpec.upto fnExactDeskFaultSpec)

/-- 'laws.FnExactDropInst', WHERE WHAT IT READS IS OF BULK AT MOST 1048576: true; the input reads as it did. -/
def fnExactDropInstUptoRow : OpenClaim := { program := "ytilmgakneefdmaagreat", sum := "229294ef20b1399bae2617b919217c18dab8cb700306669a02af3cc26ccc8346", func := "loop.example/g00343/laws.FnExactDropInst", spec := "fnExactDropInst", unfollowed := true, recurses := true, apart := false, narrowed := true }
def FnExactDropInstUptoSaid : Prop := fnExactDropInstUptoRow.holds Tryz.pinned (OpenSpec.upto fnExactDropInstSpec)

/-- 'laws.FnExactClaimsOf', WHERE WHAT IT READS IS OF BULK AT MOST 1048576: true; the input reads as it did. -/
def fnExactClaimsOfUptoRow : OpenClaim := { program := "ytilmgakneefdmaagreat", sum := "229294ef20b1399bae2617b919217c18dab8cb700306669a02af3cc26ccc8346", func := "loop.example/g00343/laws.FnExactClaimsOf", spec := "fnExactClaimsOf", unfollowed := true, recurses := true, apart := false, narrowed := true }
def FnExactClaimsOfUptoSaid : Prop := fnExactClaimsOfUptoRow.holds Tryz.pinned (OpenSpec.upto fnExactClaimsOfSpec)

/-- 'laws.FnExactOfferedAt', WHERE WHAT IT READS IS OF BULK AT MOST 1048576: true; the input reads as it did. -/
def fnExactOfferedAtUptoRow : OpenClaim := { program := "ytilmgakneefdmaagreat", sum := "229294ef20b1399bae2617b919217c18dab8cb700306669a02af3cc26ccc8346", func := "loop.example/g00343/laws.FnExactOfferedAt", spec := "fnExactOfferedAt", unfollowed := true, recurses := true, apart := false, narrowed := true }
def FnExactOfferedAtUptoSaid : Prop := fnExactOfferedAtUptoRow.holds Tryz.pinned (OpenSpec.upto fnExactOfferedAtSpec)

end Rows
end Go.Proofs.YtilmgakneefdmaaGreat
