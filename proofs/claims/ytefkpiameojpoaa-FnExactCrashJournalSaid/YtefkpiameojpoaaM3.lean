/- Walks. -/
import Derived.Test.YtefkpiameojpoaaM1
import Derived.Test.YtefkpiameojpoaaPj
set_option linter.unusedVariables false
set_option linter.unusedSimpArgs false
namespace Go.AM
open Go.Proofs

set_option maxHeartbeats 600000 in
set_option linter.unusedSimpArgs false in
set_option maxRecDepth 100000 in
/-- laws.markJournal -/
theorem dc_laws_markJournal_oo (sure : List UInt8) (loose : List UInt8) (k : Int) (hk : 0 ≤ k ∧ k + sure.length + loose.length ≤ 4611686018427387904) : DC Try.prog 60 [.agg [.osl 1 (sure.map B1), .osl 1 (loose.map B1)], .int .i64 k] (.int .i64 (k + sure.length + loose.length)) [(0, .agg [.osl 1 ((mkL b8 sure.length (k)).map B1), .osl 1 ((mkL b8 loose.length (k + sure.length)).map B1)])] := by
  refine DC.intro tiOk Try.func60 rfl rfl rfl rfl rfl rfl rfl (by simp [noW, noWo]) [] ?_
  refine AW.reg tiOk (fun _ => []) [0, 1, 2] ?_
  intro k hk; simp -dsimp [go_sem, -decide_eq_true_eq, -decide_eq_false_iff_not]
  repeat' (first | refine And.intro ?_ ?_ | refine hk _ ?_ | intro hg | omega | exact True.intro)
  all_goals clear hk k
  refine AW.reg tiOk (fun _ => [0]) [0, 1, 2] ?_
  intro k hk; simp -dsimp (maxSteps := 2000000) [go_sem, -decide_eq_true_eq, -decide_eq_false_iff_not]
  repeat' (first | refine And.intro ?_ ?_ | refine hk _ ?_ | intro hg | (refine CallK.intro (dc_laws_markByteS _ _ (by constructor <;> omega)) ?_; simp -dsimp (maxSteps := 2000000) [go_sem, -decide_eq_true_eq, -decide_eq_false_iff_not]) | (refine CallK.intro (dc_laws_markByteS_nil _) ?_; simp -dsimp (maxSteps := 2000000) [go_sem, -decide_eq_true_eq, -decide_eq_false_iff_not]) | omega | exact True.intro)
  all_goals clear hk k
  refine AW.reg tiOk (fun _ => [0]) [0, 1] ?_
  intro k hk; simp -dsimp (maxSteps := 2000000) [go_sem, -decide_eq_true_eq, -decide_eq_false_iff_not]
  repeat' (first | refine And.intro ?_ ?_ | refine hk _ ?_ | intro hg | (refine CallK.intro (dc_laws_markByteS _ _ (by constructor <;> omega)) ?_; simp -dsimp (maxSteps := 2000000) [go_sem, -decide_eq_true_eq, -decide_eq_false_iff_not]) | (refine CallK.intro (dc_laws_markByteS_nil _) ?_; simp -dsimp (maxSteps := 2000000) [go_sem, -decide_eq_true_eq, -decide_eq_false_iff_not]) | omega | exact True.intro)
  all_goals clear hk k
  refine AW.reg tiOk (fun _ => []) [0, 4] ?_
  intro k hk; simp -dsimp [go_sem, -decide_eq_true_eq, -decide_eq_false_iff_not]
  repeat' (first | refine And.intro ?_ ?_ | refine hk _ ?_ | intro hg | omega | exact True.intro)
  all_goals clear hk k
  refine AW.retF (ow := []) (muts := [(0, .agg [.osl 1 ((mkL b8 sure.length (k)).map B1), .osl 1 ((mkL b8 loose.length (k + sure.length)).map B1)])]) ?_ (fun h => And.intro (.inr rfl) h)
  simp [go_sem, Try.results60, mkL_len]

set_option maxHeartbeats 600000 in
set_option linter.unusedSimpArgs false in
set_option maxRecDepth 100000 in
/-- laws.markJournal -/
theorem dc_laws_markJournal_on (sure : List UInt8) (k : Int) (hk : 0 ≤ k ∧ k + sure.length ≤ 4611686018427387904) : DC Try.prog 60 [.agg [.osl 1 (sure.map B1), .isl 1 []], .int .i64 k] (.int .i64 (k + sure.length)) [(0, .agg [.osl 1 ((mkL b8 sure.length (k)).map B1), .isl 1 []])] := by
  refine DC.intro tiOk Try.func60 rfl rfl rfl rfl rfl rfl rfl (by simp [noW, noWo]) [] ?_
  refine AW.reg tiOk (fun _ => []) [0, 1, 2] ?_
  intro k hk; simp -dsimp [go_sem, -decide_eq_true_eq, -decide_eq_false_iff_not]
  repeat' (first | refine And.intro ?_ ?_ | refine hk _ ?_ | intro hg | omega | exact True.intro)
  all_goals clear hk k
  refine AW.reg tiOk (fun _ => [0]) [0, 1, 2] ?_
  intro k hk; simp -dsimp (maxSteps := 2000000) [go_sem, -decide_eq_true_eq, -decide_eq_false_iff_not]
  repeat' (first | refine And.intro ?_ ?_ | refine hk _ ?_ | intro hg | (refine CallK.intro (dc_laws_markByteS _ _ (by constructor <;> omega)) ?_; simp -dsimp (maxSteps := 2000000) [go_sem, -decide_eq_true_eq, -decide_eq_false_iff_not]) | (refine CallK.intro (dc_laws_markByteS_nil _) ?_; simp -dsimp (maxSteps := 2000000) [go_sem, -decide_eq_true_eq, -decide_eq_false_iff_not]) | omega | exact True.intro)
  all_goals clear hk k
  refine AW.reg tiOk (fun _ => [0]) [0, 1] ?_
  intro k hk; simp -dsimp (maxSteps := 2000000) [go_sem, -decide_eq_true_eq, -decide_eq_false_iff_not]
  repeat' (first | refine And.intro ?_ ?_ | refine hk _ ?_ | intro hg | (refine CallK.intro (dc_laws_markByteS _ _ (by constructor <;> omega)) ?_; simp -dsimp (maxSteps := 2000000) [go_sem, -decide_eq_true_eq, -decide_eq_false_iff_not]) | (refine CallK.intro (dc_laws_markByteS_nil _) ?_; simp -dsimp (maxSteps := 2000000) [go_sem, -decide_eq_true_eq, -decide_eq_false_iff_not]) | omega | exact True.intro)
  all_goals clear hk k
  refine AW.reg tiOk (fun _ => []) [0, 4] ?_
  intro k hk; simp -dsimp [go_sem, -decide_eq_true_eq, -decide_eq_false_iff_not]
  repeat' (first | refine And.intro ?_ ?_ | refine hk _ ?_ | intro hg | omega | exact True.intro)
  all_goals clear hk k
  refine AW.retF (ow := []) (muts := [(0, .agg [.osl 1 ((mkL b8 sure.length (k)).map B1), .isl 1 []])]) ?_ (fun h => And.intro (.inr rfl) h)
  simp [go_sem, Try.results60, mkL_len]

set_option maxHeartbeats 600000 in
set_option linter.unusedSimpArgs false in
set_option maxRecDepth 100000 in
/-- laws.markJournal -/
theorem dc_laws_markJournal_no (loose : List UInt8) (k : Int) (hk : 0 ≤ k ∧ k + loose.length ≤ 4611686018427387904) : DC Try.prog 60 [.agg [.isl 1 [], .osl 1 (loose.map B1)], .int .i64 k] (.int .i64 (k + loose.length)) [(0, .agg [.isl 1 [], .osl 1 ((mkL b8 loose.length (k)).map B1)])] := by
  refine DC.intro tiOk Try.func60 rfl rfl rfl rfl rfl rfl rfl (by simp [noW, noWo]) [] ?_
  refine AW.reg tiOk (fun _ => []) [0, 1, 2] ?_
  intro k hk; simp -dsimp [go_sem, -decide_eq_true_eq, -decide_eq_false_iff_not]
  repeat' (first | refine And.intro ?_ ?_ | refine hk _ ?_ | intro hg | omega | exact True.intro)
  all_goals clear hk k
  refine AW.reg tiOk (fun _ => [0]) [0, 1, 2] ?_
  intro k hk; simp -dsimp (maxSteps := 2000000) [go_sem, -decide_eq_true_eq, -decide_eq_false_iff_not]
  repeat' (first | refine And.intro ?_ ?_ | refine hk _ ?_ | intro hg | (refine CallK.intro (dc_laws_markByteS _ _ (by constructor <;> omega)) ?_; simp -dsimp (maxSteps := 2000000) [go_sem, -decide_eq_true_eq, -decide_eq_false_iff_not]) | (refine CallK.intro (dc_laws_markByteS_nil _) ?_; simp -dsimp (maxSteps := 2000000) [go_sem, -decide_eq_true_eq, -decide_eq_false_iff_not]) | omega | exact True.intro)
  all_goals clear hk k
  refine AW.reg tiOk (fun _ => [0]) [0, 1] ?_
  intro k hk; simp -dsimp (maxSteps := 2000000) [go_sem, -decide_eq_true_eq, -decide_eq_false_iff_not]
  repeat' (first | refine And.intro ?_ ?_ | refine hk _ ?_ | intro hg | (refine CallK.intro (dc_laws_markByteS _ _ (by constructor <;> omega)) ?_; simp -dsimp (maxSteps := 2000000) [go_sem, -decide_eq_true_eq, -decide_eq_false_iff_not]) | (refine CallK.intro (dc_laws_markByteS_nil _) ?_; simp -dsimp (maxSteps := 2000000) [go_sem, -decide_eq_true_eq, -decide_eq_false_iff_not]) | omega | exact True.intro)
  all_goals clear hk k
  refine AW.reg tiOk (fun _ => []) [0, 4] ?_
  intro k hk; simp -dsimp [go_sem, -decide_eq_true_eq, -decide_eq_false_iff_not]
  repeat' (first | refine And.intro ?_ ?_ | refine hk _ ?_ | intro hg | omega | exact True.intro)
  all_goals clear hk k
  refine AW.retF (ow := []) (muts := [(0, .agg [.isl 1 [], .osl 1 ((mkL b8 loose.length (k)).map B1)])]) ?_ (fun h => And.intro (.inr rfl) h)
  simp [go_sem, Try.results60, mkL_len]

set_option maxHeartbeats 600000 in
set_option linter.unusedSimpArgs false in
set_option maxRecDepth 100000 in
/-- laws.markJournal -/
theorem dc_laws_markJournal_nn  (k : Int) (hk : 0 ≤ k ∧ k ≤ 4611686018427387904) : DC Try.prog 60 [.agg [.isl 1 [], .isl 1 []], .int .i64 k] (.int .i64 (k)) [] := by
  refine DC.intro tiOk Try.func60 rfl rfl rfl rfl rfl rfl rfl rfl [] ?_
  refine AW.reg tiOk (fun _ => []) [1, 2] ?_
  intro k hk; simp -dsimp [go_sem, -decide_eq_true_eq, -decide_eq_false_iff_not]
  repeat' (first | refine And.intro ?_ ?_ | refine hk _ ?_ | intro hg | omega | exact True.intro)
  all_goals clear hk k
  refine AW.reg tiOk (fun _ => [0]) [1, 2] ?_
  intro k hk; simp -dsimp (maxSteps := 2000000) [go_sem, -decide_eq_true_eq, -decide_eq_false_iff_not]
  repeat' (first | refine And.intro ?_ ?_ | refine hk _ ?_ | intro hg | (refine CallK.intro (dc_laws_markByteS _ _ (by constructor <;> omega)) ?_; simp -dsimp (maxSteps := 2000000) [go_sem, -decide_eq_true_eq, -decide_eq_false_iff_not]) | (refine CallK.intro (dc_laws_markByteS_nil _) ?_; simp -dsimp (maxSteps := 2000000) [go_sem, -decide_eq_true_eq, -decide_eq_false_iff_not]) | omega | exact True.intro)
  all_goals clear hk k
  refine AW.reg tiOk (fun _ => [0]) [1] ?_
  intro k hk; simp -dsimp (maxSteps := 2000000) [go_sem, -decide_eq_true_eq, -decide_eq_false_iff_not]
  repeat' (first | refine And.intro ?_ ?_ | refine hk _ ?_ | intro hg | (refine CallK.intro (dc_laws_markByteS _ _ (by constructor <;> omega)) ?_; simp -dsimp (maxSteps := 2000000) [go_sem, -decide_eq_true_eq, -decide_eq_false_iff_not]) | (refine CallK.intro (dc_laws_markByteS_nil _) ?_; simp -dsimp (maxSteps := 2000000) [go_sem, -decide_eq_true_eq, -decide_eq_false_iff_not]) | omega | exact True.intro)
  all_goals clear hk k
  refine AW.reg tiOk (fun _ => []) [4] ?_
  intro k hk; simp -dsimp [go_sem, -decide_eq_true_eq, -decide_eq_false_iff_not]
  repeat' (first | refine And.intro ?_ ?_ | refine hk _ ?_ | intro hg | omega | exact True.intro)
  all_goals clear hk k
  refine AW.retF (ow := []) (muts := []) ?_ (fun h => And.intro (.inr rfl) h)
  simp [go_sem, Try.results60, mkL_len]

set_option maxHeartbeats 600000 in
set_option linter.unusedSimpArgs false in
set_option maxRecDepth 100000 in
/-- laws.heldJournal -/
theorem dc_laws_heldJournal_oo (nsure : Nat) (nloose : Nat) (k : Int) (hk : 0 ≤ k ∧ k + nsure + nloose ≤ 4611686018427387904) : DC Try.prog 114 [.agg [.isl 1 ((mkL b8 nsure (k)).map B1), .isl 1 ((mkL b8 nloose (k + nsure)).map B1)], .int .i64 k] (.int .i64 (k + nsure + nloose)) [] := by
  refine DC.intro tiOk Try.func114 rfl rfl rfl rfl rfl rfl rfl rfl [] ?_
  refine AW.reg tiOk (fun _ => []) [1, 2] ?_
  intro k hk; simp -dsimp [go_sem, -decide_eq_true_eq, -decide_eq_false_iff_not]
  repeat' (first | refine And.intro ?_ ?_ | refine hk _ ?_ | intro hg | omega | exact True.intro)
  all_goals clear hk k
  refine AW.reg tiOk (fun _ => []) [1, 2] ?_
  intro k hk; simp -dsimp (maxSteps := 2000000) [go_sem, -decide_eq_true_eq, -decide_eq_false_iff_not]
  repeat' (first | refine And.intro ?_ ?_ | refine hk _ ?_ | intro hg | (refine CallK.intro (dc_laws_heldByteS _ _ (by constructor <;> omega)) ?_; simp -dsimp (maxSteps := 2000000) [go_sem, -decide_eq_true_eq, -decide_eq_false_iff_not]) | (refine CallK.intro (dc_laws_heldByteS_nil _) ?_; simp -dsimp (maxSteps := 2000000) [go_sem, -decide_eq_true_eq, -decide_eq_false_iff_not]) | omega | exact True.intro)
  all_goals clear hk k
  refine AW.seq ?_
  refine AW.reg tiOk (fun _ => []) [1, 2, 10] ?_
  intro k hk; simp -dsimp [go_sem, -decide_eq_true_eq, -decide_eq_false_iff_not]
  repeat' (first | refine And.intro ?_ ?_ | refine hk _ ?_ | intro hg | omega | exact True.intro)
  all_goals clear hk k
  refine AW.cond rfl ?_ ?_
  · intro hc; try simp at hc
    all_goals try (exfalso; omega; done)
    all_goals (
      refine AW.reg tiOk (fun _ => []) [4] ?_
      intro k hk; simp -dsimp [go_sem, -decide_eq_true_eq, -decide_eq_false_iff_not]
      repeat' (first | refine And.intro ?_ ?_ | refine hk _ ?_ | intro hg | omega | exact True.intro)
      all_goals clear hk k
      refine AW.retF (ow := []) (muts := []) ?_ (fun h => And.intro (.inr rfl) h)
      simp [go_sem, Try.results114])
  · intro hc; try simp at hc
    all_goals try (exfalso; omega; done)
    all_goals (
      refine AW.skipN (fun _ h => h) ?_
      refine AW.reg tiOk (fun _ => []) [1] ?_
      intro k hk; simp -dsimp (maxSteps := 2000000) [go_sem, -decide_eq_true_eq, -decide_eq_false_iff_not]
      repeat' (first | refine And.intro ?_ ?_ | refine hk _ ?_ | intro hg | (refine CallK.intro (dc_laws_heldByteS _ _ (by constructor <;> omega)) ?_; simp -dsimp (maxSteps := 2000000) [go_sem, -decide_eq_true_eq, -decide_eq_false_iff_not]) | (refine CallK.intro (dc_laws_heldByteS_nil _) ?_; simp -dsimp (maxSteps := 2000000) [go_sem, -decide_eq_true_eq, -decide_eq_false_iff_not]) | omega | exact True.intro)
      all_goals clear hk k
      refine AW.seq ?_
      refine AW.reg tiOk (fun _ => []) [1, 16] ?_
      intro k hk; simp -dsimp [go_sem, -decide_eq_true_eq, -decide_eq_false_iff_not]
      repeat' (first | refine And.intro ?_ ?_ | refine hk _ ?_ | intro hg | omega | exact True.intro)
      all_goals clear hk k
      refine AW.cond rfl ?_ ?_
      · intro hc; try simp at hc
        all_goals try (exfalso; omega; done)
        all_goals (
          refine AW.reg tiOk (fun _ => []) [4] ?_
          intro k hk; simp -dsimp [go_sem, -decide_eq_true_eq, -decide_eq_false_iff_not]
          repeat' (first | refine And.intro ?_ ?_ | refine hk _ ?_ | intro hg | omega | exact True.intro)
          all_goals clear hk k
          refine AW.retF (ow := []) (muts := []) ?_ (fun h => And.intro (.inr rfl) h)
          simp [go_sem, Try.results114])
      · intro hc; try simp at hc
        all_goals try (exfalso; omega; done)
        all_goals (
          refine AW.skipN (fun _ h => h) ?_
          refine AW.reg tiOk (fun _ => []) [4] ?_
          intro k hk; simp -dsimp [go_sem, -decide_eq_true_eq, -decide_eq_false_iff_not]
          repeat' (first | refine And.intro ?_ ?_ | refine hk _ ?_ | intro hg | omega | exact True.intro)
          all_goals clear hk k
          refine AW.retF (ow := []) (muts := []) ?_ (fun h => And.intro (.inr rfl) h)
          simp [go_sem, Try.results114]))

set_option maxHeartbeats 600000 in
set_option linter.unusedSimpArgs false in
set_option maxRecDepth 100000 in
/-- laws.heldJournal -/
theorem dc_laws_heldJournal_on (nsure : Nat) (k : Int) (hk : 0 ≤ k ∧ k + nsure ≤ 4611686018427387904) : DC Try.prog 114 [.agg [.isl 1 ((mkL b8 nsure (k)).map B1), .isl 1 []], .int .i64 k] (.int .i64 (k + nsure)) [] := by
  refine DC.intro tiOk Try.func114 rfl rfl rfl rfl rfl rfl rfl rfl [] ?_
  refine AW.reg tiOk (fun _ => []) [1, 2] ?_
  intro k hk; simp -dsimp [go_sem, -decide_eq_true_eq, -decide_eq_false_iff_not]
  repeat' (first | refine And.intro ?_ ?_ | refine hk _ ?_ | intro hg | omega | exact True.intro)
  all_goals clear hk k
  refine AW.reg tiOk (fun _ => []) [1, 2] ?_
  intro k hk; simp -dsimp (maxSteps := 2000000) [go_sem, -decide_eq_true_eq, -decide_eq_false_iff_not]
  repeat' (first | refine And.intro ?_ ?_ | refine hk _ ?_ | intro hg | (refine CallK.intro (dc_laws_heldByteS _ _ (by constructor <;> omega)) ?_; simp -dsimp (maxSteps := 2000000) [go_sem, -decide_eq_true_eq, -decide_eq_false_iff_not]) | (refine CallK.intro (dc_laws_heldByteS_nil _) ?_; simp -dsimp (maxSteps := 2000000) [go_sem, -decide_eq_true_eq, -decide_eq_false_iff_not]) | omega | exact True.intro)
  all_goals clear hk k
  refine AW.seq ?_
  refine AW.reg tiOk (fun _ => []) [1, 2, 10] ?_
  intro k hk; simp -dsimp [go_sem, -decide_eq_true_eq, -decide_eq_false_iff_not]
  repeat' (first | refine And.intro ?_ ?_ | refine hk _ ?_ | intro hg | omega | exact True.intro)
  all_goals clear hk k
  refine AW.cond rfl ?_ ?_
  · intro hc; try simp at hc
    all_goals try (exfalso; omega; done)
    all_goals (
      refine AW.reg tiOk (fun _ => []) [4] ?_
      intro k hk; simp -dsimp [go_sem, -decide_eq_true_eq, -decide_eq_false_iff_not]
      repeat' (first | refine And.intro ?_ ?_ | refine hk _ ?_ | intro hg | omega | exact True.intro)
      all_goals clear hk k
      refine AW.retF (ow := []) (muts := []) ?_ (fun h => And.intro (.inr rfl) h)
      simp [go_sem, Try.results114])
  · intro hc; try simp at hc
    all_goals try (exfalso; omega; done)
    all_goals (
      refine AW.skipN (fun _ h => h) ?_
      refine AW.reg tiOk (fun _ => []) [1] ?_
      intro k hk; simp -dsimp (maxSteps := 2000000) [go_sem, -decide_eq_true_eq, -decide_eq_false_iff_not]
      repeat' (first | refine And.intro ?_ ?_ | refine hk _ ?_ | intro hg | (refine CallK.intro (dc_laws_heldByteS _ _ (by constructor <;> omega)) ?_; simp -dsimp (maxSteps := 2000000) [go_sem, -decide_eq_true_eq, -decide_eq_false_iff_not]) | (refine CallK.intro (dc_laws_heldByteS_nil _) ?_; simp -dsimp (maxSteps := 2000000) [go_sem, -decide_eq_true_eq, -decide_eq_false_iff_not]) | omega | exact True.intro)
      all_goals clear hk k
      refine AW.seq ?_
      refine AW.reg tiOk (fun _ => []) [1, 16] ?_
      intro k hk; simp -dsimp [go_sem, -decide_eq_true_eq, -decide_eq_false_iff_not]
      repeat' (first | refine And.intro ?_ ?_ | refine hk _ ?_ | intro hg | omega | exact True.intro)
      all_goals clear hk k
      refine AW.cond rfl ?_ ?_
      · intro hc; try simp at hc
        all_goals try (exfalso; omega; done)
        all_goals (
          refine AW.reg tiOk (fun _ => []) [4] ?_
          intro k hk; simp -dsimp [go_sem, -decide_eq_true_eq, -decide_eq_false_iff_not]
          repeat' (first | refine And.intro ?_ ?_ | refine hk _ ?_ | intro hg | omega | exact True.intro)
          all_goals clear hk k
          refine AW.retF (ow := []) (muts := []) ?_ (fun h => And.intro (.inr rfl) h)
          simp [go_sem, Try.results114])
      · intro hc; try simp at hc
        all_goals try (exfalso; omega; done)
        all_goals (
          refine AW.skipN (fun _ h => h) ?_
          refine AW.reg tiOk (fun _ => []) [4] ?_
          intro k hk; simp -dsimp [go_sem, -decide_eq_true_eq, -decide_eq_false_iff_not]
          repeat' (first | refine And.intro ?_ ?_ | refine hk _ ?_ | intro hg | omega | exact True.intro)
          all_goals clear hk k
          refine AW.retF (ow := []) (muts := []) ?_ (fun h => And.intro (.inr rfl) h)
          simp [go_sem, Try.results114]))

set_option maxHeartbeats 600000 in
set_option linter.unusedSimpArgs false in
set_option maxRecDepth 100000 in
/-- laws.heldJournal -/
theorem dc_laws_heldJournal_no (nloose : Nat) (k : Int) (hk : 0 ≤ k ∧ k + nloose ≤ 4611686018427387904) : DC Try.prog 114 [.agg [.isl 1 [], .isl 1 ((mkL b8 nloose (k)).map B1)], .int .i64 k] (.int .i64 (k + nloose)) [] := by
  refine DC.intro tiOk Try.func114 rfl rfl rfl rfl rfl rfl rfl rfl [] ?_
  refine AW.reg tiOk (fun _ => []) [1, 2] ?_
  intro k hk; simp -dsimp [go_sem, -decide_eq_true_eq, -decide_eq_false_iff_not]
  repeat' (first | refine And.intro ?_ ?_ | refine hk _ ?_ | intro hg | omega | exact True.intro)
  all_goals clear hk k
  refine AW.reg tiOk (fun _ => []) [1, 2] ?_
  intro k hk; simp -dsimp (maxSteps := 2000000) [go_sem, -decide_eq_true_eq, -decide_eq_false_iff_not]
  repeat' (first | refine And.intro ?_ ?_ | refine hk _ ?_ | intro hg | (refine CallK.intro (dc_laws_heldByteS _ _ (by constructor <;> omega)) ?_; simp -dsimp (maxSteps := 2000000) [go_sem, -decide_eq_true_eq, -decide_eq_false_iff_not]) | (refine CallK.intro (dc_laws_heldByteS_nil _) ?_; simp -dsimp (maxSteps := 2000000) [go_sem, -decide_eq_true_eq, -decide_eq_false_iff_not]) | omega | exact True.intro)
  all_goals clear hk k
  refine AW.seq ?_
  refine AW.reg tiOk (fun _ => []) [1, 2, 10] ?_
  intro k hk; simp -dsimp [go_sem, -decide_eq_true_eq, -decide_eq_false_iff_not]
  repeat' (first | refine And.intro ?_ ?_ | refine hk _ ?_ | intro hg | omega | exact True.intro)
  all_goals clear hk k
  refine AW.cond rfl ?_ ?_
  · intro hc; try simp at hc
    all_goals try (exfalso; omega; done)
    all_goals (
      refine AW.reg tiOk (fun _ => []) [4] ?_
      intro k hk; simp -dsimp [go_sem, -decide_eq_true_eq, -decide_eq_false_iff_not]
      repeat' (first | refine And.intro ?_ ?_ | refine hk _ ?_ | intro hg | omega | exact True.intro)
      all_goals clear hk k
      refine AW.retF (ow := []) (muts := []) ?_ (fun h => And.intro (.inr rfl) h)
      simp [go_sem, Try.results114])
  · intro hc; try simp at hc
    all_goals try (exfalso; omega; done)
    all_goals (
      refine AW.skipN (fun _ h => h) ?_
      refine AW.reg tiOk (fun _ => []) [1] ?_
      intro k hk; simp -dsimp (maxSteps := 2000000) [go_sem, -decide_eq_true_eq, -decide_eq_false_iff_not]
      repeat' (first | refine And.intro ?_ ?_ | refine hk _ ?_ | intro hg | (refine CallK.intro (dc_laws_heldByteS _ _ (by constructor <;> omega)) ?_; simp -dsimp (maxSteps := 2000000) [go_sem, -decide_eq_true_eq, -decide_eq_false_iff_not]) | (refine CallK.intro (dc_laws_heldByteS_nil _) ?_; simp -dsimp (maxSteps := 2000000) [go_sem, -decide_eq_true_eq, -decide_eq_false_iff_not]) | omega | exact True.intro)
      all_goals clear hk k
      refine AW.seq ?_
      refine AW.reg tiOk (fun _ => []) [1, 16] ?_
      intro k hk; simp -dsimp [go_sem, -decide_eq_true_eq, -decide_eq_false_iff_not]
      repeat' (first | refine And.intro ?_ ?_ | refine hk _ ?_ | intro hg | omega | exact True.intro)
      all_goals clear hk k
      refine AW.cond rfl ?_ ?_
      · intro hc; try simp at hc
        all_goals try (exfalso; omega; done)
        all_goals (
          refine AW.reg tiOk (fun _ => []) [4] ?_
          intro k hk; simp -dsimp [go_sem, -decide_eq_true_eq, -decide_eq_false_iff_not]
          repeat' (first | refine And.intro ?_ ?_ | refine hk _ ?_ | intro hg | omega | exact True.intro)
          all_goals clear hk k
          refine AW.retF (ow := []) (muts := []) ?_ (fun h => And.intro (.inr rfl) h)
          simp [go_sem, Try.results114])
      · intro hc; try simp at hc
        all_goals try (exfalso; omega; done)
        all_goals (
          refine AW.skipN (fun _ h => h) ?_
          refine AW.reg tiOk (fun _ => []) [4] ?_
          intro k hk; simp -dsimp [go_sem, -decide_eq_true_eq, -decide_eq_false_iff_not]
          repeat' (first | refine And.intro ?_ ?_ | refine hk _ ?_ | intro hg | omega | exact True.intro)
          all_goals clear hk k
          refine AW.retF (ow := []) (muts := []) ?_ (fun h => And.intro (.inr rfl) h)
          simp [go_sem, Try.results114]))

set_option maxHeartbeats 600000 in
set_option linter.unusedSimpArgs false in
set_option maxRecDepth 100000 in
/-- laws.heldJournal -/
theorem dc_laws_heldJournal_nn  (k : Int) (hk : 0 ≤ k ∧ k ≤ 4611686018427387904) : DC Try.prog 114 [.agg [.isl 1 [], .isl 1 []], .int .i64 k] (.int .i64 (k)) [] := by
  refine DC.intro tiOk Try.func114 rfl rfl rfl rfl rfl rfl rfl rfl [] ?_
  refine AW.reg tiOk (fun _ => []) [1, 2] ?_
  intro k hk; simp -dsimp [go_sem, -decide_eq_true_eq, -decide_eq_false_iff_not]
  repeat' (first | refine And.intro ?_ ?_ | refine hk _ ?_ | intro hg | omega | exact True.intro)
  all_goals clear hk k
  refine AW.reg tiOk (fun _ => []) [1, 2] ?_
  intro k hk; simp -dsimp (maxSteps := 2000000) [go_sem, -decide_eq_true_eq, -decide_eq_false_iff_not]
  repeat' (first | refine And.intro ?_ ?_ | refine hk _ ?_ | intro hg | (refine CallK.intro (dc_laws_heldByteS _ _ (by constructor <;> omega)) ?_; simp -dsimp (maxSteps := 2000000) [go_sem, -decide_eq_true_eq, -decide_eq_false_iff_not]) | (refine CallK.intro (dc_laws_heldByteS_nil _) ?_; simp -dsimp (maxSteps := 2000000) [go_sem, -decide_eq_true_eq, -decide_eq_false_iff_not]) | omega | exact True.intro)
  all_goals clear hk k
  refine AW.seq ?_
  refine AW.reg tiOk (fun _ => []) [1, 2, 10] ?_
  intro k hk; simp -dsimp [go_sem, -decide_eq_true_eq, -decide_eq_false_iff_not]
  repeat' (first | refine And.intro ?_ ?_ | refine hk _ ?_ | intro hg | omega | exact True.intro)
  all_goals clear hk k
  refine AW.cond rfl ?_ ?_
  · intro hc; try simp at hc
    all_goals try (exfalso; omega; done)
    all_goals (
      refine AW.reg tiOk (fun _ => []) [4] ?_
      intro k hk; simp -dsimp [go_sem, -decide_eq_true_eq, -decide_eq_false_iff_not]
      repeat' (first | refine And.intro ?_ ?_ | refine hk _ ?_ | intro hg | omega | exact True.intro)
      all_goals clear hk k
      refine AW.retF (ow := []) (muts := []) ?_ (fun h => And.intro (.inr rfl) h)
      simp [go_sem, Try.results114])
  · intro hc; try simp at hc
    all_goals try (exfalso; omega; done)
    all_goals (
      refine AW.skipN (fun _ h => h) ?_
      refine AW.reg tiOk (fun _ => []) [1] ?_
      intro k hk; simp -dsimp (maxSteps := 2000000) [go_sem, -decide_eq_true_eq, -decide_eq_false_iff_not]
      repeat' (first | refine And.intro ?_ ?_ | refine hk _ ?_ | intro hg | (refine CallK.intro (dc_laws_heldByteS _ _ (by constructor <;> omega)) ?_; simp -dsimp (maxSteps := 2000000) [go_sem, -decide_eq_true_eq, -decide_eq_false_iff_not]) | (refine CallK.intro (dc_laws_heldByteS_nil _) ?_; simp -dsimp (maxSteps := 2000000) [go_sem, -decide_eq_true_eq, -decide_eq_false_iff_not]) | omega | exact True.intro)
      all_goals clear hk k
      refine AW.seq ?_
      refine AW.reg tiOk (fun _ => []) [1, 16] ?_
      intro k hk; simp -dsimp [go_sem, -decide_eq_true_eq, -decide_eq_false_iff_not]
      repeat' (first | refine And.intro ?_ ?_ | refine hk _ ?_ | intro hg | omega | exact True.intro)
      all_goals clear hk k
      refine AW.cond rfl ?_ ?_
      · intro hc; try simp at hc
        all_goals try (exfalso; omega; done)
        all_goals (
          refine AW.reg tiOk (fun _ => []) [4] ?_
          intro k hk; simp -dsimp [go_sem, -decide_eq_true_eq, -decide_eq_false_iff_not]
          repeat' (first | refine And.intro ?_ ?_ | refine hk _ ?_ | intro hg | omega | exact True.intro)
          all_goals clear hk k
          refine AW.retF (ow := []) (muts := []) ?_ (fun h => And.intro (.inr rfl) h)
          simp [go_sem, Try.results114])
      · intro hc; try simp at hc
        all_goals try (exfalso; omega; done)
        all_goals (
          refine AW.skipN (fun _ h => h) ?_
          refine AW.reg tiOk (fun _ => []) [4] ?_
          intro k hk; simp -dsimp [go_sem, -decide_eq_true_eq, -decide_eq_false_iff_not]
          repeat' (first | refine And.intro ?_ ?_ | refine hk _ ?_ | intro hg | omega | exact True.intro)
          all_goals clear hk k
          refine AW.retF (ow := []) (muts := []) ?_ (fun h => And.intro (.inr rfl) h)
          simp [go_sem, Try.results114]))

set_option maxHeartbeats 600000 in
set_option linter.unusedSimpArgs false in
set_option maxRecDepth 100000 in
/-- laws.eqJournalResult -/
theorem dc_laws_eqJournalResult (a b : TJournalResult) (hg : a.gok) : DC Try.prog 59 [.agg a.ro, .agg b.ro] (.bool (decide (a = b))) [] := by
  have h0 := hg
  unfold TJournalResult.gok at h0
  refine DC.intro tiOk Try.func59 rfl rfl rfl rfl rfl rfl rfl rfl [] ?_
  refine AW.reg tiOk (fun _ => []) [2, 3] ?_
  intro k hk; simp -dsimp [go_sem, -decide_eq_true_eq, -decide_eq_false_iff_not]
  repeat' (first | refine And.intro ?_ ?_ | refine hk _ ?_ | intro hg | omega | exact True.intro)
  all_goals clear hk k
  refine AW.seq ?_
  refine AW.reg tiOk (fun _ => []) [2, 3, 9] ?_
  intro k hk; simp -dsimp [go_sem, -decide_eq_true_eq, -decide_eq_false_iff_not]
  repeat' (first | refine And.intro ?_ ?_ | refine hk _ ?_ | intro hg | omega | exact True.intro)
  all_goals clear hk k
  refine AW.cond rfl ?_ ?_
  · intro hc; try simp at hc
    all_goals (
      refine AW.reg tiOk (fun _ => []) [4] ?_
      intro k hk; simp -dsimp [go_sem, -decide_eq_true_eq, -decide_eq_false_iff_not]
      repeat' (first | refine And.intro ?_ ?_ | refine hk _ ?_ | intro hg | omega | exact True.intro)
      all_goals clear hk k
      refine AW.retF (ow := []) (muts := []) ?_ (fun h => And.intro (.inr rfl) h)
      cases a; cases b; simp [go_sem, Try.results59] at *; simp [*])
  · intro hc; try simp at hc
    all_goals (
      refine AW.skipN (fun _ h => h) ?_
      refine AW.seq ?_
      refine AW.reg tiOk (fun _ => []) [2, 3, 14] ?_
      intro k hk; simp -dsimp [go_sem, -decide_eq_true_eq, -decide_eq_false_iff_not]
      repeat' (first | refine And.intro ?_ ?_ | refine hk _ ?_ | intro hg | omega | exact True.intro)
      all_goals clear hk k
      refine AW.cond rfl ?_ ?_
      · intro hc; try simp at hc
        all_goals (
          refine AW.reg tiOk (fun _ => []) [4] ?_
          intro k hk; simp -dsimp [go_sem, -decide_eq_true_eq, -decide_eq_false_iff_not]
          repeat' (first | refine And.intro ?_ ?_ | refine hk _ ?_ | intro hg | omega | exact True.intro)
          all_goals clear hk k
          refine AW.retF (ow := []) (muts := []) ?_ (fun h => And.intro (.inr rfl) h)
          cases a; cases b; simp [go_sem, Try.results59] at *; simp [*])
      · intro hc; try simp at hc
        all_goals (
          refine AW.skipN (fun _ h => h) ?_
          refine AW.seq ?_
          refine AW.reg tiOk (fun _ => []) [20] ?_
          intro k hk; simp -dsimp (maxSteps := 2000000) [go_sem, -decide_eq_true_eq, -decide_eq_false_iff_not]
          repeat' (first | refine And.intro ?_ ?_ | refine hk _ ?_ | intro hg | (refine CallK.intro (dc_laws_eqJournal _ _ (by assumption)) ?_; simp -dsimp (maxSteps := 2000000) [go_sem, -decide_eq_true_eq, -decide_eq_false_iff_not]) | omega | exact True.intro)
          all_goals clear hk k
          refine AW.cond rfl ?_ ?_
          · intro hc; try simp at hc
            all_goals (
              refine AW.reg tiOk (fun _ => []) [4] ?_
              intro k hk; simp -dsimp [go_sem, -decide_eq_true_eq, -decide_eq_false_iff_not]
              repeat' (first | refine And.intro ?_ ?_ | refine hk _ ?_ | intro hg | omega | exact True.intro)
              all_goals clear hk k
              refine AW.retF (ow := []) (muts := []) ?_ (fun h => And.intro (.inr rfl) h)
              cases a; cases b; simp [go_sem, Try.results59] at *; simp [*])
          · intro hc; try simp at hc
            all_goals (
              refine AW.skipN (fun _ h => h) ?_
              refine AW.reg tiOk (fun _ => []) [4] ?_
              intro k hk; simp -dsimp [go_sem, -decide_eq_true_eq, -decide_eq_false_iff_not]
              repeat' (first | refine And.intro ?_ ?_ | refine hk _ ?_ | intro hg | omega | exact True.intro)
              all_goals clear hk k
              refine AW.retF (ow := []) (muts := []) ?_ (fun h => And.intro (.inr rfl) h)
              cases a; cases b; simp [go_sem, Try.results59] at *; simp [*])))

set_option maxHeartbeats 600000 in
set_option linter.unusedSimpArgs false in
set_option maxRecDepth 100000 in
/-- laws.markJournalResult -/
theorem dc_laws_markJournalResult_oo (code count : Int) (sure : List UInt8) (loose : List UInt8) (k : Int) (hk : 0 ≤ k ∧ k + sure.length + loose.length ≤ 4611686018427387904) : DC Try.prog 61 [.agg [.int .i64 code, .int .i64 count, .osl 1 (sure.map B1), .osl 1 (loose.map B1)], .int .i64 k] (.int .i64 (k + sure.length + loose.length)) [(0, .agg [.int .i64 code, .int .i64 count, .osl 1 ((mkL b8 sure.length (k)).map B1), .osl 1 ((mkL b8 loose.length (k + sure.length)).map B1)])] := by
  refine DC.intro tiOk Try.func61 rfl rfl rfl rfl rfl rfl rfl (by simp [noW, noWo]) [] ?_
  refine AW.reg tiOk (fun _ => []) [0, 1, 2] ?_
  intro k hk; simp -dsimp [go_sem, -decide_eq_true_eq, -decide_eq_false_iff_not]
  repeat' (first | refine And.intro ?_ ?_ | refine hk _ ?_ | intro hg | omega | exact True.intro)
  all_goals clear hk k
  refine AW.reg tiOk (fun _ => [0]) [0, 1] ?_
  intro k hk; simp -dsimp (maxSteps := 2000000) [go_sem, -decide_eq_true_eq, -decide_eq_false_iff_not]
  repeat' (first | refine And.intro ?_ ?_ | refine hk _ ?_ | intro hg | (refine CallK.intro (dc_laws_markJournal_oo sure loose _ (by constructor <;> omega)) ?_; simp -dsimp (maxSteps := 2000000) [go_sem, -decide_eq_true_eq, -decide_eq_false_iff_not]) | omega | exact True.intro)
  all_goals clear hk k
  refine AW.reg tiOk (fun _ => []) [0, 4] ?_
  intro k hk; simp -dsimp [go_sem, -decide_eq_true_eq, -decide_eq_false_iff_not]
  repeat' (first | refine And.intro ?_ ?_ | refine hk _ ?_ | intro hg | omega | exact True.intro)
  all_goals clear hk k
  refine AW.retF (ow := []) (muts := [(0, .agg [.int .i64 code, .int .i64 count, .osl 1 ((mkL b8 sure.length (k)).map B1), .osl 1 ((mkL b8 loose.length (k + sure.length)).map B1)])]) ?_ (fun h => And.intro (.inr rfl) h)
  simp [go_sem, Try.results61, mkL_len]

set_option maxHeartbeats 600000 in
set_option linter.unusedSimpArgs false in
set_option maxRecDepth 100000 in
/-- laws.markJournalResult -/
theorem dc_laws_markJournalResult_on (code count : Int) (sure : List UInt8) (k : Int) (hk : 0 ≤ k ∧ k + sure.length ≤ 4611686018427387904) : DC Try.prog 61 [.agg [.int .i64 code, .int .i64 count, .osl 1 (sure.map B1), .isl 1 []], .int .i64 k] (.int .i64 (k + sure.length)) [(0, .agg [.int .i64 code, .int .i64 count, .osl 1 ((mkL b8 sure.length (k)).map B1), .isl 1 []])] := by
  refine DC.intro tiOk Try.func61 rfl rfl rfl rfl rfl rfl rfl (by simp [noW, noWo]) [] ?_
  refine AW.reg tiOk (fun _ => []) [0, 1, 2] ?_
  intro k hk; simp -dsimp [go_sem, -decide_eq_true_eq, -decide_eq_false_iff_not]
  repeat' (first | refine And.intro ?_ ?_ | refine hk _ ?_ | intro hg | omega | exact True.intro)
  all_goals clear hk k
  refine AW.reg tiOk (fun _ => [0]) [0, 1] ?_
  intro k hk; simp -dsimp (maxSteps := 2000000) [go_sem, -decide_eq_true_eq, -decide_eq_false_iff_not]
  repeat' (first | refine And.intro ?_ ?_ | refine hk _ ?_ | intro hg | (refine CallK.intro (dc_laws_markJournal_on sure _ (by constructor <;> omega)) ?_; simp -dsimp (maxSteps := 2000000) [go_sem, -decide_eq_true_eq, -decide_eq_false_iff_not]) | omega | exact True.intro)
  all_goals clear hk k
  refine AW.reg tiOk (fun _ => []) [0, 4] ?_
  intro k hk; simp -dsimp [go_sem, -decide_eq_true_eq, -decide_eq_false_iff_not]
  repeat' (first | refine And.intro ?_ ?_ | refine hk _ ?_ | intro hg | omega | exact True.intro)
  all_goals clear hk k
  refine AW.retF (ow := []) (muts := [(0, .agg [.int .i64 code, .int .i64 count, .osl 1 ((mkL b8 sure.length (k)).map B1), .isl 1 []])]) ?_ (fun h => And.intro (.inr rfl) h)
  simp [go_sem, Try.results61, mkL_len]

set_option maxHeartbeats 600000 in
set_option linter.unusedSimpArgs false in
set_option maxRecDepth 100000 in
/-- laws.markJournalResult -/
theorem dc_laws_markJournalResult_no (code count : Int) (loose : List UInt8) (k : Int) (hk : 0 ≤ k ∧ k + loose.length ≤ 4611686018427387904) : DC Try.prog 61 [.agg [.int .i64 code, .int .i64 count, .isl 1 [], .osl 1 (loose.map B1)], .int .i64 k] (.int .i64 (k + loose.length)) [(0, .agg [.int .i64 code, .int .i64 count, .isl 1 [], .osl 1 ((mkL b8 loose.length (k)).map B1)])] := by
  refine DC.intro tiOk Try.func61 rfl rfl rfl rfl rfl rfl rfl (by simp [noW, noWo]) [] ?_
  refine AW.reg tiOk (fun _ => []) [0, 1, 2] ?_
  intro k hk; simp -dsimp [go_sem, -decide_eq_true_eq, -decide_eq_false_iff_not]
  repeat' (first | refine And.intro ?_ ?_ | refine hk _ ?_ | intro hg | omega | exact True.intro)
  all_goals clear hk k
  refine AW.reg tiOk (fun _ => [0]) [0, 1] ?_
  intro k hk; simp -dsimp (maxSteps := 2000000) [go_sem, -decide_eq_true_eq, -decide_eq_false_iff_not]
  repeat' (first | refine And.intro ?_ ?_ | refine hk _ ?_ | intro hg | (refine CallK.intro (dc_laws_markJournal_no loose _ (by constructor <;> omega)) ?_; simp -dsimp (maxSteps := 2000000) [go_sem, -decide_eq_true_eq, -decide_eq_false_iff_not]) | omega | exact True.intro)
  all_goals clear hk k
  refine AW.reg tiOk (fun _ => []) [0, 4] ?_
  intro k hk; simp -dsimp [go_sem, -decide_eq_true_eq, -decide_eq_false_iff_not]
  repeat' (first | refine And.intro ?_ ?_ | refine hk _ ?_ | intro hg | omega | exact True.intro)
  all_goals clear hk k
  refine AW.retF (ow := []) (muts := [(0, .agg [.int .i64 code, .int .i64 count, .isl 1 [], .osl 1 ((mkL b8 loose.length (k)).map B1)])]) ?_ (fun h => And.intro (.inr rfl) h)
  simp [go_sem, Try.results61, mkL_len]

set_option maxHeartbeats 600000 in
set_option linter.unusedSimpArgs false in
set_option maxRecDepth 100000 in
/-- laws.markJournalResult -/
theorem dc_laws_markJournalResult_nn (code count : Int)  (k : Int) (hk : 0 ≤ k ∧ k ≤ 4611686018427387904) : DC Try.prog 61 [.agg [.int .i64 code, .int .i64 count, .isl 1 [], .isl 1 []], .int .i64 k] (.int .i64 (k)) [] := by
  refine DC.intro tiOk Try.func61 rfl rfl rfl rfl rfl rfl rfl rfl [] ?_
  refine AW.reg tiOk (fun _ => []) [1, 2] ?_
  intro k hk; simp -dsimp [go_sem, -decide_eq_true_eq, -decide_eq_false_iff_not]
  repeat' (first | refine And.intro ?_ ?_ | refine hk _ ?_ | intro hg | omega | exact True.intro)
  all_goals clear hk k
  refine AW.reg tiOk (fun _ => [0]) [1] ?_
  intro k hk; simp -dsimp (maxSteps := 2000000) [go_sem, -decide_eq_true_eq, -decide_eq_false_iff_not]
  repeat' (first | refine And.intro ?_ ?_ | refine hk _ ?_ | intro hg | (refine CallK.intro (dc_laws_markJournal_nn  _ (by constructor <;> omega)) ?_; simp -dsimp (maxSteps := 2000000) [go_sem, -decide_eq_true_eq, -decide_eq_false_iff_not]) | omega | exact True.intro)
  all_goals clear hk k
  refine AW.reg tiOk (fun _ => []) [4] ?_
  intro k hk; simp -dsimp [go_sem, -decide_eq_true_eq, -decide_eq_false_iff_not]
  repeat' (first | refine And.intro ?_ ?_ | refine hk _ ?_ | intro hg | omega | exact True.intro)
  all_goals clear hk k
  refine AW.retF (ow := []) (muts := []) ?_ (fun h => And.intro (.inr rfl) h)
  simp [go_sem, Try.results61, mkL_len]

set_option maxHeartbeats 600000 in
set_option linter.unusedSimpArgs false in
set_option maxRecDepth 100000 in
/-- laws.heldJournalResult -/
theorem dc_laws_heldJournalResult_oo (code count : Int) (nsure : Nat) (nloose : Nat) (k : Int) (hk : 0 ≤ k ∧ k + nsure + nloose ≤ 4611686018427387904) : DC Try.prog 62 [.agg [.int .i64 code, .int .i64 count, .isl 1 ((mkL b8 nsure (k)).map B1), .isl 1 ((mkL b8 nloose (k + nsure)).map B1)], .int .i64 k] (.int .i64 (k + nsure + nloose)) [] := by
  refine DC.intro tiOk Try.func62 rfl rfl rfl rfl rfl rfl rfl rfl [] ?_
  refine AW.reg tiOk (fun _ => []) [1, 2] ?_
  intro k hk; simp -dsimp [go_sem, -decide_eq_true_eq, -decide_eq_false_iff_not]
  repeat' (first | refine And.intro ?_ ?_ | refine hk _ ?_ | intro hg | omega | exact True.intro)
  all_goals clear hk k
  refine AW.reg tiOk (fun _ => []) [1] ?_
  intro k hk; simp -dsimp (maxSteps := 2000000) [go_sem, -decide_eq_true_eq, -decide_eq_false_iff_not]
  repeat' (first | refine And.intro ?_ ?_ | refine hk _ ?_ | intro hg | (refine CallK.intro (dc_laws_heldJournal_oo nsure nloose _ (by constructor <;> omega)) ?_; simp -dsimp (maxSteps := 2000000) [go_sem, -decide_eq_true_eq, -decide_eq_false_iff_not]) | omega | exact True.intro)
  all_goals clear hk k
  refine AW.seq ?_
  refine AW.reg tiOk (fun _ => []) [1, 10] ?_
  intro k hk; simp -dsimp [go_sem, -decide_eq_true_eq, -decide_eq_false_iff_not]
  repeat' (first | refine And.intro ?_ ?_ | refine hk _ ?_ | intro hg | omega | exact True.intro)
  all_goals clear hk k
  refine AW.cond rfl ?_ ?_
  · intro hc; try simp at hc
    all_goals try (exfalso; omega; done)
    all_goals (
      refine AW.reg tiOk (fun _ => []) [4] ?_
      intro k hk; simp -dsimp [go_sem, -decide_eq_true_eq, -decide_eq_false_iff_not]
      repeat' (first | refine And.intro ?_ ?_ | refine hk _ ?_ | intro hg | omega | exact True.intro)
      all_goals clear hk k
      refine AW.retF (ow := []) (muts := []) ?_ (fun h => And.intro (.inr rfl) h)
      simp [go_sem, Try.results62])
  · intro hc; try simp at hc
    all_goals try (exfalso; omega; done)
    all_goals (
      refine AW.skipN (fun _ h => h) ?_
      refine AW.reg tiOk (fun _ => []) [4] ?_
      intro k hk; simp -dsimp [go_sem, -decide_eq_true_eq, -decide_eq_false_iff_not]
      repeat' (first | refine And.intro ?_ ?_ | refine hk _ ?_ | intro hg | omega | exact True.intro)
      all_goals clear hk k
      refine AW.retF (ow := []) (muts := []) ?_ (fun h => And.intro (.inr rfl) h)
      simp [go_sem, Try.results62])

set_option maxHeartbeats 600000 in
set_option linter.unusedSimpArgs false in
set_option maxRecDepth 100000 in
/-- laws.heldJournalResult -/
theorem dc_laws_heldJournalResult_on (code count : Int) (nsure : Nat) (k : Int) (hk : 0 ≤ k ∧ k + nsure ≤ 4611686018427387904) : DC Try.prog 62 [.agg [.int .i64 code, .int .i64 count, .isl 1 ((mkL b8 nsure (k)).map B1), .isl 1 []], .int .i64 k] (.int .i64 (k + nsure)) [] := by
  refine DC.intro tiOk Try.func62 rfl rfl rfl rfl rfl rfl rfl rfl [] ?_
  refine AW.reg tiOk (fun _ => []) [1, 2] ?_
  intro k hk; simp -dsimp [go_sem, -decide_eq_true_eq, -decide_eq_false_iff_not]
  repeat' (first | refine And.intro ?_ ?_ | refine hk _ ?_ | intro hg | omega | exact True.intro)
  all_goals clear hk k
  refine AW.reg tiOk (fun _ => []) [1] ?_
  intro k hk; simp -dsimp (maxSteps := 2000000) [go_sem, -decide_eq_true_eq, -decide_eq_false_iff_not]
  repeat' (first | refine And.intro ?_ ?_ | refine hk _ ?_ | intro hg | (refine CallK.intro (dc_laws_heldJournal_on nsure _ (by constructor <;> omega)) ?_; simp -dsimp (maxSteps := 2000000) [go_sem, -decide_eq_true_eq, -decide_eq_false_iff_not]) | omega | exact True.intro)
  all_goals clear hk k
  refine AW.seq ?_
  refine AW.reg tiOk (fun _ => []) [1, 10] ?_
  intro k hk; simp -dsimp [go_sem, -decide_eq_true_eq, -decide_eq_false_iff_not]
  repeat' (first | refine And.intro ?_ ?_ | refine hk _ ?_ | intro hg | omega | exact True.intro)
  all_goals clear hk k
  refine AW.cond rfl ?_ ?_
  · intro hc; try simp at hc
    all_goals try (exfalso; omega; done)
    all_goals (
      refine AW.reg tiOk (fun _ => []) [4] ?_
      intro k hk; simp -dsimp [go_sem, -decide_eq_true_eq, -decide_eq_false_iff_not]
      repeat' (first | refine And.intro ?_ ?_ | refine hk _ ?_ | intro hg | omega | exact True.intro)
      all_goals clear hk k
      refine AW.retF (ow := []) (muts := []) ?_ (fun h => And.intro (.inr rfl) h)
      simp [go_sem, Try.results62])
  · intro hc; try simp at hc
    all_goals try (exfalso; omega; done)
    all_goals (
      refine AW.skipN (fun _ h => h) ?_
      refine AW.reg tiOk (fun _ => []) [4] ?_
      intro k hk; simp -dsimp [go_sem, -decide_eq_true_eq, -decide_eq_false_iff_not]
      repeat' (first | refine And.intro ?_ ?_ | refine hk _ ?_ | intro hg | omega | exact True.intro)
      all_goals clear hk k
      refine AW.retF (ow := []) (muts := []) ?_ (fun h => And.intro (.inr rfl) h)
      simp [go_sem, Try.results62])

set_option maxHeartbeats 600000 in
set_option linter.unusedSimpArgs false in
set_option maxRecDepth 100000 in
/-- laws.heldJournalResult -/
theorem dc_laws_heldJournalResult_no (code count : Int) (nloose : Nat) (k : Int) (hk : 0 ≤ k ∧ k + nloose ≤ 4611686018427387904) : DC Try.prog 62 [.agg [.int .i64 code, .int .i64 count, .isl 1 [], .isl 1 ((mkL b8 nloose (k)).map B1)], .int .i64 k] (.int .i64 (k + nloose)) [] := by
  refine DC.intro tiOk Try.func62 rfl rfl rfl rfl rfl rfl rfl rfl [] ?_
  refine AW.reg tiOk (fun _ => []) [1, 2] ?_
  intro k hk; simp -dsimp [go_sem, -decide_eq_true_eq, -decide_eq_false_iff_not]
  repeat' (first | refine And.intro ?_ ?_ | refine hk _ ?_ | intro hg | omega | exact True.intro)
  all_goals clear hk k
  refine AW.reg tiOk (fun _ => []) [1] ?_
  intro k hk; simp -dsimp (maxSteps := 2000000) [go_sem, -decide_eq_true_eq, -decide_eq_false_iff_not]
  repeat' (first | refine And.intro ?_ ?_ | refine hk _ ?_ | intro hg | (refine CallK.intro (dc_laws_heldJournal_no nloose _ (by constructor <;> omega)) ?_; simp -dsimp (maxSteps := 2000000) [go_sem, -decide_eq_true_eq, -decide_eq_false_iff_not]) | omega | exact True.intro)
  all_goals clear hk k
  refine AW.seq ?_
  refine AW.reg tiOk (fun _ => []) [1, 10] ?_
  intro k hk; simp -dsimp [go_sem, -decide_eq_true_eq, -decide_eq_false_iff_not]
  repeat' (first | refine And.intro ?_ ?_ | refine hk _ ?_ | intro hg | omega | exact True.intro)
  all_goals clear hk k
  refine AW.cond rfl ?_ ?_
  · intro hc; try simp at hc
    all_goals try (exfalso; omega; done)
    all_goals (
      refine AW.reg tiOk (fun _ => []) [4] ?_
      intro k hk; simp -dsimp [go_sem, -decide_eq_true_eq, -decide_eq_false_iff_not]
      repeat' (first | refine And.intro ?_ ?_ | refine hk _ ?_ | intro hg | omega | exact True.intro)
      all_goals clear hk k
      refine AW.retF (ow := []) (muts := []) ?_ (fun h => And.intro (.inr rfl) h)
      simp [go_sem, Try.results62])
  · intro hc; try simp at hc
    all_goals try (exfalso; omega; done)
    all_goals (
      refine AW.skipN (fun _ h => h) ?_
      refine AW.reg tiOk (fun _ => []) [4] ?_
      intro k hk; simp -dsimp [go_sem, -decide_eq_true_eq, -decide_eq_false_iff_not]
      repeat' (first | refine And.intro ?_ ?_ | refine hk _ ?_ | intro hg | omega | exact True.intro)
      all_goals clear hk k
      refine AW.retF (ow := []) (muts := []) ?_ (fun h => And.intro (.inr rfl) h)
      simp [go_sem, Try.results62])

set_option maxHeartbeats 600000 in
set_option linter.unusedSimpArgs false in
set_option maxRecDepth 100000 in
/-- laws.heldJournalResult -/
theorem dc_laws_heldJournalResult_nn (code count : Int)  (k : Int) (hk : 0 ≤ k ∧ k ≤ 4611686018427387904) : DC Try.prog 62 [.agg [.int .i64 code, .int .i64 count, .isl 1 [], .isl 1 []], .int .i64 k] (.int .i64 (k)) [] := by
  refine DC.intro tiOk Try.func62 rfl rfl rfl rfl rfl rfl rfl rfl [] ?_
  refine AW.reg tiOk (fun _ => []) [1, 2] ?_
  intro k hk; simp -dsimp [go_sem, -decide_eq_true_eq, -decide_eq_false_iff_not]
  repeat' (first | refine And.intro ?_ ?_ | refine hk _ ?_ | intro hg | omega | exact True.intro)
  all_goals clear hk k
  refine AW.reg tiOk (fun _ => []) [1] ?_
  intro k hk; simp -dsimp (maxSteps := 2000000) [go_sem, -decide_eq_true_eq, -decide_eq_false_iff_not]
  repeat' (first | refine And.intro ?_ ?_ | refine hk _ ?_ | intro hg | (refine CallK.intro (dc_laws_heldJournal_nn  _ (by constructor <;> omega)) ?_; simp -dsimp (maxSteps := 2000000) [go_sem, -decide_eq_true_eq, -decide_eq_false_iff_not]) | omega | exact True.intro)
  all_goals clear hk k
  refine AW.seq ?_
  refine AW.reg tiOk (fun _ => []) [1, 10] ?_
  intro k hk; simp -dsimp [go_sem, -decide_eq_true_eq, -decide_eq_false_iff_not]
  repeat' (first | refine And.intro ?_ ?_ | refine hk _ ?_ | intro hg | omega | exact True.intro)
  all_goals clear hk k
  refine AW.cond rfl ?_ ?_
  · intro hc; try simp at hc
    all_goals try (exfalso; omega; done)
    all_goals (
      refine AW.reg tiOk (fun _ => []) [4] ?_
      intro k hk; simp -dsimp [go_sem, -decide_eq_true_eq, -decide_eq_false_iff_not]
      repeat' (first | refine And.intro ?_ ?_ | refine hk _ ?_ | intro hg | omega | exact True.intro)
      all_goals clear hk k
      refine AW.retF (ow := []) (muts := []) ?_ (fun h => And.intro (.inr rfl) h)
      simp [go_sem, Try.results62])
  · intro hc; try simp at hc
    all_goals try (exfalso; omega; done)
    all_goals (
      refine AW.skipN (fun _ h => h) ?_
      refine AW.reg tiOk (fun _ => []) [4] ?_
      intro k hk; simp -dsimp [go_sem, -decide_eq_true_eq, -decide_eq_false_iff_not]
      repeat' (first | refine And.intro ?_ ?_ | refine hk _ ?_ | intro hg | omega | exact True.intro)
      all_goals clear hk k
      refine AW.retF (ow := []) (muts := []) ?_ (fun h => And.intro (.inr rfl) h)
      simp [go_sem, Try.results62])

end Go.AM
