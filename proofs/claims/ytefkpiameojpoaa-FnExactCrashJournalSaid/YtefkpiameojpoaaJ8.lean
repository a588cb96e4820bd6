/- Walks. -/
import Derived.Test.YtefkpiameojpoaaJ7
set_option linter.unusedVariables false
set_option linter.unusedSimpArgs false
namespace Go.AM
open Go.Proofs

set_option maxHeartbeats 600000 in
set_option linter.unusedSimpArgs false in
set_option maxRecDepth 100000 in
/-- impl.told -/
theorem dc_impl_told_oo (s : List UInt8) (l : List UInt8) (hz : s.length + l.length ≤ 1048576) : DC Try.prog 112 [.agg [.osl 1 (s.map B1), .osl 1 (l.map B1)]] (.agg [.int .i64 0, .int .i64 ((rd (cat [s, l])).1.length : Nat), .osl 1 (s.map B1), .osl 1 (l.map B1)]) [] := by
  have hr0 : rd [] = ([], 0) := rd_no isL_nil
  refine DC.intro tiOk Try.func112 rfl rfl rfl rfl rfl rfl rfl rfl [1000] ?_
  refine AW.reg tiOk (fun _ => []) [1, 2] ?_
  intro k hk; simp -dsimp [go_sem, -decide_eq_true_eq, -decide_eq_false_iff_not]
  repeat' (first | refine And.intro ?_ ?_ | refine hk _ ?_ | intro hg | omega | exact True.intro)
  all_goals clear hk k
  refine AW.reg tiOk (fun _ => []) [2] ?_
  intro k hk; simp -dsimp (maxSteps := 2000000) [go_sem, -decide_eq_true_eq, -decide_eq_false_iff_not]
  repeat' (first | refine And.intro ?_ ?_ | (refine Chk.keys ?_; simp only [go_sem, List.map_cons, List.map_nil, List.flatMap_cons, List.flatMap_nil, List.flatMap_append, List.append_nil, List.nil_append, List.cons_append]; decide +kernel) | refine hk _ ?_ | intro hg | (refine CallK.intro (dc_impl_Journal_lines s l (by first | omega | (simp; omega) | simp)) ?_; simp -dsimp (maxSteps := 2000000) [go_sem, -decide_eq_true_eq, -decide_eq_false_iff_not]) | omega | exact True.intro)
  all_goals clear hk k
  refine AW.retF (ow := [1000]) (muts := []) ?_ (fun h => And.intro (.inr rfl) h)
  simp [go_sem, Try.results112, hr0]

set_option maxHeartbeats 600000 in
set_option linter.unusedSimpArgs false in
set_option maxRecDepth 100000 in
/-- impl.told -/
theorem dc_impl_told_on (s : List UInt8) (hz : s.length ≤ 1048576) : DC Try.prog 112 [.agg [.osl 1 (s.map B1), .nils]] (.agg [.int .i64 0, .int .i64 ((rd s).1.length : Nat), .osl 1 (s.map B1), .isl 1 []]) [] := by
  have hr0 : rd [] = ([], 0) := rd_no isL_nil
  refine DC.intro tiOk Try.func112 rfl rfl rfl rfl rfl rfl rfl rfl [1000] ?_
  refine AW.reg tiOk (fun _ => []) [1, 2] ?_
  intro k hk; simp -dsimp [go_sem, -decide_eq_true_eq, -decide_eq_false_iff_not]
  repeat' (first | refine And.intro ?_ ?_ | refine hk _ ?_ | intro hg | omega | exact True.intro)
  all_goals clear hk k
  refine AW.cellLe (nd := ?nd_1) (c := ?c_1) (x := ?x_1) 1 0 1 (.isl 1 []) ?h1_1 ?h2_1 ?h3_1 ?h4_1 ?kk_1
  (case h1_1 => exact rfl)
  (case h2_1 => exact rfl)
  (case h3_1 => exact rfl)
  (case h4_1 => simp [go_sem])
  refine AW.reg tiOk (fun _ => []) [2] ?_
  intro k hk; simp -dsimp (maxSteps := 2000000) [go_sem, -decide_eq_true_eq, -decide_eq_false_iff_not]
  repeat' (first | refine And.intro ?_ ?_ | (refine Chk.keys ?_; simp only [go_sem, List.map_cons, List.map_nil, List.flatMap_cons, List.flatMap_nil, List.flatMap_append, List.append_nil, List.nil_append, List.cons_append]; decide +kernel) | refine hk _ ?_ | intro hg | (refine CallK.intro (dc_impl_Journal_lines s [] (by first | omega | (simp; omega) | simp)) ?_; simp -dsimp (maxSteps := 2000000) [go_sem, -decide_eq_true_eq, -decide_eq_false_iff_not]) | omega | exact True.intro)
  all_goals clear hk k
  refine AW.retF (ow := [1000]) (muts := []) ?_ (fun h => And.intro (.inr rfl) h)
  simp [go_sem, Try.results112, hr0]

set_option maxHeartbeats 600000 in
set_option linter.unusedSimpArgs false in
set_option maxRecDepth 100000 in
/-- impl.told -/
theorem dc_impl_told_no (l : List UInt8) (hz : l.length ≤ 1048576) : DC Try.prog 112 [.agg [.isl 1 [], .osl 1 (l.map B1)]] (.agg [.int .i64 0, .int .i64 ((rd l).1.length : Nat), .isl 1 [], .osl 1 (l.map B1)]) [] := by
  have hr0 : rd [] = ([], 0) := rd_no isL_nil
  refine DC.intro tiOk Try.func112 rfl rfl rfl rfl rfl rfl rfl rfl [1000] ?_
  refine AW.reg tiOk (fun _ => []) [1, 2] ?_
  intro k hk; simp -dsimp [go_sem, -decide_eq_true_eq, -decide_eq_false_iff_not]
  repeat' (first | refine And.intro ?_ ?_ | refine hk _ ?_ | intro hg | omega | exact True.intro)
  all_goals clear hk k
  refine AW.reg tiOk (fun _ => []) [2] ?_
  intro k hk; simp -dsimp (maxSteps := 2000000) [go_sem, -decide_eq_true_eq, -decide_eq_false_iff_not]
  repeat' (first | refine And.intro ?_ ?_ | (refine Chk.keys ?_; simp only [go_sem, List.map_cons, List.map_nil, List.flatMap_cons, List.flatMap_nil, List.flatMap_append, List.append_nil, List.nil_append, List.cons_append]; decide +kernel) | refine hk _ ?_ | intro hg | (refine CallK.intro (dc_impl_Journal_lines [] l (by first | omega | (simp; omega) | simp)) ?_; simp -dsimp (maxSteps := 2000000) [go_sem, -decide_eq_true_eq, -decide_eq_false_iff_not]) | omega | exact True.intro)
  all_goals clear hk k
  refine AW.retF (ow := [1000]) (muts := []) ?_ (fun h => And.intro (.inr rfl) h)
  simp [go_sem, Try.results112, hr0]

set_option maxHeartbeats 600000 in
set_option linter.unusedSimpArgs false in
set_option maxRecDepth 100000 in
/-- impl.told -/
theorem dc_impl_told_nn   : DC Try.prog 112 [.agg [.isl 1 [], .nils]] (.agg [.int .i64 0, .int .i64 0, .isl 1 [], .isl 1 []]) [] := by
  have hr0 : rd [] = ([], 0) := rd_no isL_nil
  refine DC.intro tiOk Try.func112 rfl rfl rfl rfl rfl rfl rfl rfl [1000] ?_
  refine AW.reg tiOk (fun _ => []) [1, 2] ?_
  intro k hk; simp -dsimp [go_sem, -decide_eq_true_eq, -decide_eq_false_iff_not]
  repeat' (first | refine And.intro ?_ ?_ | refine hk _ ?_ | intro hg | omega | exact True.intro)
  all_goals clear hk k
  refine AW.cellLe (nd := ?nd_1) (c := ?c_1) (x := ?x_1) 1 0 1 (.isl 1 []) ?h1_1 ?h2_1 ?h3_1 ?h4_1 ?kk_1
  (case h1_1 => exact rfl)
  (case h2_1 => exact rfl)
  (case h3_1 => exact rfl)
  (case h4_1 => simp [go_sem])
  refine AW.reg tiOk (fun _ => []) [2] ?_
  intro k hk; simp -dsimp (maxSteps := 2000000) [go_sem, -decide_eq_true_eq, -decide_eq_false_iff_not]
  repeat' (first | refine And.intro ?_ ?_ | (refine Chk.keys ?_; simp only [go_sem, List.map_cons, List.map_nil, List.flatMap_cons, List.flatMap_nil, List.flatMap_append, List.append_nil, List.nil_append, List.cons_append]; decide +kernel) | refine hk _ ?_ | intro hg | (refine CallK.intro (dc_impl_Journal_lines [] [] (by first | omega | (simp; omega) | simp)) ?_; simp -dsimp (maxSteps := 2000000) [go_sem, -decide_eq_true_eq, -decide_eq_false_iff_not]) | omega | exact True.intro)
  all_goals clear hk k
  refine AW.retF (ow := [1000]) (muts := []) ?_ (fun h => And.intro (.inr rfl) h)
  simp [go_sem, Try.results112, hr0]

end Go.AM
