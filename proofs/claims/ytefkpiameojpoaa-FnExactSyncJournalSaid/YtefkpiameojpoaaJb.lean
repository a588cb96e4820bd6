/- Walks. -/
import Derived.Test.YtefkpiameojpoaaJ9
namespace Go.AM
open Go.Proofs

set_option maxHeartbeats 600000 in
set_option linter.unusedSimpArgs false in
set_option maxRecDepth 100000 in
/-- spec.SyncJournal -/
theorem dc_spec_SyncJournal_p (j : TJournal) (hz : j.sz ≤ 1048576) (hl : jouF j = 0) (h0 : 0 < (cat [j.sure, j.loose]).length) : DC Try.prog 57 [.agg j.ro] (.agg [.int .i64 0, .int .i64 ((rd (cat [j.sure, j.loose])).1.length : Nat), .osl 1 ((cat [j.sure, j.loose]).map B1), .isl 1 []]) [] := by
  have hz2 := hz
  unfold TJournal.sz at hz2
  have hcl : (cat [j.sure, j.loose]).length = j.sure.length + j.loose.length := by rw [cat_two, List.length_append]
  have mapB2 : j.sure.map B1 ++ j.loose.map B1 = (cat [j.sure, j.loose]).map B1 := by rw [cat_two, List.map_append]
  have htk : List.take (j.sure.length + j.loose.length) ((cat [j.sure, j.loose]).map B1) = (cat [j.sure, j.loose]).map B1 := by rw [← hcl]; exact take_len_map _ _
  refine DC.intro tiOk Try.func57 rfl rfl rfl rfl rfl rfl rfl rfl [1000] ?_
  refine AW.reg tiOk (fun _ => []) [1, 2] ?_
  intro k hk; simp -dsimp (maxSteps := 2000000) [go_sem, -decide_eq_true_eq, -decide_eq_false_iff_not, hl, mapB2, htk]
  repeat' (first | refine And.intro ?_ ?_ | refine hk _ ?_ | (intro hg; try simp only [decide_eq_true_eq, decide_eq_false_iff_not] at hg) | omega | exact True.intro)
  all_goals clear hk k
  refine AW.seq ?_
  refine AW.reg tiOk (fun _ => []) [1, 2, 3] ?_
  intro k hk; simp -dsimp (maxSteps := 2000000) [go_sem, -decide_eq_true_eq, -decide_eq_false_iff_not, hl, mapB2, htk]
  repeat' (first | refine And.intro ?_ ?_ | refine hk _ ?_ | (intro hg; try simp only [decide_eq_true_eq, decide_eq_false_iff_not] at hg) | (refine CallK.intro (dc_spec_l13Fault j hz) ?_; simp -dsimp (maxSteps := 2000000) [go_sem, -decide_eq_true_eq, -decide_eq_false_iff_not, hl, mapB2, htk]) | omega | exact True.intro)
  all_goals clear hk k
  refine AW.reg tiOk (fun _ => []) [1, 2, 3, 6] ?_
  intro k hk; simp -dsimp (maxSteps := 2000000) [go_sem, -decide_eq_true_eq, -decide_eq_false_iff_not, hl, mapB2, htk]
  repeat' (first | refine And.intro ?_ ?_ | refine hk _ ?_ | (intro hg; try simp only [decide_eq_true_eq, decide_eq_false_iff_not] at hg) | omega | exact True.intro)
  all_goals clear hk k
  refine AW.cond rfl ?_ ?_
  · intro hc; try simp at hc
    all_goals try (exfalso; contradiction; done)
    all_goals (
      refine AW.reg tiOk (fun _ => []) [2] ?_
      intro k hk; simp -dsimp (maxSteps := 2000000) [go_sem, -decide_eq_true_eq, -decide_eq_false_iff_not, hl, mapB2, htk]
      repeat' (first | refine And.intro ?_ ?_ | refine hk _ ?_ | (intro hg; try simp only [decide_eq_true_eq, decide_eq_false_iff_not] at hg) | omega | exact True.intro)
      all_goals clear hk k
      refine AW.retF (ow := [1000]) (muts := []) ?_ (fun h => And.intro (.inr rfl) h)
      simp [go_sem, Try.results57])
  · intro hc; try simp at hc
    all_goals try (exfalso; contradiction; done)
    all_goals (
      refine AW.skipN (fun _ h => h) ?_
      refine AW.reg tiOk (fun _ => []) [2] ?_
      intro k hk; simp -dsimp (maxSteps := 2000000) [go_sem, -decide_eq_true_eq, -decide_eq_false_iff_not, hl, mapB2, htk]
      repeat' (first | refine And.intro ?_ ?_ | (refine Chk.keys ?_; simp only [go_sem, List.map_cons, List.map_nil, List.flatMap_cons, List.flatMap_nil, List.flatMap_append, List.append_nil, List.nil_append, List.cons_append]; decide +kernel) | refine hk _ ?_ | (intro hg; try simp only [decide_eq_true_eq, decide_eq_false_iff_not] at hg) | (refine CallK.intro (dc_spec_l13Of_on (cat [j.sure, j.loose]) (by omega)) ?_; simp -dsimp (maxSteps := 2000000) [go_sem, -decide_eq_true_eq, -decide_eq_false_iff_not, hl, mapB2, htk]) | omega | exact True.intro)
      all_goals clear hk k
      refine AW.retF (ow := [1000]) (muts := []) ?_ (fun h => And.intro (.inr rfl) h)
      simp [go_sem, Try.results57])

set_option maxHeartbeats 600000 in
set_option linter.unusedSimpArgs false in
set_option maxRecDepth 100000 in
/-- spec.SyncJournal -/
theorem dc_spec_SyncJournal_z (j : TJournal) (hz : j.sz ≤ 1048576) (hl : jouF j = 0) (h0 : (cat [j.sure, j.loose]) = []) : DC Try.prog 57 [.agg j.ro] (.agg [.int .i64 0, .int .i64 0, .isl 1 [], .isl 1 []]) [] := by
  have hz2 := hz
  unfold TJournal.sz at hz2
  have hcl : (cat [j.sure, j.loose]).length = j.sure.length + j.loose.length := by rw [cat_two, List.length_append]
  have mapB2 : j.sure.map B1 ++ j.loose.map B1 = (cat [j.sure, j.loose]).map B1 := by rw [cat_two, List.map_append]
  have htk : List.take (j.sure.length + j.loose.length) ((cat [j.sure, j.loose]).map B1) = (cat [j.sure, j.loose]).map B1 := by rw [← hcl]; exact take_len_map _ _
  have hs0 : j.sure = [] := List.eq_nil_of_length_eq_zero (by have := congrArg List.length h0; simp only [List.length_nil] at this; omega)
  have hl0 : j.loose = [] := List.eq_nil_of_length_eq_zero (by have := congrArg List.length h0; simp only [List.length_nil] at this; omega)
  refine DC.intro tiOk Try.func57 rfl rfl rfl rfl rfl rfl rfl rfl [1000] ?_
  refine AW.reg tiOk (fun _ => []) [1, 2] ?_
  intro k hk; simp -dsimp (maxSteps := 2000000) [go_sem, -decide_eq_true_eq, -decide_eq_false_iff_not, hl, mapB2, htk, h0]
  repeat' (first | refine And.intro ?_ ?_ | refine hk _ ?_ | (intro hg; try simp only [decide_eq_true_eq, decide_eq_false_iff_not] at hg) | omega | exact True.intro | exact hs0 | exact hl0)
  all_goals clear hk k
  refine AW.seq ?_
  refine AW.reg tiOk (fun _ => []) [1, 2, 3] ?_
  intro k hk; simp -dsimp (maxSteps := 2000000) [go_sem, -decide_eq_true_eq, -decide_eq_false_iff_not, hl, mapB2, htk, h0]
  repeat' (first | refine And.intro ?_ ?_ | refine hk _ ?_ | (intro hg; try simp only [decide_eq_true_eq, decide_eq_false_iff_not] at hg) | (refine CallK.intro (dc_spec_l13Fault j hz) ?_; simp -dsimp (maxSteps := 2000000) [go_sem, -decide_eq_true_eq, -decide_eq_false_iff_not, hl, mapB2, htk, h0]) | omega | exact True.intro | exact hs0 | exact hl0)
  all_goals clear hk k
  refine AW.reg tiOk (fun _ => []) [1, 2, 3, 6] ?_
  intro k hk; simp -dsimp (maxSteps := 2000000) [go_sem, -decide_eq_true_eq, -decide_eq_false_iff_not, hl, mapB2, htk, h0]
  repeat' (first | refine And.intro ?_ ?_ | refine hk _ ?_ | (intro hg; try simp only [decide_eq_true_eq, decide_eq_false_iff_not] at hg) | omega | exact True.intro | exact hs0 | exact hl0)
  all_goals clear hk k
  refine AW.cond rfl ?_ ?_
  · intro hc; try simp at hc
    all_goals try (exfalso; contradiction; done)
    all_goals (
      refine AW.reg tiOk (fun _ => []) [2] ?_
      intro k hk; simp -dsimp (maxSteps := 2000000) [go_sem, -decide_eq_true_eq, -decide_eq_false_iff_not, hl, mapB2, htk, h0]
      repeat' (first | refine And.intro ?_ ?_ | refine hk _ ?_ | (intro hg; try simp only [decide_eq_true_eq, decide_eq_false_iff_not] at hg) | omega | exact True.intro | exact hs0 | exact hl0)
      all_goals clear hk k
      refine AW.retF (ow := [1000]) (muts := []) ?_ (fun h => And.intro (.inr rfl) h)
      simp [go_sem, Try.results57])
  · intro hc; try simp at hc
    all_goals try (exfalso; contradiction; done)
    all_goals (
      refine AW.skipN (fun _ h => h) ?_
      refine AW.reg tiOk (fun _ => []) [2] ?_
      intro k hk; simp -dsimp (maxSteps := 2000000) [go_sem, -decide_eq_true_eq, -decide_eq_false_iff_not, hl, mapB2, htk, h0]
      repeat' (first | refine And.intro ?_ ?_ | (refine Chk.keys ?_; simp only [go_sem, List.map_cons, List.map_nil, List.flatMap_cons, List.flatMap_nil, List.flatMap_append, List.append_nil, List.nil_append, List.cons_append]; decide +kernel) | refine hk _ ?_ | (intro hg; try simp only [decide_eq_true_eq, decide_eq_false_iff_not] at hg) | (refine CallK.intro (dc_spec_l13Of_nn) ?_; simp -dsimp (maxSteps := 2000000) [go_sem, -decide_eq_true_eq, -decide_eq_false_iff_not, hl, mapB2, htk, h0]) | omega | exact True.intro | exact hs0 | exact hl0)
      all_goals clear hk k
      refine AW.retF (ow := [1000]) (muts := []) ?_ (fun h => And.intro (.inr rfl) h)
      simp [go_sem, Try.results57])

end Go.AM
