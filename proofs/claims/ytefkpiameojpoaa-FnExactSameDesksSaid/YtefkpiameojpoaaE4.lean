/- Walks. -/
import Derived.Test.YtefkpiameojpoaaE2
import Derived.Test.YtefkpiameojpoaaE3
namespace Go.AM
open Go.Proofs

set_option maxHeartbeats 600000 in
set_option linter.unusedSimpArgs false in
set_option maxRecDepth 100000 in
/-- spec.SameEngines -/
theorem dc_spec_SameEngines (a b : TEngine) (hg : a.gok) : DC Try.prog 70 [.agg a.ro, .agg b.ro] (.bool (decide (a = b))) [] := by
  obtain ⟨⟨h0, h1⟩, ⟨h2, h3⟩⟩ := hg
  refine DC.intro tiOk Try.func70 rfl rfl rfl rfl rfl rfl rfl rfl [] ?_
  refine AW.reg tiOk (fun _ => []) [2, 3, 15, 16, 17, 18, 19, 20, 21, 24, 25, 26, 27, 28, 72, 73, 74, 75, 76, 77, 78, 79, 80, 81, 82, 83, 84, 85] ?_
  intro k hk; simp -dsimp (maxSteps := 2000000) [go_sem, -decide_eq_true_eq, -decide_eq_false_iff_not]
  repeat' (first | refine And.intro ?_ ?_ | refine hk _ ?_ | (intro hg; try simp only [decide_eq_true_eq, decide_eq_false_iff_not] at hg) | omega | exact True.intro)
  all_goals clear hk k
  refine AW.seq ?_
  refine AW.reg tiOk (fun _ => []) [2, 3, 29, 72, 73, 74, 75, 76, 77, 78, 79, 80, 81, 82, 83, 84, 85] ?_
  intro k hk; simp +contextual -dsimp (maxSteps := 2000000) [go_sem, -decide_eq_true_eq, -decide_eq_false_iff_not]
  repeat' (first | refine And.intro ?_ ?_ | refine hk _ ?_ | (intro hg; try simp only [decide_eq_true_eq, decide_eq_false_iff_not] at hg) | omega | exact True.intro)
  all_goals clear hk k
  all_goals (
    refine AW.cond rfl ?_ ?_
    · intro hc; try simp at hc
      all_goals (
        refine AW.reg tiOk (fun _ => []) [4] ?_
        intro k hk; simp -dsimp (maxSteps := 2000000) [go_sem, -decide_eq_true_eq, -decide_eq_false_iff_not]
        repeat' (first | refine And.intro ?_ ?_ | refine hk _ ?_ | (intro hg; try simp only [decide_eq_true_eq, decide_eq_false_iff_not] at hg) | omega | exact True.intro)
        all_goals clear hk k
        refine AW.retF (ow := []) (muts := []) ?_ (fun h => And.intro (.inr rfl) h)
        first | (rw [decide_eq_false (fun e => by subst e; first | omega | (rw [hx] at hy; cases hy; simp_all; done) | (simp_all; done))]; simp [go_sem, Try.results70]; done) | (rw [decide_eq_true (eng_end hinvi (by omega) (by omega) hinvj (by omega) (by omega) (by omega))]; simp [go_sem, Try.results70]))
    · intro hc; try simp at hc
      all_goals (
        refine AW.skipN (fun _ h => h) ?_
        refine AW.seq ?_
        refine AW.reg tiOk (fun _ => []) [2, 3, 5, 72, 73, 74, 75, 76, 77, 78, 79, 80, 81, 82, 83, 84, 85] ?_
        intro k hk; simp -dsimp (maxSteps := 2000000) [go_sem, -decide_eq_true_eq, -decide_eq_false_iff_not]
        repeat' (first | refine And.intro ?_ ?_ | refine hk _ ?_ | (intro hg; try simp only [decide_eq_true_eq, decide_eq_false_iff_not] at hg) | omega | exact True.intro)
        all_goals clear hk k
        refine AW.block ?_
        -- live at the loop's head: [2, 3, 5, 72, 73, 74, 75, 76, 77, 78, 79, 80, 81, 82, 83, 84, 85]
        refine AW.loopI (fun i : Nat => ⟨87, [(2, .ptr 2 3 0 0), (3, .ptr 3 3 0 0), (5, .int .i64 i)], [(2, some ⟨3, [[.isl 1 (a.procs.map TProc.ro), .isl 6 (a.insts.map TInst.ro), .int .i64 a.now]]⟩), (3, some ⟨3, [[.isl 1 (b.procs.map TProc.ro), .isl 6 (b.insts.map TInst.ro), .int .i64 b.now]]⟩)]⟩) (fun i => i ≤ a.procs.length ∧ a.procs.take i = b.procs.take i) (fun i => a.procs.length - i) (0) (by simp) (Less.of rfl (by simp [go_sem]) (by simp [go_sem])) ?_
        rintro i ⟨hii, hinvi⟩
        refine AW.seq ?_
        refine AW.reg tiOk (fun _ => []) [2, 3, 5, 34, 72, 73, 74, 75, 76, 77, 78, 79, 80, 81, 82, 83, 84, 85] ?_
        intro k hk; simp -dsimp (maxSteps := 2000000) [go_sem, -decide_eq_true_eq, -decide_eq_false_iff_not]
        repeat' (first | refine And.intro ?_ ?_ | refine hk _ ?_ | (intro hg; try simp only [decide_eq_true_eq, decide_eq_false_iff_not] at hg) | omega | exact True.intro)
        all_goals clear hk k
        refine AW.cond rfl ?_ ?_
        · intro hc; try simp at hc
          all_goals (
            have hlti : i < a.procs.length := by assumption
            obtain ⟨x, hx⟩ := at_some hlti
            obtain ⟨y, hy⟩ := at_some (l := b.procs) (show i < b.procs.length by omega)
            have hla := at_lt hy
            refine AW.skipN (fun _ h => h) ?_
            refine AW.seq ?_
            refine AW.block ?_
            refine AW.reg tiOk (fun _ => []) [2, 3, 5, 50, 72, 73, 74, 75, 76, 77, 78, 79, 80, 81, 82, 83, 84, 85] ?_
            intro k hk; simp -dsimp (maxSteps := 2000000) [go_sem, -decide_eq_true_eq, -decide_eq_false_iff_not, hx, hy]
            repeat' (first | refine And.intro ?_ ?_ | (refine Chk.keys ?_; simp only [go_sem, List.map_cons, List.map_nil, List.flatMap_cons, List.flatMap_nil, List.flatMap_append, List.append_nil, List.nil_append, List.cons_append]; decide +kernel) | refine hk _ ?_ | (intro hg; try simp only [decide_eq_true_eq, decide_eq_false_iff_not] at hg) | (refine CallK.intro (dc_spec_SameProcs x.steps y.steps (by have := h1 x (List.mem_of_getElem? hx); exact this)) ?_; simp -dsimp (maxSteps := 2000000) [go_sem, -decide_eq_true_eq, -decide_eq_false_iff_not, hx, hy]) | omega | exact True.intro)
            all_goals clear hk k
            refine AW.cond rfl ?_ ?_
            · intro hc; try simp at hc
              all_goals (
                refine AW.reg tiOk (fun _ => []) [4] ?_
                intro k hk; simp -dsimp (maxSteps := 2000000) [go_sem, -decide_eq_true_eq, -decide_eq_false_iff_not, hx, hy]
                repeat' (first | refine And.intro ?_ ?_ | refine hk _ ?_ | (intro hg; try simp only [decide_eq_true_eq, decide_eq_false_iff_not] at hg) | omega | exact True.intro)
                all_goals clear hk k
                refine AW.retF (ow := []) (muts := []) ?_ (fun h => And.intro (.inr rfl) h)
                first | (rw [decide_eq_false (fun e => by subst e; first | omega | (rw [hx] at hy; cases hy; simp_all; done) | (simp_all; done))]; simp [go_sem, Try.results70]; done) | (rw [decide_eq_true (eng_end hinvi (by omega) (by omega) hinvj (by omega) (by omega) (by omega))]; simp [go_sem, Try.results70]))
            · intro hc; try simp at hc
              all_goals (
                refine AW.skipN (fun _ h => h) ?_
                refine AW.regK tiOk (fun _ => []) ?_
                intro k hk; simp -dsimp (maxSteps := 2000000) [go_sem, -decide_eq_true_eq, -decide_eq_false_iff_not, hx, hy]
                repeat' (first | refine And.intro ?_ ?_ | refine hk _ ?_ | (intro hg; try simp only [decide_eq_true_eq, decide_eq_false_iff_not] at hg) | omega | exact True.intro)
                all_goals clear hk k
                show ∃ _, _
                have hw := wrapi hlti (by omega)
                refine ⟨i + 1, ⟨by omega, take_step hx hy (by first | assumption | (cases x; cases y; simp_all; done)) hinvi⟩, by omega, Less.of rfl (by simp [go_sem, hw]) (by simp [go_sem])⟩))
        · intro hc; try simp at hc
          all_goals (
            refine AW.exitN (fun _ h => h) ?_
            refine AW.seq ?_
            refine AW.reg tiOk (fun _ => []) [2, 3, 6, 72, 73, 74, 75, 76, 77, 78, 79, 80, 81, 82, 83, 84, 85] ?_
            intro k hk; simp -dsimp (maxSteps := 2000000) [go_sem, -decide_eq_true_eq, -decide_eq_false_iff_not]
            repeat' (first | refine And.intro ?_ ?_ | refine hk _ ?_ | (intro hg; try simp only [decide_eq_true_eq, decide_eq_false_iff_not] at hg) | omega | exact True.intro)
            all_goals clear hk k
            refine AW.block ?_
            -- live at the loop's head: [2, 3, 6, 72, 73, 74, 75, 76, 77, 78, 79, 80, 81, 82, 83, 84, 85]
            refine AW.loopI (fun i : Nat => ⟨87, [(2, .ptr 2 3 0 0), (3, .ptr 3 3 0 0), (6, .int .i64 i)], [(2, some ⟨3, [[.isl 1 (a.procs.map TProc.ro), .isl 6 (a.insts.map TInst.ro), .int .i64 a.now]]⟩), (3, some ⟨3, [[.isl 1 (b.procs.map TProc.ro), .isl 6 (b.insts.map TInst.ro), .int .i64 b.now]]⟩)]⟩) (fun i => i ≤ a.insts.length ∧ a.insts.take i = b.insts.take i) (fun i => a.insts.length - i) (0) (by simp) (Less.of rfl (by simp [go_sem]) (by simp [go_sem])) ?_
            rintro j ⟨hij, hinvj⟩
            refine AW.seq ?_
            refine AW.reg tiOk (fun _ => []) [2, 3, 6, 55, 72, 73, 74, 75, 76, 77, 78, 79, 80, 81, 82, 83, 84, 85] ?_
            intro k hk; simp -dsimp (maxSteps := 2000000) [go_sem, -decide_eq_true_eq, -decide_eq_false_iff_not]
            repeat' (first | refine And.intro ?_ ?_ | refine hk _ ?_ | (intro hg; try simp only [decide_eq_true_eq, decide_eq_false_iff_not] at hg) | omega | exact True.intro)
            all_goals clear hk k
            refine AW.cond rfl ?_ ?_
            · intro hc; try simp at hc
              all_goals (
                have hltj : j < a.insts.length := by assumption
                obtain ⟨x, hx⟩ := at_some hltj
                obtain ⟨y, hy⟩ := at_some (l := b.insts) (show j < b.insts.length by omega)
                have hla := at_lt hy
                refine AW.skipN (fun _ h => h) ?_
                refine AW.seq ?_
                refine AW.block ?_
                refine AW.reg tiOk (fun _ => []) [2, 3, 6, 72, 73, 74, 75, 76, 77, 78, 79, 80, 81, 82, 83, 84, 85, 86] ?_
                intro k hk; simp +contextual -dsimp (maxSteps := 2000000) [go_sem, -decide_eq_true_eq, -decide_eq_false_iff_not, hx, hy]
                repeat' (first | refine And.intro ?_ ?_ | (refine Chk.keys ?_; simp only [go_sem, List.map_cons, List.map_nil, List.flatMap_cons, List.flatMap_nil, List.flatMap_append, List.append_nil, List.nil_append, List.cons_append]; decide +kernel) | refine hk _ ?_ | (intro hg; try simp only [decide_eq_true_eq, decide_eq_false_iff_not] at hg) | (refine CallK.intro (dc_spec_SameCharts x.chart y.chart (by have := h3 x (List.mem_of_getElem? hx); exact this)) ?_; simp +contextual -dsimp (maxSteps := 2000000) [go_sem, -decide_eq_true_eq, -decide_eq_false_iff_not, hx, hy]) | omega | exact True.intro)
                all_goals clear hk k
                all_goals (
                  refine AW.cond rfl ?_ ?_
                  · intro hc; try simp at hc
                    all_goals (
                      refine AW.reg tiOk (fun _ => []) [4] ?_
                      intro k hk; simp -dsimp (maxSteps := 2000000) [go_sem, -decide_eq_true_eq, -decide_eq_false_iff_not, hx, hy]
                      repeat' (first | refine And.intro ?_ ?_ | refine hk _ ?_ | (intro hg; try simp only [decide_eq_true_eq, decide_eq_false_iff_not] at hg) | omega | exact True.intro)
                      all_goals clear hk k
                      refine AW.retF (ow := []) (muts := []) ?_ (fun h => And.intro (.inr rfl) h)
                      first | (rw [decide_eq_false (fun e => by subst e; first | omega | (rw [hx] at hy; cases hy; simp_all; done) | (simp_all; done))]; simp [go_sem, Try.results70]; done) | (rw [decide_eq_true (eng_end hinvi (by omega) (by omega) hinvj (by omega) (by omega) (by omega))]; simp [go_sem, Try.results70]))
                  · intro hc; try simp at hc
                    all_goals (
                      refine AW.skipN (fun _ h => h) ?_
                      refine AW.regK tiOk (fun _ => []) ?_
                      intro k hk; simp -dsimp (maxSteps := 2000000) [go_sem, -decide_eq_true_eq, -decide_eq_false_iff_not, hx, hy]
                      repeat' (first | refine And.intro ?_ ?_ | refine hk _ ?_ | (intro hg; try simp only [decide_eq_true_eq, decide_eq_false_iff_not] at hg) | omega | exact True.intro)
                      all_goals clear hk k
                      show ∃ _, _
                      have hw := wrapi hltj (by omega)
                      refine ⟨j + 1, ⟨by omega, take_step hx hy (by first | assumption | (cases x; cases y; simp_all; done)) hinvj⟩, by omega, Less.of rfl (by simp [go_sem, hw]) (by simp [go_sem])⟩)))
            · intro hc; try simp at hc
              all_goals (
                refine AW.exitN (fun _ h => h) ?_
                refine AW.reg tiOk (fun _ => []) [4] ?_
                intro k hk; simp -dsimp (maxSteps := 2000000) [go_sem, -decide_eq_true_eq, -decide_eq_false_iff_not]
                repeat' (first | refine And.intro ?_ ?_ | refine hk _ ?_ | (intro hg; try simp only [decide_eq_true_eq, decide_eq_false_iff_not] at hg) | omega | exact True.intro)
                all_goals clear hk k
                refine AW.retF (ow := []) (muts := []) ?_ (fun h => And.intro (.inr rfl) h)
                first | (rw [decide_eq_false (fun e => by subst e; first | omega | (rw [hx] at hy; cases hy; simp_all; done) | (simp_all; done))]; simp [go_sem, Try.results70]; done) | (rw [decide_eq_true (eng_end hinvi (by omega) (by omega) hinvj (by omega) (by omega) (by omega))]; simp [go_sem, Try.results70])))))

end Go.AM
