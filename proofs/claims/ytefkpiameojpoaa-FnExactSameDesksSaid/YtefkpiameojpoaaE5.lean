/- Walks. -/
import Derived.Test.YtefkpiameojpoaaE4
namespace Go.AM
open Go.Proofs

set_option maxHeartbeats 600000 in
set_option linter.unusedSimpArgs false in
set_option maxRecDepth 100000 in
/-- spec.SameDesks -/
theorem dc_spec_SameDesks (a b : TDesk) (hg : a.gok) : DC Try.prog 75 [.agg a.ro, .agg b.ro] (.bool (decide (a = b))) [] := by
  obtain ⟨h0, h1⟩ := hg
  refine DC.intro tiOk Try.func75 rfl rfl rfl rfl rfl rfl rfl rfl [] ?_
  refine AW.reg tiOk (fun _ => []) [2, 3, 13, 14, 15, 16, 17, 18, 19] ?_
  intro k hk; simp -dsimp (maxSteps := 2000000) [go_sem, -decide_eq_true_eq, -decide_eq_false_iff_not]
  repeat' (first | refine And.intro ?_ ?_ | refine hk _ ?_ | (intro hg; try simp only [decide_eq_true_eq, decide_eq_false_iff_not] at hg) | omega | exact True.intro)
  all_goals clear hk k
  refine AW.seq ?_
  refine AW.reg tiOk (fun _ => []) [2, 3, 20] ?_
  intro k hk; simp +contextual -dsimp (maxSteps := 2000000) [go_sem, -decide_eq_true_eq, -decide_eq_false_iff_not]
  repeat' (first | refine And.intro ?_ ?_ | refine hk _ ?_ | (intro hg; try simp only [decide_eq_true_eq, decide_eq_false_iff_not] at hg) | (refine CallK.intro (dc_spec_SameEngines a.engine b.engine h0) ?_; simp +contextual -dsimp (maxSteps := 2000000) [go_sem, -decide_eq_true_eq, -decide_eq_false_iff_not]) | omega | exact True.intro)
  all_goals clear hk k
  all_goals (
    refine AW.cond rfl ?_ ?_
    · intro hc; try simp at hc
      all_goals (
        refine AW.reg tiOk (fun _ => []) [4] ?_
        intro k hk; simp -dsimp (maxSteps := 2000000) [go_sem, -decide_eq_true_eq, -decide_eq_false_iff_not]
        repeat' (first | refine And.intro ?_ ?_ | refine hk _ ?_ | (intro hg; try simp only [decide_eq_true_eq, decide_eq_false_iff_not] at hg) | omega | exact True.intro)
        all_goals clear hk k
        refine AW.retF (ow := []) (muts := []) ?_ (fun h => And.intro (.inr rfl) h)
        first | (rw [decide_eq_false (fun e => by subst e; first | omega | (rw [hx] at hy; cases hy; simp_all; done) | (simp_all; done))]; simp [go_sem, Try.results75]; done) | (rw [decide_eq_true (desk_end (by assumption) hinvi (by omega) (by omega))]; simp [go_sem, Try.results75]))
    · intro hc; try simp at hc
      all_goals (
        refine AW.skipN (fun _ h => h) ?_
        refine AW.seq ?_
        refine AW.reg tiOk (fun _ => []) [2, 3, 5] ?_
        intro k hk; simp -dsimp (maxSteps := 2000000) [go_sem, -decide_eq_true_eq, -decide_eq_false_iff_not]
        repeat' (first | refine And.intro ?_ ?_ | refine hk _ ?_ | (intro hg; try simp only [decide_eq_true_eq, decide_eq_false_iff_not] at hg) | omega | exact True.intro)
        all_goals clear hk k
        refine AW.block ?_
        -- live at the loop's head: [2, 3, 5]
        refine AW.loopI (fun i : Nat => ⟨39, [(2, .ptr 2 4 0 0), (3, .ptr 3 4 0 0), (5, .int .i64 i)], [(2, some ⟨4, [[.isl 1 (a.engine.procs.map TProc.ro), .isl 6 (a.engine.insts.map TInst.ro), .int .i64 a.engine.now, .isl 3 (a.claims.map TClaim.ro)]]⟩), (3, some ⟨4, [[.isl 1 (b.engine.procs.map TProc.ro), .isl 6 (b.engine.insts.map TInst.ro), .int .i64 b.engine.now, .isl 3 (b.claims.map TClaim.ro)]]⟩)]⟩) (fun i => i ≤ a.claims.length ∧ a.claims.take i = b.claims.take i) (fun i => a.claims.length - i) (0) (by simp) (Less.of rfl (by simp [go_sem]) (by simp [go_sem])) ?_
        rintro i ⟨hii, hinvi⟩
        refine AW.seq ?_
        refine AW.reg tiOk (fun _ => []) [2, 3, 5, 25] ?_
        intro k hk; simp -dsimp (maxSteps := 2000000) [go_sem, -decide_eq_true_eq, -decide_eq_false_iff_not]
        repeat' (first | refine And.intro ?_ ?_ | refine hk _ ?_ | (intro hg; try simp only [decide_eq_true_eq, decide_eq_false_iff_not] at hg) | omega | exact True.intro)
        all_goals clear hk k
        refine AW.cond rfl ?_ ?_
        · intro hc; try simp at hc
          all_goals (
            have hlti : i < a.claims.length := by assumption
            obtain ⟨x, hx⟩ := at_some hlti
            obtain ⟨y, hy⟩ := at_some (l := b.claims) (show i < b.claims.length by omega)
            have hla := at_lt hy
            refine AW.skipN (fun _ h => h) ?_
            refine AW.seq ?_
            refine AW.block ?_
            refine AW.reg tiOk (fun _ => []) [2, 3, 5, 38] ?_
            intro k hk; simp -dsimp (maxSteps := 2000000) [go_sem, -decide_eq_true_eq, -decide_eq_false_iff_not, hx, hy]
            repeat' (first | refine And.intro ?_ ?_ | (refine Chk.keys ?_; simp only [go_sem, List.map_cons, List.map_nil, List.flatMap_cons, List.flatMap_nil, List.flatMap_append, List.append_nil, List.nil_append, List.cons_append]; decide +kernel) | refine hk _ ?_ | (intro hg; try simp only [decide_eq_true_eq, decide_eq_false_iff_not] at hg) | omega | exact True.intro)
            all_goals clear hk k
            refine AW.cond rfl ?_ ?_
            · intro hc; try simp at hc
              all_goals (
                refine AW.reg tiOk (fun _ => []) [4] ?_
                intro k hk; simp -dsimp (maxSteps := 2000000) [go_sem, -decide_eq_true_eq, -decide_eq_false_iff_not, hx, hy]
                repeat' (first | refine And.intro ?_ ?_ | refine hk _ ?_ | (intro hg; try simp only [decide_eq_true_eq, decide_eq_false_iff_not] at hg) | omega | exact True.intro)
                all_goals clear hk k
                refine AW.retF (ow := []) (muts := []) ?_ (fun h => And.intro (.inr rfl) h)
                first | (rw [decide_eq_false (fun e => by subst e; first | omega | (rw [hx] at hy; cases hy; simp_all; done) | (simp_all; done))]; simp [go_sem, Try.results75]; done) | (rw [decide_eq_true (desk_end (by assumption) hinvi (by omega) (by omega))]; simp [go_sem, Try.results75]))
            · intro hc; try simp at hc
              all_goals (
                refine AW.skipN (fun _ h => h) ?_
                refine AW.regK tiOk (fun _ => []) ?_
                intro k hk; simp -dsimp (maxSteps := 2000000) [go_sem, -decide_eq_true_eq, -decide_eq_false_iff_not, hx, hy]
                repeat' (first | refine And.intro ?_ ?_ | refine hk _ ?_ | (intro hg; try simp only [decide_eq_true_eq, decide_eq_false_iff_not] at hg) | omega | exact True.intro)
                all_goals clear hk k
                show ∃ _, _
                have hw := wrapi hlti (by omega)
                refine ⟨i + 1, ⟨by omega, take_step hx hy (by first | assumption | (cases x; cases y; simp_all; done)) hinvi⟩, by omega, Less.of rfl (by simp [go_sem, hw]) (by simp [go_sem])⟩))
        · intro hc; try simp at hc
          all_goals (
            refine AW.exitN (fun _ h => h) ?_
            refine AW.reg tiOk (fun _ => []) [4] ?_
            intro k hk; simp -dsimp (maxSteps := 2000000) [go_sem, -decide_eq_true_eq, -decide_eq_false_iff_not]
            repeat' (first | refine And.intro ?_ ?_ | refine hk _ ?_ | (intro hg; try simp only [decide_eq_true_eq, decide_eq_false_iff_not] at hg) | omega | exact True.intro)
            all_goals clear hk k
            refine AW.retF (ow := []) (muts := []) ?_ (fun h => And.intro (.inr rfl) h)
            first | (rw [decide_eq_false (fun e => by subst e; first | omega | (rw [hx] at hy; cases hy; simp_all; done) | (simp_all; done))]; simp [go_sem, Try.results75]; done) | (rw [decide_eq_true (desk_end (by assumption) hinvi (by omega) (by omega))]; simp [go_sem, Try.results75]))))

end Go.AM
