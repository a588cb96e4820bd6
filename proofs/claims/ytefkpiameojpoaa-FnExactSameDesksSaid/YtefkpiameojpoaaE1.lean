/- Walks. -/
import Derived.Test.YtefkpiameojpoaaS2
import Derived.Test.YtefkpiameojpoaaPs
namespace Go.AM
open Go.Proofs

set_option maxHeartbeats 600000 in
set_option linter.unusedSimpArgs false in
set_option maxRecDepth 100000 in
/-- slices.Equal[[]impl.Node,impl.Node] -/
theorem dc_slices_Equal_impl_Node_impl_Node (a b : List TNode) (ha : a.length ≤ 9223372036854775807) : DC Try.prog 156 [.isl 4 (a.map TNode.ro), .isl 4 (b.map TNode.ro)] (.bool (decide (a = b))) [] := by
  refine DC.intro tiOk Try.func156 rfl rfl rfl rfl rfl rfl rfl rfl [] ?_
  refine AW.reg tiOk (fun _ => []) [0, 1] ?_
  intro k hk; simp -dsimp (maxSteps := 2000000) [go_sem, -decide_eq_true_eq, -decide_eq_false_iff_not]
  repeat' (first | refine And.intro ?_ ?_ | refine hk _ ?_ | (intro hg; try simp only [decide_eq_true_eq, decide_eq_false_iff_not] at hg) | omega | exact True.intro)
  all_goals clear hk k
  refine AW.seq ?_
  refine AW.reg tiOk (fun _ => []) [0, 1, 10] ?_
  intro k hk; simp -dsimp (maxSteps := 2000000) [go_sem, -decide_eq_true_eq, -decide_eq_false_iff_not]
  repeat' (first | refine And.intro ?_ ?_ | refine hk _ ?_ | (intro hg; try simp only [decide_eq_true_eq, decide_eq_false_iff_not] at hg) | omega | exact True.intro)
  all_goals clear hk k
  refine AW.cond rfl ?_ ?_
  · intro hc; try simp at hc
    all_goals (
      refine AW.reg tiOk (fun _ => []) [4] ?_
      intro k hk; simp -dsimp (maxSteps := 2000000) [go_sem, -decide_eq_true_eq, -decide_eq_false_iff_not]
      repeat' (first | refine And.intro ?_ ?_ | refine hk _ ?_ | (intro hg; try simp only [decide_eq_true_eq, decide_eq_false_iff_not] at hg) | omega | exact True.intro)
      all_goals clear hk k
      refine AW.retF (ow := []) (muts := []) ?_ (fun h => And.intro (.inr rfl) h)
      first | (rw [eq_ne_at hx hy (by first | assumption | (intro e; subst e; simp_all; done))]; simp [go_sem, Try.results156]; done) | (rw [eq_end (by omega) hinv (by omega)]; simp [go_sem, Try.results156]; done) | (rw [eq_ne_len (by omega)]; simp [go_sem, Try.results156]))
  · intro hc; try simp at hc
    all_goals (
      refine AW.skipN (fun _ h => h) ?_
      refine AW.seq ?_
      refine AW.reg tiOk (fun _ => []) [0, 1, 12, 13] ?_
      intro k hk; simp -dsimp (maxSteps := 2000000) [go_sem, -decide_eq_true_eq, -decide_eq_false_iff_not]
      repeat' (first | refine And.intro ?_ ?_ | refine hk _ ?_ | (intro hg; try simp only [decide_eq_true_eq, decide_eq_false_iff_not] at hg) | omega | exact True.intro)
      all_goals clear hk k
      refine AW.block ?_
      -- live at the loop's head: [0, 1, 12, 13]
      refine AW.loopI (fun i : Nat => ⟨26, [(0, .isl 4 (a.map TNode.ro)), (1, .isl 4 (b.map TNode.ro)), (12, .int .i64 a.length), (13, .int .i64 i)], []⟩) (fun i => i ≤ a.length ∧ a.take i = b.take i) (fun i => a.length - i) (0) (by simp) (Less.of rfl (by simp [go_sem]) (by simp [go_sem])) ?_
      rintro i ⟨hi, hinv⟩
      refine AW.reg tiOk (fun _ => []) [0, 1, 12, 13, 14] ?_
      intro k hk; simp -dsimp (maxSteps := 2000000) [go_sem, -decide_eq_true_eq, -decide_eq_false_iff_not]
      repeat' (first | refine And.intro ?_ ?_ | refine hk _ ?_ | (intro hg; try simp only [decide_eq_true_eq, decide_eq_false_iff_not] at hg) | omega | exact True.intro)
      all_goals clear hk k
      refine AW.seq ?_
      refine AW.cond rfl ?_ ?_
      · intro hc; try simp at hc
        all_goals (
          have hlt : i < a.length := by assumption
          obtain ⟨x, hx⟩ := at_some hlt
          obtain ⟨y, hy⟩ := at_some (l := b) (show i < b.length by omega)
          have hla := at_lt hy
          refine AW.skipN (fun _ h => h) ?_
          refine AW.seq ?_
          refine AW.block ?_
          refine AW.reg tiOk (fun _ => []) [0, 1, 5, 12, 13] ?_
          intro k hk; simp -dsimp (maxSteps := 2000000) [go_sem, -decide_eq_true_eq, -decide_eq_false_iff_not, hx, hy]
          repeat' (first | refine And.intro ?_ ?_ | refine hk _ ?_ | (intro hg; try simp only [decide_eq_true_eq, decide_eq_false_iff_not] at hg) | omega | exact True.intro)
          all_goals clear hk k
          refine AW.reg tiOk (fun _ => []) [0, 1, 12, 13, 24] ?_
          intro k hk; simp -dsimp (maxSteps := 2000000) [go_sem, -decide_eq_true_eq, -decide_eq_false_iff_not, hx, hy]
          repeat' (first | refine And.intro ?_ ?_ | (refine Chk.keys ?_; simp only [go_sem, List.map_cons, List.map_nil, List.flatMap_cons, List.flatMap_nil, List.flatMap_append, List.append_nil, List.nil_append, List.cons_append]; decide) | refine hk _ ?_ | (intro hg; try simp only [decide_eq_true_eq, decide_eq_false_iff_not] at hg) | omega | exact True.intro)
          all_goals clear hk k
          refine AW.cond rfl ?_ ?_
          · intro hc; try simp at hc
            all_goals (
              refine AW.reg tiOk (fun _ => []) [4] ?_
              intro k hk; simp -dsimp (maxSteps := 2000000) [go_sem, -decide_eq_true_eq, -decide_eq_false_iff_not, hx, hy]
              repeat' (first | refine And.intro ?_ ?_ | refine hk _ ?_ | (intro hg; try simp only [decide_eq_true_eq, decide_eq_false_iff_not] at hg) | omega | exact True.intro)
              all_goals clear hk k
              refine AW.retF (ow := []) (muts := []) ?_ (fun h => And.intro (.inr rfl) h)
              first | (rw [eq_ne_at hx hy (by first | assumption | (intro e; subst e; simp_all; done))]; simp [go_sem, Try.results156]; done) | (rw [eq_end (by omega) hinv (by omega)]; simp [go_sem, Try.results156]; done) | (rw [eq_ne_len (by omega)]; simp [go_sem, Try.results156]))
          · intro hc; try simp at hc
            all_goals (
              refine AW.skipN (fun _ h => h) ?_
              refine AW.regK tiOk (fun _ => []) ?_
              intro k hk; simp -dsimp (maxSteps := 2000000) [go_sem, -decide_eq_true_eq, -decide_eq_false_iff_not, hx, hy]
              repeat' (first | refine And.intro ?_ ?_ | refine hk _ ?_ | (intro hg; try simp only [decide_eq_true_eq, decide_eq_false_iff_not] at hg) | omega | exact True.intro)
              all_goals clear hk k
              show ∃ _, _
              have hw := wrapi hlt (by omega)
              refine ⟨i + 1, ⟨by omega, take_step hx hy (by first | assumption | (cases x; cases y; simp_all; done)) hinv⟩, by omega, Less.of rfl (by simp [go_sem, hw]) (by simp [go_sem])⟩))
      · intro hc; try simp at hc
        all_goals (
          refine AW.exitN (fun _ h => h) ?_
          refine AW.reg tiOk (fun _ => []) [4] ?_
          intro k hk; simp -dsimp (maxSteps := 2000000) [go_sem, -decide_eq_true_eq, -decide_eq_false_iff_not]
          repeat' (first | refine And.intro ?_ ?_ | refine hk _ ?_ | (intro hg; try simp only [decide_eq_true_eq, decide_eq_false_iff_not] at hg) | omega | exact True.intro)
          all_goals clear hk k
          refine AW.retF (ow := []) (muts := []) ?_ (fun h => And.intro (.inr rfl) h)
          first | (rw [eq_ne_at hx hy (by first | assumption | (intro e; subst e; simp_all; done))]; simp [go_sem, Try.results156]; done) | (rw [eq_end (by omega) hinv (by omega)]; simp [go_sem, Try.results156]; done) | (rw [eq_ne_len (by omega)]; simp [go_sem, Try.results156])))

set_option maxHeartbeats 600000 in
set_option linter.unusedSimpArgs false in
set_option maxRecDepth 100000 in
/-- slices.Equal[[]impl.Claim,impl.Claim] -/
theorem dc_slices_Equal_impl_Claim_impl_Claim (a b : List TClaim) (ha : a.length ≤ 9223372036854775807) : DC Try.prog 132 [.isl 3 (a.map TClaim.ro), .isl 3 (b.map TClaim.ro)] (.bool (decide (a = b))) [] := by
  refine DC.intro tiOk Try.func132 rfl rfl rfl rfl rfl rfl rfl rfl [] ?_
  refine AW.reg tiOk (fun _ => []) [0, 1] ?_
  intro k hk; simp -dsimp (maxSteps := 2000000) [go_sem, -decide_eq_true_eq, -decide_eq_false_iff_not]
  repeat' (first | refine And.intro ?_ ?_ | refine hk _ ?_ | (intro hg; try simp only [decide_eq_true_eq, decide_eq_false_iff_not] at hg) | omega | exact True.intro)
  all_goals clear hk k
  refine AW.seq ?_
  refine AW.reg tiOk (fun _ => []) [0, 1, 10] ?_
  intro k hk; simp -dsimp (maxSteps := 2000000) [go_sem, -decide_eq_true_eq, -decide_eq_false_iff_not]
  repeat' (first | refine And.intro ?_ ?_ | refine hk _ ?_ | (intro hg; try simp only [decide_eq_true_eq, decide_eq_false_iff_not] at hg) | omega | exact True.intro)
  all_goals clear hk k
  refine AW.cond rfl ?_ ?_
  · intro hc; try simp at hc
    all_goals (
      refine AW.reg tiOk (fun _ => []) [4] ?_
      intro k hk; simp -dsimp (maxSteps := 2000000) [go_sem, -decide_eq_true_eq, -decide_eq_false_iff_not]
      repeat' (first | refine And.intro ?_ ?_ | refine hk _ ?_ | (intro hg; try simp only [decide_eq_true_eq, decide_eq_false_iff_not] at hg) | omega | exact True.intro)
      all_goals clear hk k
      refine AW.retF (ow := []) (muts := []) ?_ (fun h => And.intro (.inr rfl) h)
      first | (rw [eq_ne_at hx hy (by first | assumption | (intro e; subst e; simp_all; done))]; simp [go_sem, Try.results132]; done) | (rw [eq_end (by omega) hinv (by omega)]; simp [go_sem, Try.results132]; done) | (rw [eq_ne_len (by omega)]; simp [go_sem, Try.results132]))
  · intro hc; try simp at hc
    all_goals (
      refine AW.skipN (fun _ h => h) ?_
      refine AW.seq ?_
      refine AW.reg tiOk (fun _ => []) [0, 1, 12, 13] ?_
      intro k hk; simp -dsimp (maxSteps := 2000000) [go_sem, -decide_eq_true_eq, -decide_eq_false_iff_not]
      repeat' (first | refine And.intro ?_ ?_ | refine hk _ ?_ | (intro hg; try simp only [decide_eq_true_eq, decide_eq_false_iff_not] at hg) | omega | exact True.intro)
      all_goals clear hk k
      refine AW.block ?_
      -- live at the loop's head: [0, 1, 12, 13]
      refine AW.loopI (fun i : Nat => ⟨26, [(0, .isl 3 (a.map TClaim.ro)), (1, .isl 3 (b.map TClaim.ro)), (12, .int .i64 a.length), (13, .int .i64 i)], []⟩) (fun i => i ≤ a.length ∧ a.take i = b.take i) (fun i => a.length - i) (0) (by simp) (Less.of rfl (by simp [go_sem]) (by simp [go_sem])) ?_
      rintro i ⟨hi, hinv⟩
      refine AW.reg tiOk (fun _ => []) [0, 1, 12, 13, 14] ?_
      intro k hk; simp -dsimp (maxSteps := 2000000) [go_sem, -decide_eq_true_eq, -decide_eq_false_iff_not]
      repeat' (first | refine And.intro ?_ ?_ | refine hk _ ?_ | (intro hg; try simp only [decide_eq_true_eq, decide_eq_false_iff_not] at hg) | omega | exact True.intro)
      all_goals clear hk k
      refine AW.seq ?_
      refine AW.cond rfl ?_ ?_
      · intro hc; try simp at hc
        all_goals (
          have hlt : i < a.length := by assumption
          obtain ⟨x, hx⟩ := at_some hlt
          obtain ⟨y, hy⟩ := at_some (l := b) (show i < b.length by omega)
          have hla := at_lt hy
          refine AW.skipN (fun _ h => h) ?_
          refine AW.seq ?_
          refine AW.block ?_
          refine AW.reg tiOk (fun _ => []) [0, 1, 5, 12, 13] ?_
          intro k hk; simp -dsimp (maxSteps := 2000000) [go_sem, -decide_eq_true_eq, -decide_eq_false_iff_not, hx, hy]
          repeat' (first | refine And.intro ?_ ?_ | refine hk _ ?_ | (intro hg; try simp only [decide_eq_true_eq, decide_eq_false_iff_not] at hg) | omega | exact True.intro)
          all_goals clear hk k
          refine AW.reg tiOk (fun _ => []) [0, 1, 12, 13, 24] ?_
          intro k hk; simp -dsimp (maxSteps := 2000000) [go_sem, -decide_eq_true_eq, -decide_eq_false_iff_not, hx, hy]
          repeat' (first | refine And.intro ?_ ?_ | (refine Chk.keys ?_; simp only [go_sem, List.map_cons, List.map_nil, List.flatMap_cons, List.flatMap_nil, List.flatMap_append, List.append_nil, List.nil_append, List.cons_append]; decide) | refine hk _ ?_ | (intro hg; try simp only [decide_eq_true_eq, decide_eq_false_iff_not] at hg) | omega | exact True.intro)
          all_goals clear hk k
          refine AW.cond rfl ?_ ?_
          · intro hc; try simp at hc
            all_goals (
              refine AW.reg tiOk (fun _ => []) [4] ?_
              intro k hk; simp -dsimp (maxSteps := 2000000) [go_sem, -decide_eq_true_eq, -decide_eq_false_iff_not, hx, hy]
              repeat' (first | refine And.intro ?_ ?_ | refine hk _ ?_ | (intro hg; try simp only [decide_eq_true_eq, decide_eq_false_iff_not] at hg) | omega | exact True.intro)
              all_goals clear hk k
              refine AW.retF (ow := []) (muts := []) ?_ (fun h => And.intro (.inr rfl) h)
              first | (rw [eq_ne_at hx hy (by first | assumption | (intro e; subst e; simp_all; done))]; simp [go_sem, Try.results132]; done) | (rw [eq_end (by omega) hinv (by omega)]; simp [go_sem, Try.results132]; done) | (rw [eq_ne_len (by omega)]; simp [go_sem, Try.results132]))
          · intro hc; try simp at hc
            all_goals (
              refine AW.skipN (fun _ h => h) ?_
              refine AW.regK tiOk (fun _ => []) ?_
              intro k hk; simp -dsimp (maxSteps := 2000000) [go_sem, -decide_eq_true_eq, -decide_eq_false_iff_not, hx, hy]
              repeat' (first | refine And.intro ?_ ?_ | refine hk _ ?_ | (intro hg; try simp only [decide_eq_true_eq, decide_eq_false_iff_not] at hg) | omega | exact True.intro)
              all_goals clear hk k
              show ∃ _, _
              have hw := wrapi hlt (by omega)
              refine ⟨i + 1, ⟨by omega, take_step hx hy (by first | assumption | (cases x; cases y; simp_all; done)) hinv⟩, by omega, Less.of rfl (by simp [go_sem, hw]) (by simp [go_sem])⟩))
      · intro hc; try simp at hc
        all_goals (
          refine AW.exitN (fun _ h => h) ?_
          refine AW.reg tiOk (fun _ => []) [4] ?_
          intro k hk; simp -dsimp (maxSteps := 2000000) [go_sem, -decide_eq_true_eq, -decide_eq_false_iff_not]
          repeat' (first | refine And.intro ?_ ?_ | refine hk _ ?_ | (intro hg; try simp only [decide_eq_true_eq, decide_eq_false_iff_not] at hg) | omega | exact True.intro)
          all_goals clear hk k
          refine AW.retF (ow := []) (muts := []) ?_ (fun h => And.intro (.inr rfl) h)
          first | (rw [eq_ne_at hx hy (by first | assumption | (intro e; subst e; simp_all; done))]; simp [go_sem, Try.results132]; done) | (rw [eq_end (by omega) hinv (by omega)]; simp [go_sem, Try.results132]; done) | (rw [eq_ne_len (by omega)]; simp [go_sem, Try.results132])))

set_option maxHeartbeats 600000 in
set_option linter.unusedSimpArgs false in
set_option maxRecDepth 100000 in
/-- spec.l4SameExpr -/
theorem dc_spec_l4SameExpr (a b : List TNode) (ha : a.length ≤ 9223372036854775807) : DC Try.prog 142 [.isl 4 (a.map TNode.ro), .isl 4 (b.map TNode.ro)] (.bool (decide (a = b))) [] := by
  refine DC.intro tiOk Try.func142 rfl rfl rfl rfl rfl rfl rfl rfl [] ?_
  refine AW.reg tiOk (fun _ => []) [0, 1] ?_
  intro k hk; simp -dsimp (maxSteps := 2000000) [go_sem, -decide_eq_true_eq, -decide_eq_false_iff_not]
  repeat' (first | refine And.intro ?_ ?_ | refine hk _ ?_ | (intro hg; try simp only [decide_eq_true_eq, decide_eq_false_iff_not] at hg) | omega | exact True.intro)
  all_goals clear hk k
  refine AW.seq ?_
  refine AW.reg tiOk (fun _ => []) [0, 1, 10] ?_
  intro k hk; simp -dsimp (maxSteps := 2000000) [go_sem, -decide_eq_true_eq, -decide_eq_false_iff_not]
  repeat' (first | refine And.intro ?_ ?_ | refine hk _ ?_ | (intro hg; try simp only [decide_eq_true_eq, decide_eq_false_iff_not] at hg) | omega | exact True.intro)
  all_goals clear hk k
  refine AW.cond rfl ?_ ?_
  · intro hc; try simp at hc
    all_goals (
      refine AW.reg tiOk (fun _ => []) [4] ?_
      intro k hk; simp -dsimp (maxSteps := 2000000) [go_sem, -decide_eq_true_eq, -decide_eq_false_iff_not]
      repeat' (first | refine And.intro ?_ ?_ | refine hk _ ?_ | (intro hg; try simp only [decide_eq_true_eq, decide_eq_false_iff_not] at hg) | omega | exact True.intro)
      all_goals clear hk k
      refine AW.retF (ow := []) (muts := []) ?_ (fun h => And.intro (.inr rfl) h)
      first | (rw [eq_ne_at hx hy (by first | assumption | (intro e; subst e; simp_all; done))]; simp [go_sem, Try.results142]; done) | (rw [eq_end (by omega) hinv (by omega)]; simp [go_sem, Try.results142]; done) | (rw [eq_ne_len (by omega)]; simp [go_sem, Try.results142]))
  · intro hc; try simp at hc
    all_goals (
      refine AW.skipN (fun _ h => h) ?_
      refine AW.seq ?_
      refine AW.reg tiOk (fun _ => []) [0, 1, 5] ?_
      intro k hk; simp -dsimp (maxSteps := 2000000) [go_sem, -decide_eq_true_eq, -decide_eq_false_iff_not]
      repeat' (first | refine And.intro ?_ ?_ | refine hk _ ?_ | (intro hg; try simp only [decide_eq_true_eq, decide_eq_false_iff_not] at hg) | omega | exact True.intro)
      all_goals clear hk k
      refine AW.block ?_
      -- live at the loop's head: [0, 1, 5]
      refine AW.loopI (fun i : Nat => ⟨26, [(0, .isl 4 (a.map TNode.ro)), (1, .isl 4 (b.map TNode.ro)), (5, .int .i64 i)], []⟩) (fun i => i ≤ a.length ∧ a.take i = b.take i) (fun i => a.length - i) (0) (by simp) (Less.of rfl (by simp [go_sem]) (by simp [go_sem])) ?_
      rintro i ⟨hi, hinv⟩
      refine AW.seq ?_
      refine AW.reg tiOk (fun _ => []) [0, 1, 5, 14] ?_
      intro k hk; simp -dsimp (maxSteps := 2000000) [go_sem, -decide_eq_true_eq, -decide_eq_false_iff_not]
      repeat' (first | refine And.intro ?_ ?_ | refine hk _ ?_ | (intro hg; try simp only [decide_eq_true_eq, decide_eq_false_iff_not] at hg) | omega | exact True.intro)
      all_goals clear hk k
      refine AW.cond rfl ?_ ?_
      · intro hc; try simp at hc
        all_goals (
          have hlt : i < a.length := by assumption
          obtain ⟨x, hx⟩ := at_some hlt
          obtain ⟨y, hy⟩ := at_some (l := b) (show i < b.length by omega)
          have hla := at_lt hy
          refine AW.skipN (fun _ h => h) ?_
          refine AW.seq ?_
          refine AW.block ?_
          refine AW.reg tiOk (fun _ => []) [0, 1, 5, 25] ?_
          intro k hk; simp -dsimp (maxSteps := 2000000) [go_sem, -decide_eq_true_eq, -decide_eq_false_iff_not, hx, hy]
          repeat' (first | refine And.intro ?_ ?_ | (refine Chk.keys ?_; simp only [go_sem, List.map_cons, List.map_nil, List.flatMap_cons, List.flatMap_nil, List.flatMap_append, List.append_nil, List.nil_append, List.cons_append]; decide) | refine hk _ ?_ | (intro hg; try simp only [decide_eq_true_eq, decide_eq_false_iff_not] at hg) | omega | exact True.intro)
          all_goals clear hk k
          refine AW.cond rfl ?_ ?_
          · intro hc; try simp at hc
            all_goals (
              refine AW.reg tiOk (fun _ => []) [4] ?_
              intro k hk; simp -dsimp (maxSteps := 2000000) [go_sem, -decide_eq_true_eq, -decide_eq_false_iff_not, hx, hy]
              repeat' (first | refine And.intro ?_ ?_ | refine hk _ ?_ | (intro hg; try simp only [decide_eq_true_eq, decide_eq_false_iff_not] at hg) | omega | exact True.intro)
              all_goals clear hk k
              refine AW.retF (ow := []) (muts := []) ?_ (fun h => And.intro (.inr rfl) h)
              first | (rw [eq_ne_at hx hy (by first | assumption | (intro e; subst e; simp_all; done))]; simp [go_sem, Try.results142]; done) | (rw [eq_end (by omega) hinv (by omega)]; simp [go_sem, Try.results142]; done) | (rw [eq_ne_len (by omega)]; simp [go_sem, Try.results142]))
          · intro hc; try simp at hc
            all_goals (
              refine AW.skipN (fun _ h => h) ?_
              refine AW.regK tiOk (fun _ => []) ?_
              intro k hk; simp -dsimp (maxSteps := 2000000) [go_sem, -decide_eq_true_eq, -decide_eq_false_iff_not, hx, hy]
              repeat' (first | refine And.intro ?_ ?_ | refine hk _ ?_ | (intro hg; try simp only [decide_eq_true_eq, decide_eq_false_iff_not] at hg) | omega | exact True.intro)
              all_goals clear hk k
              show ∃ _, _
              have hw := wrapi hlt (by omega)
              refine ⟨i + 1, ⟨by omega, take_step hx hy (by first | assumption | (cases x; cases y; simp_all; done)) hinv⟩, by omega, Less.of rfl (by simp [go_sem, hw]) (by simp [go_sem])⟩))
      · intro hc; try simp at hc
        all_goals (
          refine AW.exitN (fun _ h => h) ?_
          refine AW.reg tiOk (fun _ => []) [4] ?_
          intro k hk; simp -dsimp (maxSteps := 2000000) [go_sem, -decide_eq_true_eq, -decide_eq_false_iff_not]
          repeat' (first | refine And.intro ?_ ?_ | refine hk _ ?_ | (intro hg; try simp only [decide_eq_true_eq, decide_eq_false_iff_not] at hg) | omega | exact True.intro)
          all_goals clear hk k
          refine AW.retF (ow := []) (muts := []) ?_ (fun h => And.intro (.inr rfl) h)
          first | (rw [eq_ne_at hx hy (by first | assumption | (intro e; subst e; simp_all; done))]; simp [go_sem, Try.results142]; done) | (rw [eq_end (by omega) hinv (by omega)]; simp [go_sem, Try.results142]; done) | (rw [eq_ne_len (by omega)]; simp [go_sem, Try.results142])))

set_option maxHeartbeats 600000 in
set_option linter.unusedSimpArgs false in
set_option maxRecDepth 100000 in
/-- impl.sameExpr -/
theorem dc_impl_sameExpr (a b : List TNode) (ha : a.length ≤ 9223372036854775807) : DC Try.prog 147 [.isl 4 (a.map TNode.ro), .isl 4 (b.map TNode.ro)] (.bool (decide (a = b))) [] := by
  refine DC.intro tiOk Try.func147 rfl rfl rfl rfl rfl rfl rfl rfl [] ?_
  refine AW.reg tiOk (fun _ => []) [0, 1] ?_
  intro k hk; simp -dsimp (maxSteps := 2000000) [go_sem, -decide_eq_true_eq, -decide_eq_false_iff_not]
  repeat' (first | refine And.intro ?_ ?_ | refine hk _ ?_ | (intro hg; try simp only [decide_eq_true_eq, decide_eq_false_iff_not] at hg) | omega | exact True.intro)
  all_goals clear hk k
  refine AW.reg tiOk (fun _ => []) [4] ?_
  intro k hk; simp -dsimp (maxSteps := 2000000) [go_sem, -decide_eq_true_eq, -decide_eq_false_iff_not]
  repeat' (first | refine And.intro ?_ ?_ | refine hk _ ?_ | (intro hg; try simp only [decide_eq_true_eq, decide_eq_false_iff_not] at hg) | (refine CallK.intro (dc_slices_Equal_impl_Node_impl_Node _ _ (by first | assumption | omega)) ?_; simp -dsimp (maxSteps := 2000000) [go_sem, -decide_eq_true_eq, -decide_eq_false_iff_not]) | omega | exact True.intro)
  all_goals clear hk k
  refine AW.retF (ow := []) (muts := []) ?_ (fun h => And.intro (.inr rfl) h)
  simp [go_sem, Try.results147]

set_option maxHeartbeats 600000 in
set_option linter.unusedSimpArgs false in
set_option maxRecDepth 100000 in
/-- impl.SameProcs$1 -/
theorem dc_impl_SameProcs_1 (a b : TStep) (hg : a.gok) : DC Try.prog 146 [.agg a.ro, .agg b.ro] (.bool (decide (a = b))) [] := by
  obtain ⟨h0, h1, h2⟩ := hg
  refine DC.intro tiOk Try.func146 rfl rfl rfl rfl rfl rfl rfl rfl [] ?_
  refine AW.reg tiOk (fun _ => []) [2, 3, 11, 12, 13, 14, 15, 18, 19, 20, 21, 22, 25, 26, 27, 28, 29, 32, 33, 34, 35, 36, 39, 40, 41, 42, 43] ?_
  intro k hk; simp -dsimp (maxSteps := 2000000) [go_sem, -decide_eq_true_eq, -decide_eq_false_iff_not]
  repeat' (first | refine And.intro ?_ ?_ | refine hk _ ?_ | (intro hg; try simp only [decide_eq_true_eq, decide_eq_false_iff_not] at hg) | omega | exact True.intro)
  all_goals clear hk k
  refine AW.reg tiOk (fun _ => []) [4] ?_
  intro k hk; simp +contextual -dsimp (maxSteps := 2000000) [go_sem, -decide_eq_true_eq, -decide_eq_false_iff_not]
  repeat' (first | refine And.intro ?_ ?_ | refine hk _ ?_ | (intro hg; try simp only [decide_eq_true_eq, decide_eq_false_iff_not] at hg) | (refine CallK.intro (dc_impl_sameExpr _ _ (by assumption)) ?_; simp +contextual -dsimp (maxSteps := 2000000) [go_sem, -decide_eq_true_eq, -decide_eq_false_iff_not]) | omega | exact True.intro)
  all_goals clear hk k
  all_goals (
    refine AW.retF (ow := []) (muts := []) ?_ (fun h => And.intro (.inr rfl) h)
    cases a; cases b; simp [go_sem, Try.results146] at * <;> grind)

set_option maxHeartbeats 600000 in
set_option linter.unusedSimpArgs false in
set_option maxRecDepth 100000 in
/-- slices.EqualFunc[[]impl.Step,[]impl.Step,impl.Step,impl.Step] -/
theorem dc_slices_EqualFunc_impl_Step_impl_Step_impl_Step_impl_Step (f : Nat) (a b : List TStep) (hf : ∀ x ∈ a, ∀ y, DC Try.prog f ([.agg x.ro, .agg y.ro] ++ []) (.bool (decide (x = y))) []) (ha : a.length ≤ 9223372036854775807) : DC Try.prog 145 [.isl 6 (a.map TStep.ro), .isl 6 (b.map TStep.ro), .fn f []] (.bool (decide (a = b))) [] := by
  refine DC.intro tiOk Try.func145 rfl rfl rfl rfl rfl rfl rfl rfl [] ?_
  refine AW.reg tiOk (fun _ => []) [0, 1, 2] ?_
  intro k hk; simp -dsimp (maxSteps := 2000000) [go_sem, -decide_eq_true_eq, -decide_eq_false_iff_not]
  repeat' (first | refine And.intro ?_ ?_ | refine hk _ ?_ | (intro hg; try simp only [decide_eq_true_eq, decide_eq_false_iff_not] at hg) | omega | exact True.intro)
  all_goals clear hk k
  refine AW.seq ?_
  refine AW.reg tiOk (fun _ => []) [0, 1, 2, 14] ?_
  intro k hk; simp -dsimp (maxSteps := 2000000) [go_sem, -decide_eq_true_eq, -decide_eq_false_iff_not]
  repeat' (first | refine And.intro ?_ ?_ | refine hk _ ?_ | (intro hg; try simp only [decide_eq_true_eq, decide_eq_false_iff_not] at hg) | omega | exact True.intro)
  all_goals clear hk k
  refine AW.cond rfl ?_ ?_
  · intro hc; try simp at hc
    all_goals (
      refine AW.reg tiOk (fun _ => []) [6] ?_
      intro k hk; simp -dsimp (maxSteps := 2000000) [go_sem, -decide_eq_true_eq, -decide_eq_false_iff_not]
      repeat' (first | refine And.intro ?_ ?_ | refine hk _ ?_ | (intro hg; try simp only [decide_eq_true_eq, decide_eq_false_iff_not] at hg) | omega | exact True.intro)
      all_goals clear hk k
      refine AW.retF (ow := []) (muts := []) ?_ (fun h => And.intro (.inr rfl) h)
      first | (rw [eq_ne_at hx hy (by assumption)]; simp [go_sem, Try.results145]; done) | (rw [eq_end (by omega) hinv (by omega)]; simp [go_sem, Try.results145]; done) | (rw [eq_ne_len (by omega)]; simp [go_sem, Try.results145]))
  · intro hc; try simp at hc
    all_goals (
      refine AW.skipN (fun _ h => h) ?_
      refine AW.seq ?_
      refine AW.reg tiOk (fun _ => []) [1, 2, 15, 16, 17] ?_
      intro k hk; simp -dsimp (maxSteps := 2000000) [go_sem, -decide_eq_true_eq, -decide_eq_false_iff_not]
      repeat' (first | refine And.intro ?_ ?_ | refine hk _ ?_ | (intro hg; try simp only [decide_eq_true_eq, decide_eq_false_iff_not] at hg) | omega | exact True.intro)
      all_goals clear hk k
      refine AW.block ?_
      -- live at the loop's head: [1, 2, 15, 16, 17]
      refine AW.loopI (fun i : Nat => ⟨32, [(1, .isl 6 (b.map TStep.ro)), (2, .fn f []), (15, .isl 6 (a.map TStep.ro)), (16, .int .i64 a.length), (17, .int .i64 i)], []⟩) (fun i => i ≤ a.length ∧ a.take i = b.take i) (fun i => a.length - i) (0) (by simp) (Less.of rfl (by simp [go_sem]) (by simp [go_sem])) ?_
      rintro i ⟨hi, hinv⟩
      refine AW.reg tiOk (fun _ => []) [1, 2, 15, 16, 17, 18] ?_
      intro k hk; simp -dsimp (maxSteps := 2000000) [go_sem, -decide_eq_true_eq, -decide_eq_false_iff_not]
      repeat' (first | refine And.intro ?_ ?_ | refine hk _ ?_ | (intro hg; try simp only [decide_eq_true_eq, decide_eq_false_iff_not] at hg) | omega | exact True.intro)
      all_goals clear hk k
      refine AW.seq ?_
      refine AW.cond rfl ?_ ?_
      · intro hc; try simp at hc
        all_goals (
          have hlt : i < a.length := by assumption
          obtain ⟨x, hx⟩ := at_some hlt
          obtain ⟨y, hy⟩ := at_some (l := b) (show i < b.length by omega)
          have hla := at_lt hy
          refine AW.skipN (fun _ h => h) ?_
          refine AW.seq ?_
          refine AW.block ?_
          refine AW.reg tiOk (fun _ => []) [1, 2, 7, 8, 15, 16, 17] ?_
          intro k hk; simp -dsimp (maxSteps := 2000000) [go_sem, -decide_eq_true_eq, -decide_eq_false_iff_not, hx, hy]
          repeat' (first | refine And.intro ?_ ?_ | refine hk _ ?_ | (intro hg; try simp only [decide_eq_true_eq, decide_eq_false_iff_not] at hg) | omega | exact True.intro)
          all_goals clear hk k
          refine AW.reg tiOk (fun _ => []) [1, 2, 8, 9, 15, 16, 17] ?_
          intro k hk; simp -dsimp (maxSteps := 2000000) [go_sem, -decide_eq_true_eq, -decide_eq_false_iff_not, hx, hy]
          repeat' (first | refine And.intro ?_ ?_ | refine hk _ ?_ | (intro hg; try simp only [decide_eq_true_eq, decide_eq_false_iff_not] at hg) | omega | exact True.intro)
          all_goals clear hk k
          refine AW.reg tiOk (fun _ => []) [1, 2, 15, 16, 17, 30] ?_
          intro k hk; simp -dsimp (maxSteps := 2000000) [go_sem, -decide_eq_true_eq, -decide_eq_false_iff_not, hx, hy]
          repeat' (first | refine And.intro ?_ ?_ | refine hk _ ?_ | (intro hg; try simp only [decide_eq_true_eq, decide_eq_false_iff_not] at hg) | (refine CallK.intro (hf x (List.mem_of_getElem? hx) y) ?_; simp -dsimp (maxSteps := 2000000) [go_sem, -decide_eq_true_eq, -decide_eq_false_iff_not, hx, hy]) | omega | exact True.intro)
          all_goals clear hk k
          refine AW.cond rfl ?_ ?_
          · intro hc; try simp at hc
            all_goals (
              refine AW.reg tiOk (fun _ => []) [6] ?_
              intro k hk; simp -dsimp (maxSteps := 2000000) [go_sem, -decide_eq_true_eq, -decide_eq_false_iff_not, hx, hy]
              repeat' (first | refine And.intro ?_ ?_ | refine hk _ ?_ | (intro hg; try simp only [decide_eq_true_eq, decide_eq_false_iff_not] at hg) | omega | exact True.intro)
              all_goals clear hk k
              refine AW.retF (ow := []) (muts := []) ?_ (fun h => And.intro (.inr rfl) h)
              first | (rw [eq_ne_at hx hy (by assumption)]; simp [go_sem, Try.results145]; done) | (rw [eq_end (by omega) hinv (by omega)]; simp [go_sem, Try.results145]; done) | (rw [eq_ne_len (by omega)]; simp [go_sem, Try.results145]))
          · intro hc; try simp at hc
            all_goals (
              refine AW.skipN (fun _ h => h) ?_
              refine AW.regK tiOk (fun _ => []) ?_
              intro k hk; simp -dsimp (maxSteps := 2000000) [go_sem, -decide_eq_true_eq, -decide_eq_false_iff_not, hx, hy]
              repeat' (first | refine And.intro ?_ ?_ | refine hk _ ?_ | (intro hg; try simp only [decide_eq_true_eq, decide_eq_false_iff_not] at hg) | omega | exact True.intro)
              all_goals clear hk k
              show ∃ _, _
              have hw := wrapi hlt (by omega)
              refine ⟨i + 1, ⟨by omega, take_step hx hy (by assumption) hinv⟩, by omega, Less.of rfl (by simp [go_sem, hw]) (by simp [go_sem])⟩))
      · intro hc; try simp at hc
        all_goals (
          refine AW.exitN (fun _ h => h) ?_
          refine AW.reg tiOk (fun _ => []) [6] ?_
          intro k hk; simp -dsimp (maxSteps := 2000000) [go_sem, -decide_eq_true_eq, -decide_eq_false_iff_not]
          repeat' (first | refine And.intro ?_ ?_ | refine hk _ ?_ | (intro hg; try simp only [decide_eq_true_eq, decide_eq_false_iff_not] at hg) | omega | exact True.intro)
          all_goals clear hk k
          refine AW.retF (ow := []) (muts := []) ?_ (fun h => And.intro (.inr rfl) h)
          first | (rw [eq_ne_at hx hy (by assumption)]; simp [go_sem, Try.results145]; done) | (rw [eq_end (by omega) hinv (by omega)]; simp [go_sem, Try.results145]; done) | (rw [eq_ne_len (by omega)]; simp [go_sem, Try.results145])))

set_option maxHeartbeats 600000 in
set_option linter.unusedSimpArgs false in
set_option maxRecDepth 100000 in
/-- slices.EqualFunc[[]impl.Proc,[]impl.Proc,impl.Proc,impl.Proc] -/
theorem dc_slices_EqualFunc_impl_Proc_impl_Proc_impl_Proc_impl_Proc (f : Nat) (a b : List TProc) (hf : ∀ x ∈ a, ∀ y, DC Try.prog f ([.agg x.ro, .agg y.ro] ++ []) (.bool (decide (x = y))) []) (ha : a.length ≤ 9223372036854775807) : DC Try.prog 123 [.isl 1 (a.map TProc.ro), .isl 1 (b.map TProc.ro), .fn f []] (.bool (decide (a = b))) [] := by
  refine DC.intro tiOk Try.func123 rfl rfl rfl rfl rfl rfl rfl rfl [] ?_
  refine AW.reg tiOk (fun _ => []) [0, 1, 2] ?_
  intro k hk; simp -dsimp (maxSteps := 2000000) [go_sem, -decide_eq_true_eq, -decide_eq_false_iff_not]
  repeat' (first | refine And.intro ?_ ?_ | refine hk _ ?_ | (intro hg; try simp only [decide_eq_true_eq, decide_eq_false_iff_not] at hg) | omega | exact True.intro)
  all_goals clear hk k
  refine AW.seq ?_
  refine AW.reg tiOk (fun _ => []) [0, 1, 2, 14] ?_
  intro k hk; simp -dsimp (maxSteps := 2000000) [go_sem, -decide_eq_true_eq, -decide_eq_false_iff_not]
  repeat' (first | refine And.intro ?_ ?_ | refine hk _ ?_ | (intro hg; try simp only [decide_eq_true_eq, decide_eq_false_iff_not] at hg) | omega | exact True.intro)
  all_goals clear hk k
  refine AW.cond rfl ?_ ?_
  · intro hc; try simp at hc
    all_goals (
      refine AW.reg tiOk (fun _ => []) [6] ?_
      intro k hk; simp -dsimp (maxSteps := 2000000) [go_sem, -decide_eq_true_eq, -decide_eq_false_iff_not]
      repeat' (first | refine And.intro ?_ ?_ | refine hk _ ?_ | (intro hg; try simp only [decide_eq_true_eq, decide_eq_false_iff_not] at hg) | omega | exact True.intro)
      all_goals clear hk k
      refine AW.retF (ow := []) (muts := []) ?_ (fun h => And.intro (.inr rfl) h)
      first | (rw [eq_ne_at hx hy (by assumption)]; simp [go_sem, Try.results123]; done) | (rw [eq_end (by omega) hinv (by omega)]; simp [go_sem, Try.results123]; done) | (rw [eq_ne_len (by omega)]; simp [go_sem, Try.results123]))
  · intro hc; try simp at hc
    all_goals (
      refine AW.skipN (fun _ h => h) ?_
      refine AW.seq ?_
      refine AW.reg tiOk (fun _ => []) [1, 2, 15, 16, 17] ?_
      intro k hk; simp -dsimp (maxSteps := 2000000) [go_sem, -decide_eq_true_eq, -decide_eq_false_iff_not]
      repeat' (first | refine And.intro ?_ ?_ | refine hk _ ?_ | (intro hg; try simp only [decide_eq_true_eq, decide_eq_false_iff_not] at hg) | omega | exact True.intro)
      all_goals clear hk k
      refine AW.block ?_
      -- live at the loop's head: [1, 2, 15, 16, 17]
      refine AW.loopI (fun i : Nat => ⟨32, [(1, .isl 1 (b.map TProc.ro)), (2, .fn f []), (15, .isl 1 (a.map TProc.ro)), (16, .int .i64 a.length), (17, .int .i64 i)], []⟩) (fun i => i ≤ a.length ∧ a.take i = b.take i) (fun i => a.length - i) (0) (by simp) (Less.of rfl (by simp [go_sem]) (by simp [go_sem])) ?_
      rintro i ⟨hi, hinv⟩
      refine AW.reg tiOk (fun _ => []) [1, 2, 15, 16, 17, 18] ?_
      intro k hk; simp -dsimp (maxSteps := 2000000) [go_sem, -decide_eq_true_eq, -decide_eq_false_iff_not]
      repeat' (first | refine And.intro ?_ ?_ | refine hk _ ?_ | (intro hg; try simp only [decide_eq_true_eq, decide_eq_false_iff_not] at hg) | omega | exact True.intro)
      all_goals clear hk k
      refine AW.seq ?_
      refine AW.cond rfl ?_ ?_
      · intro hc; try simp at hc
        all_goals (
          have hlt : i < a.length := by assumption
          obtain ⟨x, hx⟩ := at_some hlt
          obtain ⟨y, hy⟩ := at_some (l := b) (show i < b.length by omega)
          have hla := at_lt hy
          refine AW.skipN (fun _ h => h) ?_
          refine AW.seq ?_
          refine AW.block ?_
          refine AW.reg tiOk (fun _ => []) [1, 2, 7, 8, 15, 16, 17] ?_
          intro k hk; simp -dsimp (maxSteps := 2000000) [go_sem, -decide_eq_true_eq, -decide_eq_false_iff_not, hx, hy]
          repeat' (first | refine And.intro ?_ ?_ | refine hk _ ?_ | (intro hg; try simp only [decide_eq_true_eq, decide_eq_false_iff_not] at hg) | omega | exact True.intro)
          all_goals clear hk k
          refine AW.reg tiOk (fun _ => []) [1, 2, 8, 9, 15, 16, 17] ?_
          intro k hk; simp -dsimp (maxSteps := 2000000) [go_sem, -decide_eq_true_eq, -decide_eq_false_iff_not, hx, hy]
          repeat' (first | refine And.intro ?_ ?_ | refine hk _ ?_ | (intro hg; try simp only [decide_eq_true_eq, decide_eq_false_iff_not] at hg) | omega | exact True.intro)
          all_goals clear hk k
          refine AW.reg tiOk (fun _ => []) [1, 2, 15, 16, 17, 30] ?_
          intro k hk; simp -dsimp (maxSteps := 2000000) [go_sem, -decide_eq_true_eq, -decide_eq_false_iff_not, hx, hy]
          repeat' (first | refine And.intro ?_ ?_ | refine hk _ ?_ | (intro hg; try simp only [decide_eq_true_eq, decide_eq_false_iff_not] at hg) | (refine CallK.intro (hf x (List.mem_of_getElem? hx) y) ?_; simp -dsimp (maxSteps := 2000000) [go_sem, -decide_eq_true_eq, -decide_eq_false_iff_not, hx, hy]) | omega | exact True.intro)
          all_goals clear hk k
          refine AW.cond rfl ?_ ?_
          · intro hc; try simp at hc
            all_goals (
              refine AW.reg tiOk (fun _ => []) [6] ?_
              intro k hk; simp -dsimp (maxSteps := 2000000) [go_sem, -decide_eq_true_eq, -decide_eq_false_iff_not, hx, hy]
              repeat' (first | refine And.intro ?_ ?_ | refine hk _ ?_ | (intro hg; try simp only [decide_eq_true_eq, decide_eq_false_iff_not] at hg) | omega | exact True.intro)
              all_goals clear hk k
              refine AW.retF (ow := []) (muts := []) ?_ (fun h => And.intro (.inr rfl) h)
              first | (rw [eq_ne_at hx hy (by assumption)]; simp [go_sem, Try.results123]; done) | (rw [eq_end (by omega) hinv (by omega)]; simp [go_sem, Try.results123]; done) | (rw [eq_ne_len (by omega)]; simp [go_sem, Try.results123]))
          · intro hc; try simp at hc
            all_goals (
              refine AW.skipN (fun _ h => h) ?_
              refine AW.regK tiOk (fun _ => []) ?_
              intro k hk; simp -dsimp (maxSteps := 2000000) [go_sem, -decide_eq_true_eq, -decide_eq_false_iff_not, hx, hy]
              repeat' (first | refine And.intro ?_ ?_ | refine hk _ ?_ | (intro hg; try simp only [decide_eq_true_eq, decide_eq_false_iff_not] at hg) | omega | exact True.intro)
              all_goals clear hk k
              show ∃ _, _
              have hw := wrapi hlt (by omega)
              refine ⟨i + 1, ⟨by omega, take_step hx hy (by assumption) hinv⟩, by omega, Less.of rfl (by simp [go_sem, hw]) (by simp [go_sem])⟩))
      · intro hc; try simp at hc
        all_goals (
          refine AW.exitN (fun _ h => h) ?_
          refine AW.reg tiOk (fun _ => []) [6] ?_
          intro k hk; simp -dsimp (maxSteps := 2000000) [go_sem, -decide_eq_true_eq, -decide_eq_false_iff_not]
          repeat' (first | refine And.intro ?_ ?_ | refine hk _ ?_ | (intro hg; try simp only [decide_eq_true_eq, decide_eq_false_iff_not] at hg) | omega | exact True.intro)
          all_goals clear hk k
          refine AW.retF (ow := []) (muts := []) ?_ (fun h => And.intro (.inr rfl) h)
          first | (rw [eq_ne_at hx hy (by assumption)]; simp [go_sem, Try.results123]; done) | (rw [eq_end (by omega) hinv (by omega)]; simp [go_sem, Try.results123]; done) | (rw [eq_ne_len (by omega)]; simp [go_sem, Try.results123])))

set_option maxHeartbeats 600000 in
set_option linter.unusedSimpArgs false in
set_option maxRecDepth 100000 in
/-- slices.EqualFunc[[]impl.Inst,[]impl.Inst,impl.Inst,impl.Inst] -/
theorem dc_slices_EqualFunc_impl_Inst_impl_Inst_impl_Inst_impl_Inst (f : Nat) (a b : List TInst) (hf : ∀ x ∈ a, ∀ y, DC Try.prog f ([.agg x.ro, .agg y.ro] ++ []) (.bool (decide (x = y))) []) (ha : a.length ≤ 9223372036854775807) : DC Try.prog 126 [.isl 6 (a.map TInst.ro), .isl 6 (b.map TInst.ro), .fn f []] (.bool (decide (a = b))) [] := by
  refine DC.intro tiOk Try.func126 rfl rfl rfl rfl rfl rfl rfl rfl [] ?_
  refine AW.reg tiOk (fun _ => []) [0, 1, 2] ?_
  intro k hk; simp -dsimp (maxSteps := 2000000) [go_sem, -decide_eq_true_eq, -decide_eq_false_iff_not]
  repeat' (first | refine And.intro ?_ ?_ | refine hk _ ?_ | (intro hg; try simp only [decide_eq_true_eq, decide_eq_false_iff_not] at hg) | omega | exact True.intro)
  all_goals clear hk k
  refine AW.seq ?_
  refine AW.reg tiOk (fun _ => []) [0, 1, 2, 14] ?_
  intro k hk; simp -dsimp (maxSteps := 2000000) [go_sem, -decide_eq_true_eq, -decide_eq_false_iff_not]
  repeat' (first | refine And.intro ?_ ?_ | refine hk _ ?_ | (intro hg; try simp only [decide_eq_true_eq, decide_eq_false_iff_not] at hg) | omega | exact True.intro)
  all_goals clear hk k
  refine AW.cond rfl ?_ ?_
  · intro hc; try simp at hc
    all_goals (
      refine AW.reg tiOk (fun _ => []) [6] ?_
      intro k hk; simp -dsimp (maxSteps := 2000000) [go_sem, -decide_eq_true_eq, -decide_eq_false_iff_not]
      repeat' (first | refine And.intro ?_ ?_ | refine hk _ ?_ | (intro hg; try simp only [decide_eq_true_eq, decide_eq_false_iff_not] at hg) | omega | exact True.intro)
      all_goals clear hk k
      refine AW.retF (ow := []) (muts := []) ?_ (fun h => And.intro (.inr rfl) h)
      first | (rw [eq_ne_at hx hy (by assumption)]; simp [go_sem, Try.results126]; done) | (rw [eq_end (by omega) hinv (by omega)]; simp [go_sem, Try.results126]; done) | (rw [eq_ne_len (by omega)]; simp [go_sem, Try.results126]))
  · intro hc; try simp at hc
    all_goals (
      refine AW.skipN (fun _ h => h) ?_
      refine AW.seq ?_
      refine AW.reg tiOk (fun _ => []) [1, 2, 15, 16, 17] ?_
      intro k hk; simp -dsimp (maxSteps := 2000000) [go_sem, -decide_eq_true_eq, -decide_eq_false_iff_not]
      repeat' (first | refine And.intro ?_ ?_ | refine hk _ ?_ | (intro hg; try simp only [decide_eq_true_eq, decide_eq_false_iff_not] at hg) | omega | exact True.intro)
      all_goals clear hk k
      refine AW.block ?_
      -- live at the loop's head: [1, 2, 15, 16, 17]
      refine AW.loopI (fun i : Nat => ⟨32, [(1, .isl 6 (b.map TInst.ro)), (2, .fn f []), (15, .isl 6 (a.map TInst.ro)), (16, .int .i64 a.length), (17, .int .i64 i)], []⟩) (fun i => i ≤ a.length ∧ a.take i = b.take i) (fun i => a.length - i) (0) (by simp) (Less.of rfl (by simp [go_sem]) (by simp [go_sem])) ?_
      rintro i ⟨hi, hinv⟩
      refine AW.reg tiOk (fun _ => []) [1, 2, 15, 16, 17, 18] ?_
      intro k hk; simp -dsimp (maxSteps := 2000000) [go_sem, -decide_eq_true_eq, -decide_eq_false_iff_not]
      repeat' (first | refine And.intro ?_ ?_ | refine hk _ ?_ | (intro hg; try simp only [decide_eq_true_eq, decide_eq_false_iff_not] at hg) | omega | exact True.intro)
      all_goals clear hk k
      refine AW.seq ?_
      refine AW.cond rfl ?_ ?_
      · intro hc; try simp at hc
        all_goals (
          have hlt : i < a.length := by assumption
          obtain ⟨x, hx⟩ := at_some hlt
          obtain ⟨y, hy⟩ := at_some (l := b) (show i < b.length by omega)
          have hla := at_lt hy
          refine AW.skipN (fun _ h => h) ?_
          refine AW.seq ?_
          refine AW.block ?_
          refine AW.reg tiOk (fun _ => []) [1, 2, 7, 8, 15, 16, 17] ?_
          intro k hk; simp -dsimp (maxSteps := 2000000) [go_sem, -decide_eq_true_eq, -decide_eq_false_iff_not, hx, hy]
          repeat' (first | refine And.intro ?_ ?_ | refine hk _ ?_ | (intro hg; try simp only [decide_eq_true_eq, decide_eq_false_iff_not] at hg) | omega | exact True.intro)
          all_goals clear hk k
          refine AW.reg tiOk (fun _ => []) [1, 2, 8, 9, 15, 16, 17] ?_
          intro k hk; simp -dsimp (maxSteps := 2000000) [go_sem, -decide_eq_true_eq, -decide_eq_false_iff_not, hx, hy]
          repeat' (first | refine And.intro ?_ ?_ | refine hk _ ?_ | (intro hg; try simp only [decide_eq_true_eq, decide_eq_false_iff_not] at hg) | omega | exact True.intro)
          all_goals clear hk k
          refine AW.reg tiOk (fun _ => []) [1, 2, 15, 16, 17, 30] ?_
          intro k hk; simp -dsimp (maxSteps := 2000000) [go_sem, -decide_eq_true_eq, -decide_eq_false_iff_not, hx, hy]
          repeat' (first | refine And.intro ?_ ?_ | refine hk _ ?_ | (intro hg; try simp only [decide_eq_true_eq, decide_eq_false_iff_not] at hg) | (refine CallK.intro (hf x (List.mem_of_getElem? hx) y) ?_; simp -dsimp (maxSteps := 2000000) [go_sem, -decide_eq_true_eq, -decide_eq_false_iff_not, hx, hy]) | omega | exact True.intro)
          all_goals clear hk k
          refine AW.cond rfl ?_ ?_
          · intro hc; try simp at hc
            all_goals (
              refine AW.reg tiOk (fun _ => []) [6] ?_
              intro k hk; simp -dsimp (maxSteps := 2000000) [go_sem, -decide_eq_true_eq, -decide_eq_false_iff_not, hx, hy]
              repeat' (first | refine And.intro ?_ ?_ | refine hk _ ?_ | (intro hg; try simp only [decide_eq_true_eq, decide_eq_false_iff_not] at hg) | omega | exact True.intro)
              all_goals clear hk k
              refine AW.retF (ow := []) (muts := []) ?_ (fun h => And.intro (.inr rfl) h)
              first | (rw [eq_ne_at hx hy (by assumption)]; simp [go_sem, Try.results126]; done) | (rw [eq_end (by omega) hinv (by omega)]; simp [go_sem, Try.results126]; done) | (rw [eq_ne_len (by omega)]; simp [go_sem, Try.results126]))
          · intro hc; try simp at hc
            all_goals (
              refine AW.skipN (fun _ h => h) ?_
              refine AW.regK tiOk (fun _ => []) ?_
              intro k hk; simp -dsimp (maxSteps := 2000000) [go_sem, -decide_eq_true_eq, -decide_eq_false_iff_not, hx, hy]
              repeat' (first | refine And.intro ?_ ?_ | refine hk _ ?_ | (intro hg; try simp only [decide_eq_true_eq, decide_eq_false_iff_not] at hg) | omega | exact True.intro)
              all_goals clear hk k
              show ∃ _, _
              have hw := wrapi hlt (by omega)
              refine ⟨i + 1, ⟨by omega, take_step hx hy (by assumption) hinv⟩, by omega, Less.of rfl (by simp [go_sem, hw]) (by simp [go_sem])⟩))
      · intro hc; try simp at hc
        all_goals (
          refine AW.exitN (fun _ h => h) ?_
          refine AW.reg tiOk (fun _ => []) [6] ?_
          intro k hk; simp -dsimp (maxSteps := 2000000) [go_sem, -decide_eq_true_eq, -decide_eq_false_iff_not]
          repeat' (first | refine And.intro ?_ ?_ | refine hk _ ?_ | (intro hg; try simp only [decide_eq_true_eq, decide_eq_false_iff_not] at hg) | omega | exact True.intro)
          all_goals clear hk k
          refine AW.retF (ow := []) (muts := []) ?_ (fun h => And.intro (.inr rfl) h)
          first | (rw [eq_ne_at hx hy (by assumption)]; simp [go_sem, Try.results126]; done) | (rw [eq_end (by omega) hinv (by omega)]; simp [go_sem, Try.results126]; done) | (rw [eq_ne_len (by omega)]; simp [go_sem, Try.results126])))

set_option maxHeartbeats 600000 in
set_option linter.unusedSimpArgs false in
set_option maxRecDepth 100000 in
/-- impl.SameProcs -/
theorem dc_impl_SameProcs (a b : List TStep) (ha : a.length ≤ 9223372036854775807 ∧ ∀ e ∈ a, e.gok) : DC Try.prog 125 [.isl 6 (a.map TStep.ro), .isl 6 (b.map TStep.ro)] (.bool (decide (a = b))) [] := by
  refine DC.intro tiOk Try.func125 rfl rfl rfl rfl rfl rfl rfl rfl [] ?_
  refine AW.reg tiOk (fun _ => []) [0, 1] ?_
  intro k hk; simp -dsimp (maxSteps := 2000000) [go_sem, -decide_eq_true_eq, -decide_eq_false_iff_not]
  repeat' (first | refine And.intro ?_ ?_ | refine hk _ ?_ | (intro hg; try simp only [decide_eq_true_eq, decide_eq_false_iff_not] at hg) | omega | exact True.intro)
  all_goals clear hk k
  refine AW.reg tiOk (fun _ => []) [4] ?_
  intro k hk; simp -dsimp (maxSteps := 2000000) [go_sem, -decide_eq_true_eq, -decide_eq_false_iff_not]
  repeat' (first | refine And.intro ?_ ?_ | refine hk _ ?_ | (intro hg; try simp only [decide_eq_true_eq, decide_eq_false_iff_not] at hg) | (refine CallK.intro (dc_slices_EqualFunc_impl_Step_impl_Step_impl_Step_impl_Step 146 a b (fun x hx y => dc_impl_SameProcs_1 x y (ha.2 x hx)) ha.1) ?_; simp -dsimp (maxSteps := 2000000) [go_sem, -decide_eq_true_eq, -decide_eq_false_iff_not]) | omega | exact True.intro)
  all_goals clear hk k
  refine AW.retF (ow := []) (muts := []) ?_ (fun h => And.intro (.inr rfl) h)
  simp [go_sem, Try.results125]

end Go.AM
