/- Walks. -/
import Derived.Test.YtefkpiameojpoaaT4
namespace Go.AM
open Go.Proofs

set_option maxHeartbeats 600000 in
set_option linter.unusedSimpArgs false in
set_option maxRecDepth 100000 in
/-- laws.szProc -/
theorem dc_laws_szProc (x : TProc) (z : Int) (hz : 0 ≤ z ∧ z ≤ 1048576) (hg : x.gok) : DC Try.prog 140 [.agg x.ro, .int .i64 z] (.int .i64 (subz z x.sz)) [] := by
  have hg' := hg
  unfold TProc.gok at hg'
  have h0 := hg'
  refine DC.intro tiOk Try.func140 rfl rfl rfl rfl rfl rfl rfl rfl [] ?_
  refine AW.reg tiOk (fun _ => []) [1, 2] ?_
  intro k hk; simp -dsimp (maxSteps := 2000000) [go_sem, -decide_eq_true_eq, -decide_eq_false_iff_not]
  repeat' (first | refine And.intro ?_ ?_ | refine hk _ ?_ | (intro hg; try simp only [decide_eq_true_eq, decide_eq_false_iff_not] at hg) | omega | exact True.intro)
  all_goals clear hk k
  refine AW.reg tiOk (fun _ => []) [1] ?_
  intro k hk; simp -dsimp (maxSteps := 2000000) [go_sem, -decide_eq_true_eq, -decide_eq_false_iff_not]
  repeat' (first | refine And.intro ?_ ?_ | refine hk _ ?_ | (intro hg; try simp only [decide_eq_true_eq, decide_eq_false_iff_not] at hg) | (refine CallK.intro (dc_laws_szStepS _ _ (by constructor <;> first | omega | grind [subz]) (by first | assumption | (constructor <;> assumption))) ?_; simp -dsimp (maxSteps := 2000000) [go_sem, -decide_eq_true_eq, -decide_eq_false_iff_not]) | omega | exact True.intro)
  all_goals clear hk k
  refine AW.seq ?_
  refine AW.reg tiOk (fun _ => []) [1, 10] ?_
  intro k hk; simp -dsimp (maxSteps := 2000000) [go_sem, -decide_eq_true_eq, -decide_eq_false_iff_not]
  repeat' (first | refine And.intro ?_ ?_ | refine hk _ ?_ | (intro hg; try simp only [decide_eq_true_eq, decide_eq_false_iff_not] at hg) | omega | exact True.intro)
  all_goals clear hk k
  refine AW.cond rfl ?_ ?_
  · intro hc; try simp [subz_neg, subz_nn] at hc
    all_goals (
      refine AW.reg tiOk (fun _ => []) [4] ?_
      intro k hk; simp -dsimp (maxSteps := 2000000) [go_sem, -decide_eq_true_eq, -decide_eq_false_iff_not]
      repeat' (first | refine And.intro ?_ ?_ | refine hk _ ?_ | (intro hg; try simp only [decide_eq_true_eq, decide_eq_false_iff_not] at hg) | omega | exact True.intro)
      all_goals clear hk k
      refine AW.retF (ow := []) (muts := []) ?_ (fun h => And.intro (.inr rfl) h)
      simp [go_sem, Try.results140]; simp only [subz, TProc.sz] at * <;> grind)
  · intro hc; try simp [subz_neg, subz_nn] at hc
    all_goals (
      refine AW.skipN (fun _ h => h) ?_
      refine AW.reg tiOk (fun _ => []) [4] ?_
      intro k hk; simp -dsimp (maxSteps := 2000000) [go_sem, -decide_eq_true_eq, -decide_eq_false_iff_not]
      repeat' (first | refine And.intro ?_ ?_ | refine hk _ ?_ | (intro hg; try simp only [decide_eq_true_eq, decide_eq_false_iff_not] at hg) | omega | exact True.intro)
      all_goals clear hk k
      refine AW.retF (ow := []) (muts := []) ?_ (fun h => And.intro (.inr rfl) h)
      simp [go_sem, Try.results140]; simp only [subz, TProc.sz] at * <;> grind)

set_option maxHeartbeats 600000 in
set_option linter.unusedSimpArgs false in
set_option maxRecDepth 100000 in
/-- laws.szProcS -/
theorem dc_laws_szProcS (l : List TProc) (z : Int) (hz : 0 ≤ z ∧ z ≤ 1048576) (hl : l.length ≤ 9223372036854775807 ∧ ∀ e ∈ l, e.gok) : DC Try.prog 118 [.isl 1 (l.map TProc.ro), .int .i64 z] (.int .i64 (subz z (l.length + (l.map TProc.sz).sum))) [] := by
  obtain ⟨hl, hg⟩ := hl
  have hw : IntKind.wrap .i64 (z - (l.length : Int)) = z - (l.length : Int) := wrap64 (by omega) (by omega)
  refine DC.intro tiOk Try.func118 rfl rfl rfl rfl rfl rfl rfl rfl [] ?_
  refine AW.reg tiOk (fun _ => []) [0, 1] ?_
  intro k hk; simp -dsimp (maxSteps := 2000000) [go_sem, -decide_eq_true_eq, -decide_eq_false_iff_not, hw]
  repeat' (first | refine And.intro ?_ ?_ | refine hk _ ?_ | (intro hg; try simp only [decide_eq_true_eq, decide_eq_false_iff_not] at hg) | omega | exact True.intro)
  all_goals clear hk k
  refine AW.reg tiOk (fun _ => []) [0, 1] ?_
  intro k hk; simp -dsimp (maxSteps := 2000000) [go_sem, -decide_eq_true_eq, -decide_eq_false_iff_not, hw]
  repeat' (first | refine And.intro ?_ ?_ | refine hk _ ?_ | (intro hg; try simp only [decide_eq_true_eq, decide_eq_false_iff_not] at hg) | omega | exact True.intro)
  all_goals clear hk k
  refine AW.seq ?_
  refine AW.reg tiOk (fun _ => []) [0, 1, 11] ?_
  intro k hk; simp -dsimp (maxSteps := 2000000) [go_sem, -decide_eq_true_eq, -decide_eq_false_iff_not, hw]
  repeat' (first | refine And.intro ?_ ?_ | refine hk _ ?_ | (intro hg; try simp only [decide_eq_true_eq, decide_eq_false_iff_not] at hg) | omega | exact True.intro)
  all_goals clear hk k
  refine AW.cond rfl ?_ ?_
  · intro hc; try simp [subz_neg, subz_nn] at hc
    all_goals (
      refine AW.reg tiOk (fun _ => []) [4] ?_
      intro k hk; simp -dsimp (maxSteps := 2000000) [go_sem, -decide_eq_true_eq, -decide_eq_false_iff_not, hw]
      repeat' (first | refine And.intro ?_ ?_ | refine hk _ ?_ | (intro hg; try simp only [decide_eq_true_eq, decide_eq_false_iff_not] at hg) | omega | exact True.intro)
      all_goals clear hk k
      refine AW.retF (ow := []) (muts := []) ?_ (fun h => And.intro (.inr rfl) h)
      have hle := fun i => sum_le (f := TProc.sz) (l := l) (i := i); first | (rw [subz_no (by have := hle (i + 1); simp at *; omega)]; simp [go_sem, Try.results118]; done) | (rw [subz_no (by simp at *; omega)]; simp [go_sem, Try.results118]; done) | (rw [List.take_of_length_le (show (l.map TProc.sz).length ≤ i by simp; omega)] at *; rw [subz_ok (by simp at *; omega)]; simp [go_sem, Try.results118]; omega))
  · intro hc; try simp [subz_neg, subz_nn] at hc
    all_goals (
      refine AW.skipN (fun _ h => h) ?_
      refine AW.seq ?_
      refine AW.reg tiOk (fun _ => []) [0, 1, 5] ?_
      intro k hk; simp -dsimp (maxSteps := 2000000) [go_sem, -decide_eq_true_eq, -decide_eq_false_iff_not, hw]
      repeat' (first | refine And.intro ?_ ?_ | refine hk _ ?_ | (intro hg; try simp only [decide_eq_true_eq, decide_eq_false_iff_not] at hg) | omega | exact True.intro)
      all_goals clear hk k
      refine AW.block ?_
      -- live at the loop's head: [0, 1, 5]
      refine AW.loopI (fun i : Nat => ⟨27, [(0, .isl 1 (l.map TProc.ro)), (1, .int .i64 (z - (l.length : Int) - (((l.map TProc.sz).take i).sum : Int))), (5, .int .i64 i)], []⟩) (fun i => i ≤ l.length ∧ (l.length : Int) + (((l.map TProc.sz).take i).sum : Nat) ≤ z) (fun i => l.length - i) (0) (by refine ⟨Nat.zero_le _, ?_⟩; simp; omega) (Less.of rfl (by simp [go_sem]) (by simp [go_sem])) ?_
      rintro i ⟨hi, hinv⟩
      refine AW.seq ?_
      refine AW.reg tiOk (fun _ => []) [0, 1, 5, 15] ?_
      intro k hk; simp -dsimp (maxSteps := 2000000) [go_sem, -decide_eq_true_eq, -decide_eq_false_iff_not, hw]
      repeat' (first | refine And.intro ?_ ?_ | refine hk _ ?_ | (intro hg; try simp only [decide_eq_true_eq, decide_eq_false_iff_not] at hg) | omega | exact True.intro)
      all_goals clear hk k
      refine AW.cond rfl ?_ ?_
      · intro hc; try simp [subz_neg, subz_nn] at hc
        all_goals (
          have hlt : i < l.length := by assumption
          obtain ⟨x, hx⟩ := at_some hlt
          have hst := sum_take (f := TProc.sz) hx
          refine AW.skipN (fun _ h => h) ?_
          refine AW.seq ?_
          refine AW.block ?_
          refine AW.reg tiOk (fun _ => []) [0, 1, 5] ?_
          intro k hk; simp -dsimp (maxSteps := 2000000) [go_sem, -decide_eq_true_eq, -decide_eq_false_iff_not, hw, hx]
          repeat' (first | refine And.intro ?_ ?_ | refine hk _ ?_ | (intro hg; try simp only [decide_eq_true_eq, decide_eq_false_iff_not] at hg) | (refine CallK.intro (dc_laws_szProc x _ (by omega) (hg x (List.mem_of_getElem? hx))) ?_; simp -dsimp (maxSteps := 2000000) [go_sem, -decide_eq_true_eq, -decide_eq_false_iff_not, hw, hx]) | omega | exact True.intro)
          all_goals clear hk k
          refine AW.reg tiOk (fun _ => []) [0, 1, 5, 25] ?_
          intro k hk; simp -dsimp (maxSteps := 2000000) [go_sem, -decide_eq_true_eq, -decide_eq_false_iff_not, hw, hx]
          repeat' (first | refine And.intro ?_ ?_ | refine hk _ ?_ | (intro hg; try simp only [decide_eq_true_eq, decide_eq_false_iff_not] at hg) | omega | exact True.intro)
          all_goals clear hk k
          refine AW.cond rfl ?_ ?_
          · intro hc; try simp [subz_neg, subz_nn] at hc
            all_goals (
              refine AW.reg tiOk (fun _ => []) [4] ?_
              intro k hk; simp -dsimp (maxSteps := 2000000) [go_sem, -decide_eq_true_eq, -decide_eq_false_iff_not, hw, hx]
              repeat' (first | refine And.intro ?_ ?_ | refine hk _ ?_ | (intro hg; try simp only [decide_eq_true_eq, decide_eq_false_iff_not] at hg) | omega | exact True.intro)
              all_goals clear hk k
              refine AW.retF (ow := []) (muts := []) ?_ (fun h => And.intro (.inr rfl) h)
              have hle := fun i => sum_le (f := TProc.sz) (l := l) (i := i); first | (rw [subz_no (by have := hle (i + 1); simp at *; omega)]; simp [go_sem, Try.results118]; done) | (rw [subz_no (by simp at *; omega)]; simp [go_sem, Try.results118]; done) | (rw [List.take_of_length_le (show (l.map TProc.sz).length ≤ i by simp; omega)] at *; rw [subz_ok (by simp at *; omega)]; simp [go_sem, Try.results118]; omega))
          · intro hc; try simp [subz_neg, subz_nn] at hc
            all_goals (
              refine AW.skipN (fun _ h => h) ?_
              refine AW.regK tiOk (fun _ => []) ?_
              intro k hk; simp -dsimp (maxSteps := 2000000) [go_sem, -decide_eq_true_eq, -decide_eq_false_iff_not, hw, hx]
              repeat' (first | refine And.intro ?_ ?_ | refine hk _ ?_ | (intro hg; try simp only [decide_eq_true_eq, decide_eq_false_iff_not] at hg) | omega | exact True.intro)
              all_goals clear hk k
              show ∃ _, _
              have hw2 := wrapi hlt hl
              have hb : (TProc.sz x : Int) ≤ z - (l.length : Int) - (((l.map TProc.sz).take i).sum : Int) := by first | exact subz_nn.1 (by assumption) | omega
              refine ⟨i + 1, ⟨by omega, by omega⟩, by omega, Less.of rfl (by simp [go_sem, hw2, subz_ok hb, hst]; omega) (by simp [go_sem])⟩))
      · intro hc; try simp [subz_neg, subz_nn] at hc
        all_goals (
          refine AW.exitN (fun _ h => h) ?_
          refine AW.reg tiOk (fun _ => []) [4] ?_
          intro k hk; simp -dsimp (maxSteps := 2000000) [go_sem, -decide_eq_true_eq, -decide_eq_false_iff_not, hw]
          repeat' (first | refine And.intro ?_ ?_ | refine hk _ ?_ | (intro hg; try simp only [decide_eq_true_eq, decide_eq_false_iff_not] at hg) | omega | exact True.intro)
          all_goals clear hk k
          refine AW.retF (ow := []) (muts := []) ?_ (fun h => And.intro (.inr rfl) h)
          have hle := fun i => sum_le (f := TProc.sz) (l := l) (i := i); first | (rw [subz_no (by have := hle (i + 1); simp at *; omega)]; simp [go_sem, Try.results118]; done) | (rw [subz_no (by simp at *; omega)]; simp [go_sem, Try.results118]; done) | (rw [List.take_of_length_le (show (l.map TProc.sz).length ≤ i by simp; omega)] at *; rw [subz_ok (by simp at *; omega)]; simp [go_sem, Try.results118]; omega)))

set_option maxHeartbeats 600000 in
set_option linter.unusedSimpArgs false in
set_option maxRecDepth 100000 in
/-- laws.eqProc -/
theorem dc_laws_eqProc (a b : TProc) (hg : a.gok) : DC Try.prog 148 [.agg a.ro, .agg b.ro] (.bool (decide (a = b))) [] := by
  have h0 := hg
  unfold TProc.gok at h0
  refine DC.intro tiOk Try.func148 rfl rfl rfl rfl rfl rfl rfl rfl [] ?_
  refine AW.reg tiOk (fun _ => []) [2, 3] ?_
  intro k hk; simp -dsimp (maxSteps := 2000000) [go_sem, -decide_eq_true_eq, -decide_eq_false_iff_not]
  repeat' (first | refine And.intro ?_ ?_ | refine hk _ ?_ | (intro hg; try simp only [decide_eq_true_eq, decide_eq_false_iff_not] at hg) | omega | exact True.intro)
  all_goals clear hk k
  refine AW.seq ?_
  refine AW.reg tiOk (fun _ => []) [10] ?_
  intro k hk; simp -dsimp (maxSteps := 2000000) [go_sem, -decide_eq_true_eq, -decide_eq_false_iff_not]
  repeat' (first | refine And.intro ?_ ?_ | refine hk _ ?_ | (intro hg; try simp only [decide_eq_true_eq, decide_eq_false_iff_not] at hg) | (refine CallK.intro (dc_laws_eqStepS _ _ (by assumption)) ?_; simp -dsimp (maxSteps := 2000000) [go_sem, -decide_eq_true_eq, -decide_eq_false_iff_not]) | omega | exact True.intro)
  all_goals clear hk k
  refine AW.cond rfl ?_ ?_
  · intro hc; try simp at hc
    all_goals (
      refine AW.reg tiOk (fun _ => []) [4] ?_
      intro k hk; simp -dsimp (maxSteps := 2000000) [go_sem, -decide_eq_true_eq, -decide_eq_false_iff_not]
      repeat' (first | refine And.intro ?_ ?_ | refine hk _ ?_ | (intro hg; try simp only [decide_eq_true_eq, decide_eq_false_iff_not] at hg) | omega | exact True.intro)
      all_goals clear hk k
      refine AW.retF (ow := []) (muts := []) ?_ (fun h => And.intro (.inr rfl) h)
      cases a; cases b; simp [go_sem, Try.results148] at *; simp [*])
  · intro hc; try simp at hc
    all_goals (
      refine AW.skipN (fun _ h => h) ?_
      refine AW.reg tiOk (fun _ => []) [4] ?_
      intro k hk; simp -dsimp (maxSteps := 2000000) [go_sem, -decide_eq_true_eq, -decide_eq_false_iff_not]
      repeat' (first | refine And.intro ?_ ?_ | refine hk _ ?_ | (intro hg; try simp only [decide_eq_true_eq, decide_eq_false_iff_not] at hg) | omega | exact True.intro)
      all_goals clear hk k
      refine AW.retF (ow := []) (muts := []) ?_ (fun h => And.intro (.inr rfl) h)
      cases a; cases b; simp [go_sem, Try.results148] at *; simp [*])

set_option maxHeartbeats 600000 in
set_option linter.unusedSimpArgs false in
set_option maxRecDepth 100000 in
/-- laws.eqProcS -/
theorem dc_laws_eqProcS (a b : List TProc) (ha : a.length ≤ 9223372036854775807 ∧ ∀ e ∈ a, e.gok) : DC Try.prog 128 [.isl 1 (a.map TProc.ro), .isl 1 (b.map TProc.ro)] (.bool (decide (a = b))) [] := by
  obtain ⟨ha, hg⟩ := ha
  refine DC.intro tiOk Try.func128 rfl rfl rfl rfl rfl rfl rfl rfl [] ?_
  refine AW.reg tiOk (fun _ => []) [0, 1] ?_
  intro k hk; simp -dsimp (maxSteps := 2000000) [go_sem, -decide_eq_true_eq, -decide_eq_false_iff_not]
  repeat' (first | refine And.intro ?_ ?_ | refine hk _ ?_ | (intro hg; try simp only [decide_eq_true_eq, decide_eq_false_iff_not] at hg) | omega | exact True.intro)
  all_goals clear hk k
  refine AW.seq ?_
  refine AW.reg tiOk (fun _ => []) [0, 1, 10] ?_
  intro k hk; simp -dsimp (maxSteps := 2000000) [go_sem, -decide_eq_true_eq, -decide_eq_false_iff_not]
  repeat' (first | refine And.intro ?_ ?_ | refine hk _ ?_ | (intro hg; try simp only [decide_eq_true_eq, decide_eq_false_iff_not] at hg) | omega | exact True.intro)
  all_goals clear hk k
  refine AW.cond rfl ?_ ?_
  · intro hc; try simp at hc
    all_goals (
      refine AW.reg tiOk (fun _ => []) [4] ?_
      intro k hk; simp -dsimp (maxSteps := 2000000) [go_sem, -decide_eq_true_eq, -decide_eq_false_iff_not]
      repeat' (first | refine And.intro ?_ ?_ | refine hk _ ?_ | (intro hg; try simp only [decide_eq_true_eq, decide_eq_false_iff_not] at hg) | omega | exact True.intro)
      all_goals clear hk k
      refine AW.retF (ow := []) (muts := []) ?_ (fun h => And.intro (.inr rfl) h)
      first | (rw [eq_ne_at hx hy (by first | assumption | (intro e; subst e; omega))]; simp [go_sem, Try.results128]; done) | (rw [eq_end (by omega) hinv (by omega)]; simp [go_sem, Try.results128]; done) | (rw [eq_ne_len (by omega)]; simp [go_sem, Try.results128]))
  · intro hc; try simp at hc
    all_goals (
      refine AW.skipN (fun _ h => h) ?_
      refine AW.seq ?_
      refine AW.reg tiOk (fun _ => []) [0, 1, 5] ?_
      intro k hk; simp -dsimp (maxSteps := 2000000) [go_sem, -decide_eq_true_eq, -decide_eq_false_iff_not]
      repeat' (first | refine And.intro ?_ ?_ | refine hk _ ?_ | (intro hg; try simp only [decide_eq_true_eq, decide_eq_false_iff_not] at hg) | omega | exact True.intro)
      all_goals clear hk k
      refine AW.block ?_
      -- live at the loop's head: [0, 1, 5]
      refine AW.loopI (fun i : Nat => ⟨27, [(0, .isl 1 (a.map TProc.ro)), (1, .isl 1 (b.map TProc.ro)), (5, .int .i64 i)], []⟩) (fun i => i ≤ a.length ∧ a.take i = b.take i) (fun i => a.length - i) (0) (by simp) (Less.of rfl (by simp [go_sem]) (by simp [go_sem])) ?_
      rintro i ⟨hi, hinv⟩
      refine AW.seq ?_
      refine AW.reg tiOk (fun _ => []) [0, 1, 5, 14] ?_
      intro k hk; simp -dsimp (maxSteps := 2000000) [go_sem, -decide_eq_true_eq, -decide_eq_false_iff_not]
      repeat' (first | refine And.intro ?_ ?_ | refine hk _ ?_ | (intro hg; try simp only [decide_eq_true_eq, decide_eq_false_iff_not] at hg) | omega | exact True.intro)
      all_goals clear hk k
      refine AW.cond rfl ?_ ?_
      · intro hc; try simp at hc
        all_goals (
          have hlt : i < a.length := by assumption
          obtain ⟨x, hx⟩ := at_some hlt
          obtain ⟨y, hy⟩ := at_some (l := b) (show i < b.length by omega)
          have hla := at_lt hy
          refine AW.skipN (fun _ h => h) ?_
          refine AW.seq ?_
          refine AW.block ?_
          refine AW.reg tiOk (fun _ => []) [0, 1, 5, 26] ?_
          intro k hk; simp -dsimp (maxSteps := 2000000) [go_sem, -decide_eq_true_eq, -decide_eq_false_iff_not, hx, hy]
          repeat' (first | refine And.intro ?_ ?_ | (refine Chk.keys ?_; simp only [go_sem, List.map_cons, List.map_nil, List.flatMap_cons, List.flatMap_nil, List.flatMap_append, List.append_nil, List.nil_append, List.cons_append]; decide) | refine hk _ ?_ | (intro hg; try simp only [decide_eq_true_eq, decide_eq_false_iff_not] at hg) | (refine CallK.intro (dc_laws_eqProc x y (hg x (List.mem_of_getElem? hx))) ?_; simp -dsimp (maxSteps := 2000000) [go_sem, -decide_eq_true_eq, -decide_eq_false_iff_not, hx, hy]) | omega | exact True.intro)
          all_goals clear hk k
          refine AW.cond rfl ?_ ?_
          · intro hc; try simp at hc
            all_goals (
              refine AW.reg tiOk (fun _ => []) [4] ?_
              intro k hk; simp -dsimp (maxSteps := 2000000) [go_sem, -decide_eq_true_eq, -decide_eq_false_iff_not, hx, hy]
              repeat' (first | refine And.intro ?_ ?_ | refine hk _ ?_ | (intro hg; try simp only [decide_eq_true_eq, decide_eq_false_iff_not] at hg) | omega | exact True.intro)
              all_goals clear hk k
              refine AW.retF (ow := []) (muts := []) ?_ (fun h => And.intro (.inr rfl) h)
              first | (rw [eq_ne_at hx hy (by first | assumption | (intro e; subst e; omega))]; simp [go_sem, Try.results128]; done) | (rw [eq_end (by omega) hinv (by omega)]; simp [go_sem, Try.results128]; done) | (rw [eq_ne_len (by omega)]; simp [go_sem, Try.results128]))
          · intro hc; try simp at hc
            all_goals (
              refine AW.skipN (fun _ h => h) ?_
              refine AW.regK tiOk (fun _ => []) ?_
              intro k hk; simp -dsimp (maxSteps := 2000000) [go_sem, -decide_eq_true_eq, -decide_eq_false_iff_not, hx, hy]
              repeat' (first | refine And.intro ?_ ?_ | refine hk _ ?_ | (intro hg; try simp only [decide_eq_true_eq, decide_eq_false_iff_not] at hg) | omega | exact True.intro)
              all_goals clear hk k
              show ∃ _, _
              have hw := wrapi hlt (by omega)
              refine ⟨i + 1, ⟨by omega, take_step hx hy (by first | assumption | (apply UInt8.toNat_inj.1; omega)) hinv⟩, by omega, Less.of rfl (by simp [go_sem, hw]) (by simp [go_sem])⟩))
      · intro hc; try simp at hc
        all_goals (
          refine AW.exitN (fun _ h => h) ?_
          refine AW.reg tiOk (fun _ => []) [4] ?_
          intro k hk; simp -dsimp (maxSteps := 2000000) [go_sem, -decide_eq_true_eq, -decide_eq_false_iff_not]
          repeat' (first | refine And.intro ?_ ?_ | refine hk _ ?_ | (intro hg; try simp only [decide_eq_true_eq, decide_eq_false_iff_not] at hg) | omega | exact True.intro)
          all_goals clear hk k
          refine AW.retF (ow := []) (muts := []) ?_ (fun h => And.intro (.inr rfl) h)
          first | (rw [eq_ne_at hx hy (by first | assumption | (intro e; subst e; omega))]; simp [go_sem, Try.results128]; done) | (rw [eq_end (by omega) hinv (by omega)]; simp [go_sem, Try.results128]; done) | (rw [eq_ne_len (by omega)]; simp [go_sem, Try.results128])))

set_option maxHeartbeats 600000 in
set_option linter.unusedSimpArgs false in
set_option maxRecDepth 100000 in
/-- laws.toProc -/
theorem dc_laws_toProc (x : TProc) (hs : x.sz ≤ 1048576) : DC Try.prog 143 [.agg x.ro] (.agg [.osl 6 (x.steps.map TStep.oc)]) [] := by
  unfold TProc.sz at hs
  have h0 : x.steps.length ≤ 1048576 ∧ ∀ e ∈ x.steps, e.sz ≤ 1048576 := ⟨by omega, fun e he => by have := sum_mem (f := TStep.sz) he; omega⟩
  refine DC.intro tiOk Try.func143 rfl rfl rfl rfl rfl rfl rfl rfl [1000] ?_
  refine AW.reg tiOk (fun _ => []) [1, 2] ?_
  intro k hk; simp -dsimp (maxSteps := 2000000) [go_sem, -decide_eq_true_eq, -decide_eq_false_iff_not]
  repeat' (first | refine And.intro ?_ ?_ | refine hk _ ?_ | (intro hg; try simp only [decide_eq_true_eq, decide_eq_false_iff_not] at hg) | omega | exact True.intro)
  all_goals clear hk k
  refine AW.reg tiOk (fun _ => []) [1, 2, 3] ?_
  intro k hk; simp -dsimp (maxSteps := 2000000) [go_sem, -decide_eq_true_eq, -decide_eq_false_iff_not]
  repeat' (first | refine And.intro ?_ ?_ | refine hk _ ?_ | (intro hg; try simp only [decide_eq_true_eq, decide_eq_false_iff_not] at hg) | omega | exact True.intro)
  all_goals clear hk k
  refine AW.reg tiOk (fun _ => []) [2, 3] ?_
  intro k hk; simp -dsimp (maxSteps := 2000000) [go_sem, -decide_eq_true_eq, -decide_eq_false_iff_not]
  repeat' (first | refine And.intro ?_ ?_ | refine hk _ ?_ | (intro hg; try simp only [decide_eq_true_eq, decide_eq_false_iff_not] at hg) | (refine CallK.intro (dc_laws_toStepS _ (by assumption)) ?_; simp -dsimp (maxSteps := 2000000) [go_sem, -decide_eq_true_eq, -decide_eq_false_iff_not]) | omega | exact True.intro)
  all_goals clear hk k
  refine AW.reg tiOk (fun _ => []) [2] ?_
  intro k hk; simp -dsimp (maxSteps := 2000000) [go_sem, -decide_eq_true_eq, -decide_eq_false_iff_not]
  repeat' (first | refine And.intro ?_ ?_ | refine hk _ ?_ | (intro hg; try simp only [decide_eq_true_eq, decide_eq_false_iff_not] at hg) | omega | exact True.intro)
  all_goals clear hk k
  refine AW.retF (ow := [1000]) (muts := []) ?_ (fun h => And.intro (.inr rfl) h)
  simp [go_sem, Try.results143]

set_option maxHeartbeats 600000 in
set_option linter.unusedSimpArgs false in
set_option maxRecDepth 100000 in
/-- laws.toProcS -/
theorem dc_laws_toProcS (l : List TProc) (hl : l.length ≤ 1048576 ∧ ∀ e ∈ l, e.sz ≤ 1048576) : DC Try.prog 121 [.isl 1 (l.map TProc.ro)] (.osl 1 (l.map TProc.oc)) [] := by
  obtain ⟨hl, hg⟩ := hl
  have idz : ∀ i, (fill TProc.oc [.nils] l i).flatMap idsL = [] := fun i => fill_ids (by intro x; simp [go_sem]) (by simp [go_sem])
  refine DC.intro tiOk Try.func121 rfl rfl rfl rfl rfl rfl rfl rfl [1000] ?_
  refine AW.reg tiOk (fun _ => []) [0] ?_
  intro k hk; simp -dsimp (maxSteps := 2000000) [go_sem, -decide_eq_true_eq, -decide_eq_false_iff_not]
  repeat' (first | refine And.intro ?_ ?_ | refine hk _ ?_ | (intro hg; try simp only [decide_eq_true_eq, decide_eq_false_iff_not] at hg) | omega | exact True.intro | (show (_ : Nat) < _; simp [go_sem]; omega) | (show (_ : Nat) ≤ _; simp [go_sem]; done) | (show _ = _; simp [go_sem]; done) | (show _ ∧ _ ; simp [go_sem]; done))
  all_goals clear hk k
  refine AW.reg tiOk (fun _ => []) [0, 3] ?_
  intro k hk; simp -dsimp (maxSteps := 2000000) [go_sem, -decide_eq_true_eq, -decide_eq_false_iff_not]
  repeat' (first | refine And.intro ?_ ?_ | refine hk _ ?_ | (intro hg; try simp only [decide_eq_true_eq, decide_eq_false_iff_not] at hg) | omega | exact True.intro | (show (_ : Nat) < _; simp [go_sem]; omega) | (show (_ : Nat) ≤ _; simp [go_sem]; done) | (show _ = _; simp [go_sem]; done) | (show _ ∧ _ ; simp [go_sem]; done))
  all_goals clear hk k
  refine AW.seq ?_
  refine AW.reg tiOk (fun _ => []) [0, 3, 4] ?_
  intro k hk; simp -dsimp (maxSteps := 2000000) [go_sem, -decide_eq_true_eq, -decide_eq_false_iff_not]
  repeat' (first | refine And.intro ?_ ?_ | refine hk _ ?_ | (intro hg; try simp only [decide_eq_true_eq, decide_eq_false_iff_not] at hg) | omega | exact True.intro | (show (_ : Nat) < _; simp [go_sem]; omega) | (show (_ : Nat) ≤ _; simp [go_sem]; done) | (show _ = _; simp [go_sem]; done) | (show _ ∧ _ ; simp [go_sem]; done))
  all_goals clear hk k
  refine AW.block ?_
  -- live at the loop's head: [0, 3, 4]
  refine AW.loopI (fun i : Nat => ⟨23, [(0, .isl 1 (l.map TProc.ro)), (3, .sl 7 1 0 l.length), (4, .int .i64 i)], [(7, some ⟨1, fill TProc.oc [.nils] l i⟩)]⟩) (fun i => i ≤ l.length) (fun i => l.length - i) (0) (by simp) (Less.of rfl (by simp [go_sem]) (by simp [go_sem, fill_zero])) ?_
  rintro i hi
  refine AW.seq ?_
  refine AW.reg tiOk (fun _ => []) [0, 3, 4, 11] ?_
  intro k hk; simp -dsimp (maxSteps := 2000000) [go_sem, -decide_eq_true_eq, -decide_eq_false_iff_not]
  repeat' (first | refine And.intro ?_ ?_ | refine hk _ ?_ | (intro hg; try simp only [decide_eq_true_eq, decide_eq_false_iff_not] at hg) | omega | exact True.intro | (show (_ : Nat) < _; simp [go_sem]; omega) | (show (_ : Nat) ≤ _; simp [go_sem]; done) | (show _ = _; simp [go_sem]; done) | (show _ ∧ _ ; simp [go_sem]; done))
  all_goals clear hk k
  refine AW.cond rfl ?_ ?_
  · intro hc; try simp at hc
    all_goals (
      have hlt : i < l.length := by assumption
      obtain ⟨x, hx⟩ := at_some hlt
      have hf := fill_len (f := TProc.oc) (z := [.nils]) hi
      have hf2 := fill_at (f := TProc.oc) (z := [.nils]) hlt
      refine AW.skipN (fun _ h => h) ?_
      refine AW.seq ?_
      refine AW.block ?_
      refine AW.regN0 tiOk (fun _ => []) [0, 3, 4] (fun _ h => h) ?_
      intro k hk; simp -dsimp (maxSteps := 2000000) [go_sem, -decide_eq_true_eq, -decide_eq_false_iff_not, hx, hf, hf2, idz]
      repeat' (first | refine And.intro ?_ ?_ | refine hk _ ?_ | (intro hg; try simp only [decide_eq_true_eq, decide_eq_false_iff_not] at hg) | (refine CallK.intro (dc_laws_toProc x (hg x (List.mem_of_getElem? hx))) ?_; simp -dsimp (maxSteps := 2000000) [go_sem, -decide_eq_true_eq, -decide_eq_false_iff_not, hx, hf, hf2, idz]) | omega | exact True.intro | (show (_ : Nat) < _; simp [go_sem, hx, hf, hf2, idz]; omega) | (show (_ : Nat) ≤ _; simp [go_sem, hx, hf, hf2, idz]; done) | (show _ = _; simp [go_sem, hx, hf, hf2, idz]; done) | (show _ ∧ _ ; simp [go_sem, hx, hf, hf2, idz]; done))
      all_goals clear hk k
      refine AW.fold (nd := ?nd_1) (c := ?c_1) (l := ?l_1) (es := ?es_1) (n := ?n_1) 7 i 0 1020 ?h1_1 ?h2_1 ?h4_1 ?h3_1 ?hn_1 (by decide) ?h6_1 ?kk_1
      (case h1_1 => exact rfl)
      (case h2_1 => refine node_here ?_; (repeat rw [List.length_set]); omega)
      (case h4_1 => exact rfl)
      (case h3_1 => exact rfl)
      (case hn_1 => simp)
      (case h6_1 => simp [go_sem])
      refine AW.cellLe (nd := ?nd_2) (c := ?c_2) (x := ?x_2) 7 i 0 (owc 6 (x.steps.map TStep.oc)) ?h1_2 ?h2_2 ?h3_2 ?h4_2 ?kk_2
      (case h1_2 => exact rfl)
      (case h2_2 => refine node_here ?_; (repeat rw [List.length_set]); omega)
      (case h3_2 => exact rfl)
      (case h4_2 => simp [go_sem])
      refine AW.tidy (st' := ?stt_3)  [0, 3, 4] ?e_3 ?kk_3
      (case e_3 => simp -dsimp [go_sem, List.set_set, hx, hf, hf2, idz]; exact rfl)
      refine AW.regK tiOk (fun _ => []) ?_
      intro k hk; simp -dsimp (maxSteps := 2000000) [go_sem, -decide_eq_true_eq, -decide_eq_false_iff_not, hx, hf, hf2, idz]
      repeat' (first | refine And.intro ?_ ?_ | refine hk _ ?_ | (intro hg; try simp only [decide_eq_true_eq, decide_eq_false_iff_not] at hg) | omega | exact True.intro | (show (_ : Nat) < _; simp [go_sem, hx, hf, hf2, idz]; omega) | (show (_ : Nat) ≤ _; simp [go_sem, hx, hf, hf2, idz]; done) | (show _ = _; simp [go_sem, hx, hf, hf2, idz]; done) | (show _ ∧ _ ; simp [go_sem, hx, hf, hf2, idz]; done))
      all_goals clear hk k
      show ∃ _, _
      have hw := wrapi hlt (by omega)
      have hs := fill_set (f := TProc.oc) (z := [.nils]) hx
      simp [go_sem] at hs
      refine ⟨i + 1, by omega, by omega, Less.of rfl (by simp [go_sem, hw]) (by simp [go_sem, List.set_set, ← hs])⟩)
  · intro hc; try simp at hc
    all_goals (
      refine AW.exitN (fun _ h => h) ?_
      refine AW.reg tiOk (fun _ => []) [2] ?_
      intro k hk; simp -dsimp (maxSteps := 2000000) [go_sem, -decide_eq_true_eq, -decide_eq_false_iff_not]
      repeat' (first | refine And.intro ?_ ?_ | refine hk _ ?_ | (intro hg; try simp only [decide_eq_true_eq, decide_eq_false_iff_not] at hg) | omega | exact True.intro | (show (_ : Nat) < _; simp [go_sem]; omega) | (show (_ : Nat) ≤ _; simp [go_sem]; done) | (show _ = _; simp [go_sem]; done) | (show _ ∧ _ ; simp [go_sem]; done))
      all_goals clear hk k
      refine AW.retF (ow := [1000]) (muts := []) ?_ (fun h => And.intro (.inr rfl) h)
      have he := fill_end (f := TProc.oc) (z := [.nils]) (show l.length ≤ i by omega); simp [go_sem, Try.results121, he])

end Go.AM
