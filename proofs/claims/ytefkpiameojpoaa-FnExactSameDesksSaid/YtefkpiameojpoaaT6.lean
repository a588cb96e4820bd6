/- Walks. -/
import Derived.Test.YtefkpiameojpoaaT5
import Derived.Test.YtefkpiameojpoaaT1
namespace Go.AM
open Go.Proofs

set_option maxHeartbeats 600000 in
set_option linter.unusedSimpArgs false in
set_option maxRecDepth 100000 in
/-- laws.szInst -/
theorem dc_laws_szInst (x : TInst) (z : Int) (hz : 0 ≤ z ∧ z ≤ 1048576) (hg : x.gok) : DC Try.prog 141 [.agg x.ro, .int .i64 z] (.int .i64 (subz z x.sz)) [] := by
  have hg' := hg
  unfold TInst.gok at hg'
  have h1 := hg'
  refine DC.intro tiOk Try.func141 rfl rfl rfl rfl rfl rfl rfl rfl [] ?_
  refine AW.reg tiOk (fun _ => []) [1, 2] ?_
  intro k hk; simp -dsimp (maxSteps := 2000000) [go_sem, -decide_eq_true_eq, -decide_eq_false_iff_not]
  repeat' (first | refine And.intro ?_ ?_ | refine hk _ ?_ | (intro hg; try simp only [decide_eq_true_eq, decide_eq_false_iff_not] at hg) | omega | exact True.intro)
  all_goals clear hk k
  refine AW.reg tiOk (fun _ => []) [1] ?_
  intro k hk; simp -dsimp (maxSteps := 2000000) [go_sem, -decide_eq_true_eq, -decide_eq_false_iff_not]
  repeat' (first | refine And.intro ?_ ?_ | refine hk _ ?_ | (intro hg; try simp only [decide_eq_true_eq, decide_eq_false_iff_not] at hg) | (refine CallK.intro (dc_laws_szChart _ _ (by constructor <;> first | omega | grind [subz]) (by first | assumption | (constructor <;> assumption))) ?_; simp -dsimp (maxSteps := 2000000) [go_sem, -decide_eq_true_eq, -decide_eq_false_iff_not]) | omega | exact True.intro)
  all_goals clear hk k
  refine AW.seq ?_
  refine AW.reg tiOk (fun _ => []) [1, 10] ?_
  intro k hk; simp -dsimp (maxSteps := 2000000) [go_sem, -decide_eq_true_eq, -decide_eq_false_iff_not]
  repeat' (first | refine And.intro ?_ ?_ | refine hk _ ?_ | (intro hg; try simp only [decide_eq_true_eq, decide_eq_false_iff_not] at hg) | omega | exact True.intro)
  all_goals clear hk k
  refine AW.cond rfl ?_ ?_
  · intro hc; try simp [subz_neg, subz_nn] at hc
    all_goals (
      refine AW.reg tiOk (fun _ => []) [4] ?_
      intro k hk; simp -dsimp (maxSteps := 2000000) [go_sem, -decide_eq_true_eq, -decide_eq_false_iff_not]
      repeat' (first | refine And.intro ?_ ?_ | refine hk _ ?_ | (intro hg; try simp only [decide_eq_true_eq, decide_eq_false_iff_not] at hg) | omega | exact True.intro)
      all_goals clear hk k
      refine AW.retF (ow := []) (muts := []) ?_ (fun h => And.intro (.inr rfl) h)
      simp [go_sem, Try.results141]; simp only [subz, TInst.sz] at * <;> grind)
  · intro hc; try simp [subz_neg, subz_nn] at hc
    all_goals (
      refine AW.skipN (fun _ h => h) ?_
      refine AW.reg tiOk (fun _ => []) [4] ?_
      intro k hk; simp -dsimp (maxSteps := 2000000) [go_sem, -decide_eq_true_eq, -decide_eq_false_iff_not]
      repeat' (first | refine And.intro ?_ ?_ | refine hk _ ?_ | (intro hg; try simp only [decide_eq_true_eq, decide_eq_false_iff_not] at hg) | omega | exact True.intro)
      all_goals clear hk k
      refine AW.retF (ow := []) (muts := []) ?_ (fun h => And.intro (.inr rfl) h)
      simp [go_sem, Try.results141]; simp only [subz, TInst.sz] at * <;> grind)

set_option maxHeartbeats 600000 in
set_option linter.unusedSimpArgs false in
set_option maxRecDepth 100000 in
/-- laws.szInstS -/
theorem dc_laws_szInstS (l : List TInst) (z : Int) (hz : 0 ≤ z ∧ z ≤ 1048576) (hl : l.length ≤ 9223372036854775807 ∧ ∀ e ∈ l, e.gok) : DC Try.prog 119 [.isl 6 (l.map TInst.ro), .int .i64 z] (.int .i64 (subz z (l.length + (l.map TInst.sz).sum))) [] := by
  obtain ⟨hl, hg⟩ := hl
  have hw : IntKind.wrap .i64 (z - (l.length : Int)) = z - (l.length : Int) := wrap64 (by omega) (by omega)
  refine DC.intro tiOk Try.func119 rfl rfl rfl rfl rfl rfl rfl rfl [] ?_
  refine AW.reg tiOk (fun _ => []) [0, 1] ?_
  intro k hk; simp -dsimp (maxSteps := 2000000) [go_sem, -decide_eq_true_eq, -decide_eq_false_iff_not, hw]
  repeat' (first | refine And.intro ?_ ?_ | refine hk _ ?_ | (intro hg; try simp only [decide_eq_true_eq, decide_eq_false_iff_not] at hg) | omega | exact True.intro)
  all_goals clear hk k
  refine AW.reg tiOk (fun _ => []) [0, 1] ?_
  intro k hk; simp -dsimp (maxSteps := 2000000) [go_sem, -decide_eq_true_eq, -decide_eq_false_iff_not, hw]
  repeat' (first | refine And.intro ?_ ?_ | refine hk _ ?_ | (intro hg; try simp only [decide_eq_true_eq, decide_eq_false_iff_not] at hg) | omega | exact True.intro)
  all_goals clear hk k
  refine AW.seq ?_
  refine AW.reg tiOk (fun _ => []) [0, 1, 11] ?_
  intro k hk; simp -dsimp (maxSteps := 2000000) [go_sem, -decide_eq_true_eq, -decide_eq_false_iff_not, hw]
  repeat' (first | refine And.intro ?_ ?_ | refine hk _ ?_ | (intro hg; try simp only [decide_eq_true_eq, decide_eq_false_iff_not] at hg) | omega | exact True.intro)
  all_goals clear hk k
  refine AW.cond rfl ?_ ?_
  · intro hc; try simp [subz_neg, subz_nn] at hc
    all_goals (
      refine AW.reg tiOk (fun _ => []) [4] ?_
      intro k hk; simp -dsimp (maxSteps := 2000000) [go_sem, -decide_eq_true_eq, -decide_eq_false_iff_not, hw]
      repeat' (first | refine And.intro ?_ ?_ | refine hk _ ?_ | (intro hg; try simp only [decide_eq_true_eq, decide_eq_false_iff_not] at hg) | omega | exact True.intro)
      all_goals clear hk k
      refine AW.retF (ow := []) (muts := []) ?_ (fun h => And.intro (.inr rfl) h)
      have hle := fun i => sum_le (f := TInst.sz) (l := l) (i := i); first | (rw [subz_no (by have := hle (i + 1); simp at *; omega)]; simp [go_sem, Try.results119]; done) | (rw [subz_no (by simp at *; omega)]; simp [go_sem, Try.results119]; done) | (rw [List.take_of_length_le (show (l.map TInst.sz).length ≤ i by simp; omega)] at *; rw [subz_ok (by simp at *; omega)]; simp [go_sem, Try.results119]; omega))
  · intro hc; try simp [subz_neg, subz_nn] at hc
    all_goals (
      refine AW.skipN (fun _ h => h) ?_
      refine AW.seq ?_
      refine AW.reg tiOk (fun _ => []) [0, 1, 5] ?_
      intro k hk; simp -dsimp (maxSteps := 2000000) [go_sem, -decide_eq_true_eq, -decide_eq_false_iff_not, hw]
      repeat' (first | refine And.intro ?_ ?_ | refine hk _ ?_ | (intro hg; try simp only [decide_eq_true_eq, decide_eq_false_iff_not] at hg) | omega | exact True.intro)
      all_goals clear hk k
      refine AW.block ?_
      -- live at the loop's head: [0, 1, 5]
      refine AW.loopI (fun i : Nat => ⟨27, [(0, .isl 6 (l.map TInst.ro)), (1, .int .i64 (z - (l.length : Int) - (((l.map TInst.sz).take i).sum : Int))), (5, .int .i64 i)], []⟩) (fun i => i ≤ l.length ∧ (l.length : Int) + (((l.map TInst.sz).take i).sum : Nat) ≤ z) (fun i => l.length - i) (0) (by refine ⟨Nat.zero_le _, ?_⟩; simp; omega) (Less.of rfl (by simp [go_sem]) (by simp [go_sem])) ?_
      rintro i ⟨hi, hinv⟩
      refine AW.seq ?_
      refine AW.reg tiOk (fun _ => []) [0, 1, 5, 15] ?_
      intro k hk; simp -dsimp (maxSteps := 2000000) [go_sem, -decide_eq_true_eq, -decide_eq_false_iff_not, hw]
      repeat' (first | refine And.intro ?_ ?_ | refine hk _ ?_ | (intro hg; try simp only [decide_eq_true_eq, decide_eq_false_iff_not] at hg) | omega | exact True.intro)
      all_goals clear hk k
      refine AW.cond rfl ?_ ?_
      · intro hc; try simp [subz_neg, subz_nn] at hc
        all_goals (
          have hlt : i < l.length := by assumption
          obtain ⟨x, hx⟩ := at_some hlt
          have hst := sum_take (f := TInst.sz) hx
          refine AW.skipN (fun _ h => h) ?_
          refine AW.seq ?_
          refine AW.block ?_
          refine AW.reg tiOk (fun _ => []) [0, 1, 5] ?_
          intro k hk; simp -dsimp (maxSteps := 2000000) [go_sem, -decide_eq_true_eq, -decide_eq_false_iff_not, hw, hx]
          repeat' (first | refine And.intro ?_ ?_ | refine hk _ ?_ | (intro hg; try simp only [decide_eq_true_eq, decide_eq_false_iff_not] at hg) | (refine CallK.intro (dc_laws_szInst x _ (by omega) (hg x (List.mem_of_getElem? hx))) ?_; simp -dsimp (maxSteps := 2000000) [go_sem, -decide_eq_true_eq, -decide_eq_false_iff_not, hw, hx]) | omega | exact True.intro)
          all_goals clear hk k
          refine AW.reg tiOk (fun _ => []) [0, 1, 5, 25] ?_
          intro k hk; simp -dsimp (maxSteps := 2000000) [go_sem, -decide_eq_true_eq, -decide_eq_false_iff_not, hw, hx]
          repeat' (first | refine And.intro ?_ ?_ | refine hk _ ?_ | (intro hg; try simp only [decide_eq_true_eq, decide_eq_false_iff_not] at hg) | omega | exact True.intro)
          all_goals clear hk k
          refine AW.cond rfl ?_ ?_
          · intro hc; try simp [subz_neg, subz_nn] at hc
            all_goals (
              refine AW.reg tiOk (fun _ => []) [4] ?_
              intro k hk; simp -dsimp (maxSteps := 2000000) [go_sem, -decide_eq_true_eq, -decide_eq_false_iff_not, hw, hx]
              repeat' (first | refine And.intro ?_ ?_ | refine hk _ ?_ | (intro hg; try simp only [decide_eq_true_eq, decide_eq_false_iff_not] at hg) | omega | exact True.intro)
              all_goals clear hk k
              refine AW.retF (ow := []) (muts := []) ?_ (fun h => And.intro (.inr rfl) h)
              have hle := fun i => sum_le (f := TInst.sz) (l := l) (i := i); first | (rw [subz_no (by have := hle (i + 1); simp at *; omega)]; simp [go_sem, Try.results119]; done) | (rw [subz_no (by simp at *; omega)]; simp [go_sem, Try.results119]; done) | (rw [List.take_of_length_le (show (l.map TInst.sz).length ≤ i by simp; omega)] at *; rw [subz_ok (by simp at *; omega)]; simp [go_sem, Try.results119]; omega))
          · intro hc; try simp [subz_neg, subz_nn] at hc
            all_goals (
              refine AW.skipN (fun _ h => h) ?_
              refine AW.regK tiOk (fun _ => []) ?_
              intro k hk; simp -dsimp (maxSteps := 2000000) [go_sem, -decide_eq_true_eq, -decide_eq_false_iff_not, hw, hx]
              repeat' (first | refine And.intro ?_ ?_ | refine hk _ ?_ | (intro hg; try simp only [decide_eq_true_eq, decide_eq_false_iff_not] at hg) | omega | exact True.intro)
              all_goals clear hk k
              show ∃ _, _
              have hw2 := wrapi hlt hl
              have hb : (TInst.sz x : Int) ≤ z - (l.length : Int) - (((l.map TInst.sz).take i).sum : Int) := by first | exact subz_nn.1 (by assumption) | omega
              refine ⟨i + 1, ⟨by omega, by omega⟩, by omega, Less.of rfl (by simp [go_sem, hw2, subz_ok hb, hst]; omega) (by simp [go_sem])⟩))
      · intro hc; try simp [subz_neg, subz_nn] at hc
        all_goals (
          refine AW.exitN (fun _ h => h) ?_
          refine AW.reg tiOk (fun _ => []) [4] ?_
          intro k hk; simp -dsimp (maxSteps := 2000000) [go_sem, -decide_eq_true_eq, -decide_eq_false_iff_not, hw]
          repeat' (first | refine And.intro ?_ ?_ | refine hk _ ?_ | (intro hg; try simp only [decide_eq_true_eq, decide_eq_false_iff_not] at hg) | omega | exact True.intro)
          all_goals clear hk k
          refine AW.retF (ow := []) (muts := []) ?_ (fun h => And.intro (.inr rfl) h)
          have hle := fun i => sum_le (f := TInst.sz) (l := l) (i := i); first | (rw [subz_no (by have := hle (i + 1); simp at *; omega)]; simp [go_sem, Try.results119]; done) | (rw [subz_no (by simp at *; omega)]; simp [go_sem, Try.results119]; done) | (rw [List.take_of_length_le (show (l.map TInst.sz).length ≤ i by simp; omega)] at *; rw [subz_ok (by simp at *; omega)]; simp [go_sem, Try.results119]; omega)))

set_option maxHeartbeats 600000 in
set_option linter.unusedSimpArgs false in
set_option maxRecDepth 100000 in
/-- laws.eqInst -/
theorem dc_laws_eqInst (a b : TInst) (hg : a.gok) : DC Try.prog 149 [.agg a.ro, .agg b.ro] (.bool (decide (a = b))) [] := by
  have h0 := hg
  unfold TInst.gok at h0
  refine DC.intro tiOk Try.func149 rfl rfl rfl rfl rfl rfl rfl rfl [] ?_
  refine AW.reg tiOk (fun _ => []) [2, 3] ?_
  intro k hk; simp -dsimp (maxSteps := 2000000) [go_sem, -decide_eq_true_eq, -decide_eq_false_iff_not]
  repeat' (first | refine And.intro ?_ ?_ | refine hk _ ?_ | (intro hg; try simp only [decide_eq_true_eq, decide_eq_false_iff_not] at hg) | omega | exact True.intro)
  all_goals clear hk k
  refine AW.seq ?_
  refine AW.reg tiOk (fun _ => []) [2, 3, 9] ?_
  intro k hk; simp -dsimp (maxSteps := 2000000) [go_sem, -decide_eq_true_eq, -decide_eq_false_iff_not]
  repeat' (first | refine And.intro ?_ ?_ | refine hk _ ?_ | (intro hg; try simp only [decide_eq_true_eq, decide_eq_false_iff_not] at hg) | omega | exact True.intro)
  all_goals clear hk k
  refine AW.cond rfl ?_ ?_
  · intro hc; try simp at hc
    all_goals (
      refine AW.reg tiOk (fun _ => []) [4] ?_
      intro k hk; simp -dsimp (maxSteps := 2000000) [go_sem, -decide_eq_true_eq, -decide_eq_false_iff_not]
      repeat' (first | refine And.intro ?_ ?_ | refine hk _ ?_ | (intro hg; try simp only [decide_eq_true_eq, decide_eq_false_iff_not] at hg) | omega | exact True.intro)
      all_goals clear hk k
      refine AW.retF (ow := []) (muts := []) ?_ (fun h => And.intro (.inr rfl) h)
      cases a; cases b; simp [go_sem, Try.results149] at *; simp [*])
  · intro hc; try simp at hc
    all_goals (
      refine AW.skipN (fun _ h => h) ?_
      refine AW.seq ?_
      refine AW.reg tiOk (fun _ => []) [15] ?_
      intro k hk; simp -dsimp (maxSteps := 2000000) [go_sem, -decide_eq_true_eq, -decide_eq_false_iff_not]
      repeat' (first | refine And.intro ?_ ?_ | refine hk _ ?_ | (intro hg; try simp only [decide_eq_true_eq, decide_eq_false_iff_not] at hg) | (refine CallK.intro (dc_laws_eqChart _ _ (by assumption)) ?_; simp -dsimp (maxSteps := 2000000) [go_sem, -decide_eq_true_eq, -decide_eq_false_iff_not]) | omega | exact True.intro)
      all_goals clear hk k
      refine AW.cond rfl ?_ ?_
      · intro hc; try simp at hc
        all_goals (
          refine AW.reg tiOk (fun _ => []) [4] ?_
          intro k hk; simp -dsimp (maxSteps := 2000000) [go_sem, -decide_eq_true_eq, -decide_eq_false_iff_not]
          repeat' (first | refine And.intro ?_ ?_ | refine hk _ ?_ | (intro hg; try simp only [decide_eq_true_eq, decide_eq_false_iff_not] at hg) | omega | exact True.intro)
          all_goals clear hk k
          refine AW.retF (ow := []) (muts := []) ?_ (fun h => And.intro (.inr rfl) h)
          cases a; cases b; simp [go_sem, Try.results149] at *; simp [*])
      · intro hc; try simp at hc
        all_goals (
          refine AW.skipN (fun _ h => h) ?_
          refine AW.reg tiOk (fun _ => []) [4] ?_
          intro k hk; simp -dsimp (maxSteps := 2000000) [go_sem, -decide_eq_true_eq, -decide_eq_false_iff_not]
          repeat' (first | refine And.intro ?_ ?_ | refine hk _ ?_ | (intro hg; try simp only [decide_eq_true_eq, decide_eq_false_iff_not] at hg) | omega | exact True.intro)
          all_goals clear hk k
          refine AW.retF (ow := []) (muts := []) ?_ (fun h => And.intro (.inr rfl) h)
          cases a; cases b; simp [go_sem, Try.results149] at *; simp [*]))

set_option maxHeartbeats 600000 in
set_option linter.unusedSimpArgs false in
set_option maxRecDepth 100000 in
/-- laws.eqInstS -/
theorem dc_laws_eqInstS (a b : List TInst) (ha : a.length ≤ 9223372036854775807 ∧ ∀ e ∈ a, e.gok) : DC Try.prog 129 [.isl 6 (a.map TInst.ro), .isl 6 (b.map TInst.ro)] (.bool (decide (a = b))) [] := by
  obtain ⟨ha, hg⟩ := ha
  refine DC.intro tiOk Try.func129 rfl rfl rfl rfl rfl rfl rfl rfl [] ?_
  refine AW.reg tiOk (fun _ => []) [0, 1] ?_
  intro k hk; simp -dsimp (maxSteps := 2000000) [go_sem, -decide_eq_true_eq, -decide_eq_false_iff_not]
  repeat' (first | refine And.intro ?_ ?_ | refine hk _ ?_ | (intro hg; try simp only [decide_eq_true_eq, decide_eq_false_iff_not] at hg) | omega | exact True.intro)
  all_goals clear hk k
  refine AW.seq ?_
  refine AW.reg tiOk (fun _ => []) [0, 1, 10] ?_
  intro k hk; simp -dsimp (maxSteps := 2000000) [go_sem, -decide_eq_true_eq, -decide_eq_false_iff_not]
  repeat' (first | refine And.intro ?_ ?_ | refine hk _ ?_ | (intro hg; try simp only [decide_eq_true_eq, decide_eq_false_iff_not] at hg) | omega | exact True.intro)
  all_goals clear hk k
  refine AW.cond rfl ?_ ?_
  · intro hc; try simp at hc
    all_goals (
      refine AW.reg tiOk (fun _ => []) [4] ?_
      intro k hk; simp -dsimp (maxSteps := 2000000) [go_sem, -decide_eq_true_eq, -decide_eq_false_iff_not]
      repeat' (first | refine And.intro ?_ ?_ | refine hk _ ?_ | (intro hg; try simp only [decide_eq_true_eq, decide_eq_false_iff_not] at hg) | omega | exact True.intro)
      all_goals clear hk k
      refine AW.retF (ow := []) (muts := []) ?_ (fun h => And.intro (.inr rfl) h)
      first | (rw [eq_ne_at hx hy (by first | assumption | (intro e; subst e; omega))]; simp [go_sem, Try.results129]; done) | (rw [eq_end (by omega) hinv (by omega)]; simp [go_sem, Try.results129]; done) | (rw [eq_ne_len (by omega)]; simp [go_sem, Try.results129]))
  · intro hc; try simp at hc
    all_goals (
      refine AW.skipN (fun _ h => h) ?_
      refine AW.seq ?_
      refine AW.reg tiOk (fun _ => []) [0, 1, 5] ?_
      intro k hk; simp -dsimp (maxSteps := 2000000) [go_sem, -decide_eq_true_eq, -decide_eq_false_iff_not]
      repeat' (first | refine And.intro ?_ ?_ | refine hk _ ?_ | (intro hg; try simp only [decide_eq_true_eq, decide_eq_false_iff_not] at hg) | omega | exact True.intro)
      all_goals clear hk k
      refine AW.block ?_
      -- live at the loop's head: [0, 1, 5]
      refine AW.loopI (fun i : Nat => ⟨27, [(0, .isl 6 (a.map TInst.ro)), (1, .isl 6 (b.map TInst.ro)), (5, .int .i64 i)], []⟩) (fun i => i ≤ a.length ∧ a.take i = b.take i) (fun i => a.length - i) (0) (by simp) (Less.of rfl (by simp [go_sem]) (by simp [go_sem])) ?_
      rintro i ⟨hi, hinv⟩
      refine AW.seq ?_
      refine AW.reg tiOk (fun _ => []) [0, 1, 5, 14] ?_
      intro k hk; simp -dsimp (maxSteps := 2000000) [go_sem, -decide_eq_true_eq, -decide_eq_false_iff_not]
      repeat' (first | refine And.intro ?_ ?_ | refine hk _ ?_ | (intro hg; try simp only [decide_eq_true_eq, decide_eq_false_iff_not] at hg) | omega | exact True.intro)
      all_goals clear hk k
      refine AW.cond rfl ?_ ?_
      · intro hc; try simp at hc
        all_goals (
          have hlt : i < a.length := by assumption
          obtain ⟨x, hx⟩ := at_some hlt
          obtain ⟨y, hy⟩ := at_some (l := b) (show i < b.length by omega)
          have hla := at_lt hy
          refine AW.skipN (fun _ h => h) ?_
          refine AW.seq ?_
          refine AW.block ?_
          refine AW.reg tiOk (fun _ => []) [0, 1, 5, 26] ?_
          intro k hk; simp -dsimp (maxSteps := 2000000) [go_sem, -decide_eq_true_eq, -decide_eq_false_iff_not, hx, hy]
          repeat' (first | refine And.intro ?_ ?_ | (refine Chk.keys ?_; simp only [go_sem, List.map_cons, List.map_nil, List.flatMap_cons, List.flatMap_nil, List.flatMap_append, List.append_nil, List.nil_append, List.cons_append]; decide) | refine hk _ ?_ | (intro hg; try simp only [decide_eq_true_eq, decide_eq_false_iff_not] at hg) | (refine CallK.intro (dc_laws_eqInst x y (hg x (List.mem_of_getElem? hx))) ?_; simp -dsimp (maxSteps := 2000000) [go_sem, -decide_eq_true_eq, -decide_eq_false_iff_not, hx, hy]) | omega | exact True.intro)
          all_goals clear hk k
          refine AW.cond rfl ?_ ?_
          · intro hc; try simp at hc
            all_goals (
              refine AW.reg tiOk (fun _ => []) [4] ?_
              intro k hk; simp -dsimp (maxSteps := 2000000) [go_sem, -decide_eq_true_eq, -decide_eq_false_iff_not, hx, hy]
              repeat' (first | refine And.intro ?_ ?_ | refine hk _ ?_ | (intro hg; try simp only [decide_eq_true_eq, decide_eq_false_iff_not] at hg) | omega | exact True.intro)
              all_goals clear hk k
              refine AW.retF (ow := []) (muts := []) ?_ (fun h => And.intro (.inr rfl) h)
              first | (rw [eq_ne_at hx hy (by first | assumption | (intro e; subst e; omega))]; simp [go_sem, Try.results129]; done) | (rw [eq_end (by omega) hinv (by omega)]; simp [go_sem, Try.results129]; done) | (rw [eq_ne_len (by omega)]; simp [go_sem, Try.results129]))
          · intro hc; try simp at hc
            all_goals (
              refine AW.skipN (fun _ h => h) ?_
              refine AW.regK tiOk (fun _ => []) ?_
              intro k hk; simp -dsimp (maxSteps := 2000000) [go_sem, -decide_eq_true_eq, -decide_eq_false_iff_not, hx, hy]
              repeat' (first | refine And.intro ?_ ?_ | refine hk _ ?_ | (intro hg; try simp only [decide_eq_true_eq, decide_eq_false_iff_not] at hg) | omega | exact True.intro)
              all_goals clear hk k
              show ∃ _, _
              have hw := wrapi hlt (by omega)
              refine ⟨i + 1, ⟨by omega, take_step hx hy (by first | assumption | (apply UInt8.toNat_inj.1; omega)) hinv⟩, by omega, Less.of rfl (by simp [go_sem, hw]) (by simp [go_sem])⟩))
      · intro hc; try simp at hc
        all_goals (
          refine AW.exitN (fun _ h => h) ?_
          refine AW.reg tiOk (fun _ => []) [4] ?_
          intro k hk; simp -dsimp (maxSteps := 2000000) [go_sem, -decide_eq_true_eq, -decide_eq_false_iff_not]
          repeat' (first | refine And.intro ?_ ?_ | refine hk _ ?_ | (intro hg; try simp only [decide_eq_true_eq, decide_eq_false_iff_not] at hg) | omega | exact True.intro)
          all_goals clear hk k
          refine AW.retF (ow := []) (muts := []) ?_ (fun h => And.intro (.inr rfl) h)
          first | (rw [eq_ne_at hx hy (by first | assumption | (intro e; subst e; omega))]; simp [go_sem, Try.results129]; done) | (rw [eq_end (by omega) hinv (by omega)]; simp [go_sem, Try.results129]; done) | (rw [eq_ne_len (by omega)]; simp [go_sem, Try.results129])))

set_option maxHeartbeats 600000 in
set_option linter.unusedSimpArgs false in
set_option maxRecDepth 100000 in
/-- laws.toInst -/
theorem dc_laws_toInst (x : TInst) (hs : x.sz ≤ 1048576) : DC Try.prog 144 [.agg x.ro] (.agg [.int .i64 x.proc, .int .i64 x.chart.status, .int .i64 x.chart.now, .osl 1 (x.chart.vars.map I1), .osl 1 (x.chart.acts.map I1), .osl 1 (x.chart.dues.map I1)]) [] := by
  unfold TInst.sz at hs
  have h1 : x.chart.sz ≤ 1048576 := by omega
  refine DC.intro tiOk Try.func144 rfl rfl rfl rfl rfl rfl rfl rfl [1000] ?_
  refine AW.reg tiOk (fun _ => []) [1, 2] ?_
  intro k hk; simp -dsimp (maxSteps := 2000000) [go_sem, -decide_eq_true_eq, -decide_eq_false_iff_not]
  repeat' (first | refine And.intro ?_ ?_ | refine hk _ ?_ | (intro hg; try simp only [decide_eq_true_eq, decide_eq_false_iff_not] at hg) | omega | exact True.intro)
  all_goals clear hk k
  refine AW.reg tiOk (fun _ => []) [1, 2, 3] ?_
  intro k hk; simp -dsimp (maxSteps := 2000000) [go_sem, -decide_eq_true_eq, -decide_eq_false_iff_not]
  repeat' (first | refine And.intro ?_ ?_ | refine hk _ ?_ | (intro hg; try simp only [decide_eq_true_eq, decide_eq_false_iff_not] at hg) | omega | exact True.intro)
  all_goals clear hk k
  refine AW.reg tiOk (fun _ => []) [1, 2, 3] ?_
  intro k hk; simp -dsimp (maxSteps := 2000000) [go_sem, -decide_eq_true_eq, -decide_eq_false_iff_not]
  repeat' (first | refine And.intro ?_ ?_ | refine hk _ ?_ | (intro hg; try simp only [decide_eq_true_eq, decide_eq_false_iff_not] at hg) | omega | exact True.intro)
  all_goals clear hk k
  refine AW.reg tiOk (fun _ => []) [2, 3] ?_
  intro k hk; simp -dsimp (maxSteps := 2000000) [go_sem, -decide_eq_true_eq, -decide_eq_false_iff_not]
  repeat' (first | refine And.intro ?_ ?_ | refine hk _ ?_ | (intro hg; try simp only [decide_eq_true_eq, decide_eq_false_iff_not] at hg) | (refine CallK.intro (dc_laws_toChart _ (by assumption)) ?_; simp -dsimp (maxSteps := 2000000) [go_sem, -decide_eq_true_eq, -decide_eq_false_iff_not]) | omega | exact True.intro)
  all_goals clear hk k
  refine AW.reg tiOk (fun _ => []) [2] ?_
  intro k hk; simp -dsimp (maxSteps := 2000000) [go_sem, -decide_eq_true_eq, -decide_eq_false_iff_not]
  repeat' (first | refine And.intro ?_ ?_ | refine hk _ ?_ | (intro hg; try simp only [decide_eq_true_eq, decide_eq_false_iff_not] at hg) | omega | exact True.intro)
  all_goals clear hk k
  refine AW.retF (ow := [1000]) (muts := []) ?_ (fun h => And.intro (.inr rfl) h)
  simp [go_sem, Try.results144]

set_option maxHeartbeats 600000 in
set_option linter.unusedSimpArgs false in
set_option maxRecDepth 100000 in
/-- laws.toInstS -/
theorem dc_laws_toInstS (l : List TInst) (hl : l.length ≤ 1048576 ∧ ∀ e ∈ l, e.sz ≤ 1048576) : DC Try.prog 122 [.isl 6 (l.map TInst.ro)] (.osl 6 (l.map TInst.oc)) [] := by
  obtain ⟨hl, hg⟩ := hl
  have idz : ∀ i, (fill TInst.oc [.int .i64 0, .int .i64 0, .int .i64 0, .nils, .nils, .nils] l i).flatMap idsL = [] := fun i => fill_ids (by intro x; simp [go_sem]) (by simp [go_sem])
  refine DC.intro tiOk Try.func122 rfl rfl rfl rfl rfl rfl rfl rfl [1000] ?_
  refine AW.reg tiOk (fun _ => []) [0] ?_
  intro k hk; simp -dsimp (maxSteps := 2000000) [go_sem, -decide_eq_true_eq, -decide_eq_false_iff_not]
  repeat' (first | refine And.intro ?_ ?_ | refine hk _ ?_ | (intro hg; try simp only [decide_eq_true_eq, decide_eq_false_iff_not] at hg) | omega | exact True.intro | (show (_ : Nat) < _; simp [go_sem]; omega) | (show (_ : Nat) ≤ _; simp [go_sem]; done) | (show _ = _; simp [go_sem]; done) | (show _ ∧ _ ; simp [go_sem]; done))
  all_goals clear hk k
  refine AW.reg tiOk (fun _ => []) [0, 3] ?_
  intro k hk; simp -dsimp (maxSteps := 2000000) [go_sem, -decide_eq_true_eq, -decide_eq_false_iff_not]
  repeat' (first | refine And.intro ?_ ?_ | refine hk _ ?_ | (intro hg; try simp only [decide_eq_true_eq, decide_eq_false_iff_not] at hg) | omega | exact True.intro | (show (_ : Nat) < _; simp [go_sem]; omega) | (show (_ : Nat) ≤ _; simp [go_sem]; done) | (show _ = _; simp [go_sem]; done) | (show _ ∧ _ ; simp [go_sem]; done))
  all_goals clear hk k
  refine AW.seq ?_
  refine AW.reg tiOk (fun _ => []) [0, 3, 4] ?_
  intro k hk; simp -dsimp (maxSteps := 2000000) [go_sem, -decide_eq_true_eq, -decide_eq_false_iff_not]
  repeat' (first | refine And.intro ?_ ?_ | refine hk _ ?_ | (intro hg; try simp only [decide_eq_true_eq, decide_eq_false_iff_not] at hg) | omega | exact True.intro | (show (_ : Nat) < _; simp [go_sem]; omega) | (show (_ : Nat) ≤ _; simp [go_sem]; done) | (show _ = _; simp [go_sem]; done) | (show _ ∧ _ ; simp [go_sem]; done))
  all_goals clear hk k
  refine AW.block ?_
  -- live at the loop's head: [0, 3, 4]
  refine AW.loopI (fun i : Nat => ⟨23, [(0, .isl 6 (l.map TInst.ro)), (3, .sl 7 6 0 l.length), (4, .int .i64 i)], [(7, some ⟨6, fill TInst.oc [.int .i64 0, .int .i64 0, .int .i64 0, .nils, .nils, .nils] l i⟩)]⟩) (fun i => i ≤ l.length) (fun i => l.length - i) (0) (by simp) (Less.of rfl (by simp [go_sem]) (by simp [go_sem, fill_zero])) ?_
  rintro i hi
  refine AW.seq ?_
  refine AW.reg tiOk (fun _ => []) [0, 3, 4, 11] ?_
  intro k hk; simp -dsimp (maxSteps := 2000000) [go_sem, -decide_eq_true_eq, -decide_eq_false_iff_not]
  repeat' (first | refine And.intro ?_ ?_ | refine hk _ ?_ | (intro hg; try simp only [decide_eq_true_eq, decide_eq_false_iff_not] at hg) | omega | exact True.intro | (show (_ : Nat) < _; simp [go_sem]; omega) | (show (_ : Nat) ≤ _; simp [go_sem]; done) | (show _ = _; simp [go_sem]; done) | (show _ ∧ _ ; simp [go_sem]; done))
  all_goals clear hk k
  refine AW.cond rfl ?_ ?_
  · intro hc; try simp at hc
    all_goals (
      have hlt : i < l.length := by assumption
      obtain ⟨x, hx⟩ := at_some hlt
      have hf := fill_len (f := TInst.oc) (z := [.int .i64 0, .int .i64 0, .int .i64 0, .nils, .nils, .nils]) hi
      have hf2 := fill_at (f := TInst.oc) (z := [.int .i64 0, .int .i64 0, .int .i64 0, .nils, .nils, .nils]) hlt
      refine AW.skipN (fun _ h => h) ?_
      refine AW.seq ?_
      refine AW.block ?_
      refine AW.regN0 tiOk (fun _ => []) [0, 3, 4] (fun _ h => h) ?_
      intro k hk; simp -dsimp (maxSteps := 2000000) [go_sem, -decide_eq_true_eq, -decide_eq_false_iff_not, hx, hf, hf2, idz]
      repeat' (first | refine And.intro ?_ ?_ | refine hk _ ?_ | (intro hg; try simp only [decide_eq_true_eq, decide_eq_false_iff_not] at hg) | (refine CallK.intro (dc_laws_toInst x (hg x (List.mem_of_getElem? hx))) ?_; simp -dsimp (maxSteps := 2000000) [go_sem, -decide_eq_true_eq, -decide_eq_false_iff_not, hx, hf, hf2, idz]) | omega | exact True.intro | (show (_ : Nat) < _; simp [go_sem, hx, hf, hf2, idz]; omega) | (show (_ : Nat) ≤ _; simp [go_sem, hx, hf, hf2, idz]; done) | (show _ = _; simp [go_sem, hx, hf, hf2, idz]; done) | (show _ ∧ _ ; simp [go_sem, hx, hf, hf2, idz]; done))
      all_goals clear hk k
      refine AW.fold (nd := ?nd_1) (c := ?c_1) (l := ?l_1) (es := ?es_1) (n := ?n_1) 7 i 3 1020 ?h1_1 ?h2_1 ?h4_1 ?h3_1 ?hn_1 (by decide) ?h6_1 ?kk_1
      (case h1_1 => exact rfl)
      (case h2_1 => refine node_here ?_; (repeat rw [List.length_set]); omega)
      (case h4_1 => exact rfl)
      (case h3_1 => exact rfl)
      (case hn_1 => simp)
      (case h6_1 => simp [go_sem])
      refine AW.cellLe (nd := ?nd_2) (c := ?c_2) (x := ?x_2) 7 i 3 (owc 1 (x.chart.vars.map I1)) ?h1_2 ?h2_2 ?h3_2 ?h4_2 ?kk_2
      (case h1_2 => exact rfl)
      (case h2_2 => refine node_here ?_; (repeat rw [List.length_set]); omega)
      (case h3_2 => exact rfl)
      (case h4_2 => simp [go_sem])
      refine AW.fold (nd := ?nd_3) (c := ?c_3) (l := ?l_3) (es := ?es_3) (n := ?n_3) 7 i 4 2020 ?h1_3 ?h2_3 ?h4_3 ?h3_3 ?hn_3 (by decide) ?h6_3 ?kk_3
      (case h1_3 => exact rfl)
      (case h2_3 => refine node_here ?_; (repeat rw [List.length_set]); omega)
      (case h4_3 => exact rfl)
      (case h3_3 => exact rfl)
      (case hn_3 => simp)
      (case h6_3 => simp [go_sem])
      refine AW.cellLe (nd := ?nd_4) (c := ?c_4) (x := ?x_4) 7 i 4 (owc 1 (x.chart.acts.map I1)) ?h1_4 ?h2_4 ?h3_4 ?h4_4 ?kk_4
      (case h1_4 => exact rfl)
      (case h2_4 => refine node_here ?_; (repeat rw [List.length_set]); omega)
      (case h3_4 => exact rfl)
      (case h4_4 => simp [go_sem])
      refine AW.fold (nd := ?nd_5) (c := ?c_5) (l := ?l_5) (es := ?es_5) (n := ?n_5) 7 i 5 3020 ?h1_5 ?h2_5 ?h4_5 ?h3_5 ?hn_5 (by decide) ?h6_5 ?kk_5
      (case h1_5 => exact rfl)
      (case h2_5 => refine node_here ?_; (repeat rw [List.length_set]); omega)
      (case h4_5 => exact rfl)
      (case h3_5 => exact rfl)
      (case hn_5 => simp)
      (case h6_5 => simp [go_sem])
      refine AW.cellLe (nd := ?nd_6) (c := ?c_6) (x := ?x_6) 7 i 5 (owc 1 (x.chart.dues.map I1)) ?h1_6 ?h2_6 ?h3_6 ?h4_6 ?kk_6
      (case h1_6 => exact rfl)
      (case h2_6 => refine node_here ?_; (repeat rw [List.length_set]); omega)
      (case h3_6 => exact rfl)
      (case h4_6 => simp [go_sem])
      refine AW.tidy (st' := ?stt_7)  [0, 3, 4] ?e_7 ?kk_7
      (case e_7 => simp -dsimp [go_sem, List.set_set, hx, hf, hf2, idz]; exact rfl)
      refine AW.regK tiOk (fun _ => []) ?_
      intro k hk; simp -dsimp (maxSteps := 2000000) [go_sem, -decide_eq_true_eq, -decide_eq_false_iff_not, hx, hf, hf2, idz]
      repeat' (first | refine And.intro ?_ ?_ | refine hk _ ?_ | (intro hg; try simp only [decide_eq_true_eq, decide_eq_false_iff_not] at hg) | omega | exact True.intro | (show (_ : Nat) < _; simp [go_sem, hx, hf, hf2, idz]; omega) | (show (_ : Nat) ≤ _; simp [go_sem, hx, hf, hf2, idz]; done) | (show _ = _; simp [go_sem, hx, hf, hf2, idz]; done) | (show _ ∧ _ ; simp [go_sem, hx, hf, hf2, idz]; done))
      all_goals clear hk k
      show ∃ _, _
      have hw := wrapi hlt (by omega)
      have hs := fill_set (f := TInst.oc) (z := [.int .i64 0, .int .i64 0, .int .i64 0, .nils, .nils, .nils]) hx
      simp [go_sem] at hs
      refine ⟨i + 1, by omega, by omega, Less.of rfl (by simp [go_sem, hw]) (by simp [go_sem, List.set_set, ← hs])⟩)
  · intro hc; try simp at hc
    all_goals (
      refine AW.exitN (fun _ h => h) ?_
      refine AW.reg tiOk (fun _ => []) [2] ?_
      intro k hk; simp -dsimp (maxSteps := 2000000) [go_sem, -decide_eq_true_eq, -decide_eq_false_iff_not]
      repeat' (first | refine And.intro ?_ ?_ | refine hk _ ?_ | (intro hg; try simp only [decide_eq_true_eq, decide_eq_false_iff_not] at hg) | omega | exact True.intro | (show (_ : Nat) < _; simp [go_sem]; omega) | (show (_ : Nat) ≤ _; simp [go_sem]; done) | (show _ = _; simp [go_sem]; done) | (show _ ∧ _ ; simp [go_sem]; done))
      all_goals clear hk k
      refine AW.retF (ow := [1000]) (muts := []) ?_ (fun h => And.intro (.inr rfl) h)
      have he := fill_end (f := TInst.oc) (z := [.int .i64 0, .int .i64 0, .int .i64 0, .nils, .nils, .nils]) (show l.length ≤ i by omega); simp [go_sem, Try.results122, he])

set_option maxHeartbeats 600000 in
set_option linter.unusedSimpArgs false in
set_option maxRecDepth 100000 in
/-- laws.szEngine -/
theorem dc_laws_szEngine (x : TEngine) (z : Int) (hz : 0 ≤ z ∧ z ≤ 1048576) (hg : x.gok) : DC Try.prog 69 [.agg x.ro, .int .i64 z] (.int .i64 (subz z x.sz)) [] := by
  have hg' := hg
  unfold TEngine.gok at hg'
  obtain ⟨h0, h1⟩ := hg'
  refine DC.intro tiOk Try.func69 rfl rfl rfl rfl rfl rfl rfl rfl [] ?_
  refine AW.reg tiOk (fun _ => []) [1, 2] ?_
  intro k hk; simp -dsimp (maxSteps := 2000000) [go_sem, -decide_eq_true_eq, -decide_eq_false_iff_not]
  repeat' (first | refine And.intro ?_ ?_ | refine hk _ ?_ | (intro hg; try simp only [decide_eq_true_eq, decide_eq_false_iff_not] at hg) | omega | exact True.intro)
  all_goals clear hk k
  refine AW.reg tiOk (fun _ => []) [1, 2] ?_
  intro k hk; simp -dsimp (maxSteps := 2000000) [go_sem, -decide_eq_true_eq, -decide_eq_false_iff_not]
  repeat' (first | refine And.intro ?_ ?_ | refine hk _ ?_ | (intro hg; try simp only [decide_eq_true_eq, decide_eq_false_iff_not] at hg) | (refine CallK.intro (dc_laws_szProcS _ _ (by constructor <;> first | omega | grind [subz]) (by first | assumption | (constructor <;> assumption))) ?_; simp -dsimp (maxSteps := 2000000) [go_sem, -decide_eq_true_eq, -decide_eq_false_iff_not]) | omega | exact True.intro)
  all_goals clear hk k
  refine AW.seq ?_
  refine AW.reg tiOk (fun _ => []) [1, 2, 10] ?_
  intro k hk; simp -dsimp (maxSteps := 2000000) [go_sem, -decide_eq_true_eq, -decide_eq_false_iff_not]
  repeat' (first | refine And.intro ?_ ?_ | refine hk _ ?_ | (intro hg; try simp only [decide_eq_true_eq, decide_eq_false_iff_not] at hg) | omega | exact True.intro)
  all_goals clear hk k
  refine AW.cond rfl ?_ ?_
  · intro hc; try simp [subz_neg, subz_nn] at hc
    all_goals (
      refine AW.reg tiOk (fun _ => []) [4] ?_
      intro k hk; simp -dsimp (maxSteps := 2000000) [go_sem, -decide_eq_true_eq, -decide_eq_false_iff_not]
      repeat' (first | refine And.intro ?_ ?_ | refine hk _ ?_ | (intro hg; try simp only [decide_eq_true_eq, decide_eq_false_iff_not] at hg) | omega | exact True.intro)
      all_goals clear hk k
      refine AW.retF (ow := []) (muts := []) ?_ (fun h => And.intro (.inr rfl) h)
      simp [go_sem, Try.results69]; simp only [subz, TEngine.sz] at * <;> grind)
  · intro hc; try simp [subz_neg, subz_nn] at hc
    all_goals (
      refine AW.skipN (fun _ h => h) ?_
      refine AW.reg tiOk (fun _ => []) [1] ?_
      intro k hk; simp -dsimp (maxSteps := 2000000) [go_sem, -decide_eq_true_eq, -decide_eq_false_iff_not]
      repeat' (first | refine And.intro ?_ ?_ | refine hk _ ?_ | (intro hg; try simp only [decide_eq_true_eq, decide_eq_false_iff_not] at hg) | (refine CallK.intro (dc_laws_szInstS _ _ (by constructor <;> first | omega | grind [subz]) (by first | assumption | (constructor <;> assumption))) ?_; simp -dsimp (maxSteps := 2000000) [go_sem, -decide_eq_true_eq, -decide_eq_false_iff_not]) | omega | exact True.intro)
      all_goals clear hk k
      refine AW.seq ?_
      refine AW.reg tiOk (fun _ => []) [1, 16] ?_
      intro k hk; simp -dsimp (maxSteps := 2000000) [go_sem, -decide_eq_true_eq, -decide_eq_false_iff_not]
      repeat' (first | refine And.intro ?_ ?_ | refine hk _ ?_ | (intro hg; try simp only [decide_eq_true_eq, decide_eq_false_iff_not] at hg) | omega | exact True.intro)
      all_goals clear hk k
      refine AW.cond rfl ?_ ?_
      · intro hc; try simp [subz_neg, subz_nn] at hc
        all_goals (
          refine AW.reg tiOk (fun _ => []) [4] ?_
          intro k hk; simp -dsimp (maxSteps := 2000000) [go_sem, -decide_eq_true_eq, -decide_eq_false_iff_not]
          repeat' (first | refine And.intro ?_ ?_ | refine hk _ ?_ | (intro hg; try simp only [decide_eq_true_eq, decide_eq_false_iff_not] at hg) | omega | exact True.intro)
          all_goals clear hk k
          refine AW.retF (ow := []) (muts := []) ?_ (fun h => And.intro (.inr rfl) h)
          simp [go_sem, Try.results69]; simp only [subz, TEngine.sz] at * <;> grind)
      · intro hc; try simp [subz_neg, subz_nn] at hc
        all_goals (
          refine AW.skipN (fun _ h => h) ?_
          refine AW.reg tiOk (fun _ => []) [4] ?_
          intro k hk; simp -dsimp (maxSteps := 2000000) [go_sem, -decide_eq_true_eq, -decide_eq_false_iff_not]
          repeat' (first | refine And.intro ?_ ?_ | refine hk _ ?_ | (intro hg; try simp only [decide_eq_true_eq, decide_eq_false_iff_not] at hg) | omega | exact True.intro)
          all_goals clear hk k
          refine AW.retF (ow := []) (muts := []) ?_ (fun h => And.intro (.inr rfl) h)
          simp [go_sem, Try.results69]; simp only [subz, TEngine.sz] at * <;> grind))

set_option maxHeartbeats 600000 in
set_option linter.unusedSimpArgs false in
set_option maxRecDepth 100000 in
/-- laws.eqEngine -/
theorem dc_laws_eqEngine (a b : TEngine) (hg : a.gok) : DC Try.prog 73 [.agg a.ro, .agg b.ro] (.bool (decide (a = b))) [] := by
  obtain ⟨h0, h1⟩ := hg
  refine DC.intro tiOk Try.func73 rfl rfl rfl rfl rfl rfl rfl rfl [] ?_
  refine AW.reg tiOk (fun _ => []) [2, 3] ?_
  intro k hk; simp -dsimp (maxSteps := 2000000) [go_sem, -decide_eq_true_eq, -decide_eq_false_iff_not]
  repeat' (first | refine And.intro ?_ ?_ | refine hk _ ?_ | (intro hg; try simp only [decide_eq_true_eq, decide_eq_false_iff_not] at hg) | omega | exact True.intro)
  all_goals clear hk k
  refine AW.seq ?_
  refine AW.reg tiOk (fun _ => []) [2, 3, 10] ?_
  intro k hk; simp -dsimp (maxSteps := 2000000) [go_sem, -decide_eq_true_eq, -decide_eq_false_iff_not]
  repeat' (first | refine And.intro ?_ ?_ | refine hk _ ?_ | (intro hg; try simp only [decide_eq_true_eq, decide_eq_false_iff_not] at hg) | (refine CallK.intro (dc_laws_eqProcS _ _ (by assumption)) ?_; simp -dsimp (maxSteps := 2000000) [go_sem, -decide_eq_true_eq, -decide_eq_false_iff_not]) | omega | exact True.intro)
  all_goals clear hk k
  refine AW.cond rfl ?_ ?_
  · intro hc; try simp at hc
    all_goals (
      refine AW.reg tiOk (fun _ => []) [4] ?_
      intro k hk; simp -dsimp (maxSteps := 2000000) [go_sem, -decide_eq_true_eq, -decide_eq_false_iff_not]
      repeat' (first | refine And.intro ?_ ?_ | refine hk _ ?_ | (intro hg; try simp only [decide_eq_true_eq, decide_eq_false_iff_not] at hg) | omega | exact True.intro)
      all_goals clear hk k
      refine AW.retF (ow := []) (muts := []) ?_ (fun h => And.intro (.inr rfl) h)
      cases a; cases b; simp [go_sem, Try.results73] at *; simp [*])
  · intro hc; try simp at hc
    all_goals (
      refine AW.skipN (fun _ h => h) ?_
      refine AW.seq ?_
      refine AW.reg tiOk (fun _ => []) [2, 3, 16] ?_
      intro k hk; simp -dsimp (maxSteps := 2000000) [go_sem, -decide_eq_true_eq, -decide_eq_false_iff_not]
      repeat' (first | refine And.intro ?_ ?_ | refine hk _ ?_ | (intro hg; try simp only [decide_eq_true_eq, decide_eq_false_iff_not] at hg) | (refine CallK.intro (dc_laws_eqInstS _ _ (by assumption)) ?_; simp -dsimp (maxSteps := 2000000) [go_sem, -decide_eq_true_eq, -decide_eq_false_iff_not]) | omega | exact True.intro)
      all_goals clear hk k
      refine AW.cond rfl ?_ ?_
      · intro hc; try simp at hc
        all_goals (
          refine AW.reg tiOk (fun _ => []) [4] ?_
          intro k hk; simp -dsimp (maxSteps := 2000000) [go_sem, -decide_eq_true_eq, -decide_eq_false_iff_not]
          repeat' (first | refine And.intro ?_ ?_ | refine hk _ ?_ | (intro hg; try simp only [decide_eq_true_eq, decide_eq_false_iff_not] at hg) | omega | exact True.intro)
          all_goals clear hk k
          refine AW.retF (ow := []) (muts := []) ?_ (fun h => And.intro (.inr rfl) h)
          cases a; cases b; simp [go_sem, Try.results73] at *; simp [*])
      · intro hc; try simp at hc
        all_goals (
          refine AW.skipN (fun _ h => h) ?_
          refine AW.seq ?_
          refine AW.reg tiOk (fun _ => []) [21] ?_
          intro k hk; simp -dsimp (maxSteps := 2000000) [go_sem, -decide_eq_true_eq, -decide_eq_false_iff_not]
          repeat' (first | refine And.intro ?_ ?_ | refine hk _ ?_ | (intro hg; try simp only [decide_eq_true_eq, decide_eq_false_iff_not] at hg) | omega | exact True.intro)
          all_goals clear hk k
          refine AW.cond rfl ?_ ?_
          · intro hc; try simp at hc
            all_goals (
              refine AW.reg tiOk (fun _ => []) [4] ?_
              intro k hk; simp -dsimp (maxSteps := 2000000) [go_sem, -decide_eq_true_eq, -decide_eq_false_iff_not]
              repeat' (first | refine And.intro ?_ ?_ | refine hk _ ?_ | (intro hg; try simp only [decide_eq_true_eq, decide_eq_false_iff_not] at hg) | omega | exact True.intro)
              all_goals clear hk k
              refine AW.retF (ow := []) (muts := []) ?_ (fun h => And.intro (.inr rfl) h)
              cases a; cases b; simp [go_sem, Try.results73] at *; simp [*])
          · intro hc; try simp at hc
            all_goals (
              refine AW.skipN (fun _ h => h) ?_
              refine AW.reg tiOk (fun _ => []) [4] ?_
              intro k hk; simp -dsimp (maxSteps := 2000000) [go_sem, -decide_eq_true_eq, -decide_eq_false_iff_not]
              repeat' (first | refine And.intro ?_ ?_ | refine hk _ ?_ | (intro hg; try simp only [decide_eq_true_eq, decide_eq_false_iff_not] at hg) | omega | exact True.intro)
              all_goals clear hk k
              refine AW.retF (ow := []) (muts := []) ?_ (fun h => And.intro (.inr rfl) h)
              cases a; cases b; simp [go_sem, Try.results73] at *; simp [*])))

set_option maxHeartbeats 600000 in
set_option linter.unusedSimpArgs false in
set_option maxRecDepth 100000 in
/-- laws.toEngine -/
theorem dc_laws_toEngine (x : TEngine) (hs : x.sz ≤ 1048576) : DC Try.prog 71 [.agg x.ro] (.agg [.osl 1 (x.procs.map TProc.oc), .osl 6 (x.insts.map TInst.oc), .int .i64 x.now]) [] := by
  unfold TEngine.sz at hs
  have h0 : x.procs.length ≤ 1048576 ∧ ∀ e ∈ x.procs, e.sz ≤ 1048576 := ⟨by omega, fun e he => by have := sum_mem (f := TProc.sz) he; omega⟩
  have h1 : x.insts.length ≤ 1048576 ∧ ∀ e ∈ x.insts, e.sz ≤ 1048576 := ⟨by omega, fun e he => by have := sum_mem (f := TInst.sz) he; omega⟩
  refine DC.intro tiOk Try.func71 rfl rfl rfl rfl rfl rfl rfl rfl [1000] ?_
  refine AW.reg tiOk (fun _ => []) [1, 2] ?_
  intro k hk; simp -dsimp (maxSteps := 2000000) [go_sem, -decide_eq_true_eq, -decide_eq_false_iff_not]
  repeat' (first | refine And.intro ?_ ?_ | refine hk _ ?_ | (intro hg; try simp only [decide_eq_true_eq, decide_eq_false_iff_not] at hg) | omega | exact True.intro)
  all_goals clear hk k
  refine AW.reg tiOk (fun _ => []) [1, 2, 3] ?_
  intro k hk; simp -dsimp (maxSteps := 2000000) [go_sem, -decide_eq_true_eq, -decide_eq_false_iff_not]
  repeat' (first | refine And.intro ?_ ?_ | refine hk _ ?_ | (intro hg; try simp only [decide_eq_true_eq, decide_eq_false_iff_not] at hg) | omega | exact True.intro)
  all_goals clear hk k
  refine AW.reg tiOk (fun _ => []) [1, 2, 3] ?_
  intro k hk; simp -dsimp (maxSteps := 2000000) [go_sem, -decide_eq_true_eq, -decide_eq_false_iff_not]
  repeat' (first | refine And.intro ?_ ?_ | refine hk _ ?_ | (intro hg; try simp only [decide_eq_true_eq, decide_eq_false_iff_not] at hg) | (refine CallK.intro (dc_laws_toProcS _ (by assumption)) ?_; simp -dsimp (maxSteps := 2000000) [go_sem, -decide_eq_true_eq, -decide_eq_false_iff_not]) | omega | exact True.intro)
  all_goals clear hk k
  refine AW.reg tiOk (fun _ => []) [1, 2, 3] ?_
  intro k hk; simp -dsimp (maxSteps := 2000000) [go_sem, -decide_eq_true_eq, -decide_eq_false_iff_not]
  repeat' (first | refine And.intro ?_ ?_ | refine hk _ ?_ | (intro hg; try simp only [decide_eq_true_eq, decide_eq_false_iff_not] at hg) | (refine CallK.intro (dc_laws_toInstS _ (by assumption)) ?_; simp -dsimp (maxSteps := 2000000) [go_sem, -decide_eq_true_eq, -decide_eq_false_iff_not]) | omega | exact True.intro)
  all_goals clear hk k
  refine AW.reg tiOk (fun _ => []) [2, 3] ?_
  intro k hk; simp -dsimp (maxSteps := 2000000) [go_sem, -decide_eq_true_eq, -decide_eq_false_iff_not]
  repeat' (first | refine And.intro ?_ ?_ | refine hk _ ?_ | (intro hg; try simp only [decide_eq_true_eq, decide_eq_false_iff_not] at hg) | omega | exact True.intro)
  all_goals clear hk k
  refine AW.reg tiOk (fun _ => []) [2] ?_
  intro k hk; simp -dsimp (maxSteps := 2000000) [go_sem, -decide_eq_true_eq, -decide_eq_false_iff_not]
  repeat' (first | refine And.intro ?_ ?_ | refine hk _ ?_ | (intro hg; try simp only [decide_eq_true_eq, decide_eq_false_iff_not] at hg) | omega | exact True.intro)
  all_goals clear hk k
  refine AW.retF (ow := [1000]) (muts := []) ?_ (fun h => And.intro (.inr rfl) h)
  simp [go_sem, Try.results71]

end Go.AM
