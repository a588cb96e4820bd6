/- Walks. -/
import Derived.Test.YtefkpiameojpoaaS1
import Derived.Test.YtefkpiameojpoaaM1
import Derived.Test.YtefkpiameojpoaaPj
set_option linter.unusedVariables false
set_option linter.unusedSimpArgs false
namespace Go.AM
open Go.Proofs

set_option maxHeartbeats 600000 in
set_option linter.unusedSimpArgs false in
set_option maxRecDepth 100000 in
/-- impl.pack -/
theorem dc_impl_pack (s : List UInt8) (hs : s.length ≤ 1048576) : DC Try.prog 94 [.str s] (.osl 1 ((pk s).map B1)) [] := by
  have hpl := pkH_len s
  refine DC.intro tiOk Try.func94 rfl rfl rfl rfl rfl rfl rfl rfl [1000] ?_
  refine AW.reg tiOk (fun _ => []) [0] ?_
  intro k hk; simp -dsimp [go_sem, -decide_eq_true_eq, -decide_eq_false_iff_not]
  repeat' (first | refine And.intro ?_ ?_ | refine hk _ ?_ | intro hg | omega | exact True.intro)
  all_goals clear hk k
  refine AW.reg tiOk (fun _ => []) [3, 4] ?_
  intro k hk; simp -dsimp (maxSteps := 2000000) [go_sem, -decide_eq_true_eq, -decide_eq_false_iff_not]
  repeat' (first | refine And.intro ?_ ?_ | refine hk _ ?_ | intro hg | omega | exact True.intro)
  all_goals clear hk k
  refine AW.seq ?_
  refine AW.reg tiOk (fun _ => []) [3, 4, 13, 14, 15] ?_
  intro k hk; simp -dsimp [go_sem, -decide_eq_true_eq, -decide_eq_false_iff_not]
  repeat' (first | refine And.intro ?_ ?_ | refine hk _ ?_ | intro hg | omega | exact True.intro)
  all_goals clear hk k
  refine AW.block ?_
  -- live at the loop's head: [3, 4, 13, 14, 15]
  refine AW.loopI (fun i : Nat => ⟨34, [(3, .sl 12 1 0 (pkH s).length), (4, .int .i64 (sumB ((pkH s).take i) 1)), (13, .sl 12 1 0 (pkH s).length), (14, .int .i64 (pkH s).length), (15, .int .i64 i)], [(12, some ⟨1, (pkH s).map B1⟩)]⟩) (fun i => i ≤ (pkH s).length) (fun i => (pkH s).length - i) (0) (by simp) (Less.of rfl (by simp [go_sem, hpl, sumB] <;> omega) (by simp [go_sem, pkH])) ?_
  rintro i hi
  refine AW.reg tiOk (fun _ => []) [3, 4, 13, 14, 15, 16] ?_
  intro k hk; simp -dsimp [go_sem, -decide_eq_true_eq, -decide_eq_false_iff_not]
  repeat' (first | refine And.intro ?_ ?_ | refine hk _ ?_ | intro hg | omega | exact True.intro)
  all_goals clear hk k
  refine AW.seq ?_
  refine AW.cond rfl ?_ ?_
  · intro hc; try simp at hc
    all_goals (
      have hlt : i < (pkH s).length := by first | assumption | (rw [pkH_len]; omega)
      obtain ⟨x, hx⟩ := at_some hlt
      have hxt := x.toNat_lt
      have hsb := sumB_bd ((pkH s).take i) 1 (by decide)
      have hw1 : IntKind.wrap .i64 (sumB ((pkH s).take i) 1 * 251) = sumB ((pkH s).take i) 1 * 251 := wrap64 (by omega) (by omega)
      have hw2 : IntKind.wrap .i64 (sumB ((pkH s).take i) 1 * 251 + (x.toNat : Int)) = sumB ((pkH s).take i) 1 * 251 + (x.toNat : Int) := wrap64 (by omega) (by omega)
      have hw3 : (sumB ((pkH s).take i) 1 * 251 + (x.toNat : Int)).tmod 65521 = sumB ((pkH s).take (i + 1)) 1 := by rw [sumB_step hx]; exact Int.tmod_eq_emod_of_nonneg (by omega)
      refine AW.skipN (fun _ h => h) ?_
      refine AW.seq ?_
      refine AW.block ?_
      refine AW.reg tiOk (fun _ => []) [3, 4, 6, 13, 14, 15] ?_
      intro k hk; simp -dsimp [go_sem, -decide_eq_true_eq, -decide_eq_false_iff_not, hx, hw1, hw2, hw3]
      repeat' (first | refine And.intro ?_ ?_ | refine hk _ ?_ | intro hg | omega | exact True.intro)
      all_goals clear hk k
      refine AW.regN tiOk (fun _ => []) [3, 4, 13, 14, 15] (fun _ h => h) ?_
      intro k hk; simp -dsimp (maxSteps := 2000000) [go_sem, -decide_eq_true_eq, -decide_eq_false_iff_not, hx, hw1, hw2, hw3]
      repeat' (first | refine And.intro ?_ ?_ | refine hk _ ?_ | intro hg | omega | exact True.intro)
      all_goals clear hk k
      refine AW.regK tiOk (fun _ => []) ?_
      intro k hk; simp -dsimp [go_sem, -decide_eq_true_eq, -decide_eq_false_iff_not, hx, hw1, hw2, hw3]
      repeat' (first | refine And.intro ?_ ?_ | refine hk _ ?_ | intro hg | omega | exact True.intro)
      all_goals clear hk k
      show ∃ _, _
      have hw := wrapi hlt (by omega)
      refine ⟨i + 1, by omega, by omega, Less.of rfl (by simp [go_sem, hw]) (by simp [go_sem])⟩)
  · intro hc; try simp at hc
    all_goals (
      refine AW.exitN (fun _ h => h) ?_
      rw [List.take_of_length_le (show (pkH s).length ≤ i by first | assumption | (rw [pkH_len]; omega))]
      have hfd : (sumB (pkH s) 1).fdiv 256 = sumB (pkH s) 1 / 256 := Int.fdiv_eq_ediv_of_nonneg _ (by decide)
      refine AW.reg tiOk (fun _ => []) [2] ?_
      intro k hk; simp -dsimp (maxSteps := 2000000) [go_sem, -decide_eq_true_eq, -decide_eq_false_iff_not, hfd]
      repeat' (first | refine And.intro ?_ ?_ | refine hk _ ?_ | intro hg | omega | exact True.intro)
      all_goals clear hk k
      refine AW.retF (ow := [1000]) (muts := []) ?_ (fun h => And.intro (.inr rfl) h)
      simp [go_sem, Try.results94, pk])

set_option maxHeartbeats 600000 in
set_option linter.unusedSimpArgs false in
set_option maxRecDepth 100000 in
/-- spec.l13Pack -/
theorem dc_spec_l13Pack (s : List UInt8) (hs : s.length ≤ 1048576) : DC Try.prog 93 [.str s] (.osl 1 ((pk s).map B1)) [] := by
  have hpl := pkH_len s
  refine DC.intro tiOk Try.func93 rfl rfl rfl rfl rfl rfl rfl rfl [1000] ?_
  refine AW.reg tiOk (fun _ => []) [0] ?_
  intro k hk; simp -dsimp [go_sem, -decide_eq_true_eq, -decide_eq_false_iff_not]
  repeat' (first | refine And.intro ?_ ?_ | refine hk _ ?_ | intro hg | omega | exact True.intro)
  all_goals clear hk k
  refine AW.reg tiOk (fun _ => []) [3] ?_
  intro k hk; simp -dsimp (maxSteps := 2000000) [go_sem, -decide_eq_true_eq, -decide_eq_false_iff_not]
  repeat' (first | refine And.intro ?_ ?_ | refine hk _ ?_ | intro hg | omega | exact True.intro)
  all_goals clear hk k
  refine AW.reg tiOk (fun _ => []) [3, 4] ?_
  intro k hk; simp -dsimp [go_sem, -decide_eq_true_eq, -decide_eq_false_iff_not]
  repeat' (first | refine And.intro ?_ ?_ | refine hk _ ?_ | intro hg | omega | exact True.intro)
  all_goals clear hk k
  refine AW.seq ?_
  refine AW.reg tiOk (fun _ => []) [3, 4, 5] ?_
  intro k hk; simp -dsimp [go_sem, -decide_eq_true_eq, -decide_eq_false_iff_not]
  repeat' (first | refine And.intro ?_ ?_ | refine hk _ ?_ | intro hg | omega | exact True.intro)
  all_goals clear hk k
  refine AW.block ?_
  -- live at the loop's head: [3, 4, 5]
  refine AW.loopI (fun i : Nat => ⟨37, [(3, .sl 12 1 0 (pkH s).length), (4, .int .i64 (sumB ((pkH s).take i) 1)), (5, .int .i64 i)], [(12, some ⟨1, (pkH s).map B1⟩)]⟩) (fun i => i ≤ (pkH s).length) (fun i => (pkH s).length - i) (0) (by simp) (Less.of rfl (by simp [go_sem, hpl, sumB] <;> omega) (by simp [go_sem, pkH])) ?_
  rintro i hi
  refine AW.seq ?_
  refine AW.reg tiOk (fun _ => []) [3, 4, 5, 16] ?_
  intro k hk; simp -dsimp [go_sem, -decide_eq_true_eq, -decide_eq_false_iff_not]
  repeat' (first | refine And.intro ?_ ?_ | refine hk _ ?_ | intro hg | omega | exact True.intro)
  all_goals clear hk k
  refine AW.cond rfl ?_ ?_
  · intro hc; try simp at hc
    all_goals (
      have hlt : i < (pkH s).length := by first | assumption | (rw [pkH_len]; omega)
      obtain ⟨x, hx⟩ := at_some hlt
      have hxt := x.toNat_lt
      have hsb := sumB_bd ((pkH s).take i) 1 (by decide)
      have hw1 : IntKind.wrap .i64 (sumB ((pkH s).take i) 1 * 251) = sumB ((pkH s).take i) 1 * 251 := wrap64 (by omega) (by omega)
      have hw2 : IntKind.wrap .i64 (sumB ((pkH s).take i) 1 * 251 + (x.toNat : Int)) = sumB ((pkH s).take i) 1 * 251 + (x.toNat : Int) := wrap64 (by omega) (by omega)
      have hw3 : (sumB ((pkH s).take i) 1 * 251 + (x.toNat : Int)).tmod 65521 = sumB ((pkH s).take (i + 1)) 1 := by rw [sumB_step hx]; exact Int.tmod_eq_emod_of_nonneg (by omega)
      refine AW.skipN (fun _ h => h) ?_
      refine AW.seq ?_
      refine AW.block ?_
      refine AW.regN tiOk (fun _ => []) [3, 4, 5] (fun _ h => h) ?_
      intro k hk; simp -dsimp (maxSteps := 2000000) [go_sem, -decide_eq_true_eq, -decide_eq_false_iff_not, hx, hw1, hw2, hw3]
      repeat' (first | refine And.intro ?_ ?_ | refine hk _ ?_ | intro hg | omega | exact True.intro)
      all_goals clear hk k
      refine AW.regK tiOk (fun _ => []) ?_
      intro k hk; simp -dsimp [go_sem, -decide_eq_true_eq, -decide_eq_false_iff_not, hx, hw1, hw2, hw3]
      repeat' (first | refine And.intro ?_ ?_ | refine hk _ ?_ | intro hg | omega | exact True.intro)
      all_goals clear hk k
      show ∃ _, _
      have hw := wrapi hlt (by omega)
      refine ⟨i + 1, by omega, by omega, Less.of rfl (by simp [go_sem, hw]) (by simp [go_sem])⟩)
  · intro hc; try simp at hc
    all_goals (
      refine AW.exitN (fun _ h => h) ?_
      rw [List.take_of_length_le (show (pkH s).length ≤ i by first | assumption | (rw [pkH_len]; omega))]
      have hsb := sumB_bd (pkH s) 1 (by decide)
      have htd : (sumB (pkH s) 1).tdiv 256 = sumB (pkH s) 1 / 256 := Int.tdiv_eq_ediv_of_nonneg hsb.1
      have htm : (sumB (pkH s) 1).tmod 256 = sumB (pkH s) 1 % 256 := Int.tmod_eq_emod_of_nonneg hsb.1
      have hwd : IntKind.wrap .i64 (sumB (pkH s) 1 / 256) = sumB (pkH s) 1 / 256 := wrap64 (by omega) (by omega)
      refine AW.reg tiOk (fun _ => []) [2] ?_
      intro k hk; simp -dsimp (maxSteps := 2000000) [go_sem, -decide_eq_true_eq, -decide_eq_false_iff_not, htd, htm, hwd, b8_mod]
      repeat' (first | refine And.intro ?_ ?_ | refine hk _ ?_ | intro hg | omega | exact True.intro)
      all_goals clear hk k
      refine AW.retF (ow := [1000]) (muts := []) ?_ (fun h => And.intro (.inr rfl) h)
      simp [go_sem, Try.results93, pk])

set_option maxHeartbeats 600000 in
set_option linter.unusedSimpArgs false in
set_option maxRecDepth 100000 in
/-- impl.PackLine -/
theorem dc_impl_PackLine_bad (s : List UInt8) (hs : s.length ≤ 1048576) (hl : lineF s ≠ 0) : DC Try.prog 36 [.str s] (.agg [.int .i64 (lineF s), .isl 1 []]) [] := by
  refine DC.intro tiOk Try.func36 rfl rfl rfl rfl rfl rfl rfl rfl [1000] ?_
  refine AW.reg tiOk (fun _ => []) [0, 2] ?_
  intro k hk; simp -dsimp [go_sem, -decide_eq_true_eq, -decide_eq_false_iff_not, hl]
  repeat' (first | refine And.intro ?_ ?_ | refine hk _ ?_ | intro hg | omega | exact True.intro)
  all_goals clear hk k
  refine AW.seq ?_
  refine AW.reg tiOk (fun _ => []) [0, 2, 3] ?_
  intro k hk; simp -dsimp (maxSteps := 2000000) [go_sem, -decide_eq_true_eq, -decide_eq_false_iff_not, hl]
  repeat' (first | refine And.intro ?_ ?_ | refine hk _ ?_ | intro hg | (refine CallK.intro (dc_impl_LineFault s (by omega)) ?_; simp -dsimp (maxSteps := 2000000) [go_sem, -decide_eq_true_eq, -decide_eq_false_iff_not, hl]) | omega | exact True.intro)
  all_goals clear hk k
  refine AW.reg tiOk (fun _ => []) [0, 2, 3, 7] ?_
  intro k hk; simp -dsimp [go_sem, -decide_eq_true_eq, -decide_eq_false_iff_not, hl]
  repeat' (first | refine And.intro ?_ ?_ | refine hk _ ?_ | intro hg | omega | exact True.intro)
  all_goals clear hk k
  refine AW.cond rfl ?_ ?_
  · intro hc; try simp at hc
    all_goals try (exfalso; contradiction; done)
    all_goals (
      refine AW.reg tiOk (fun _ => []) [2] ?_
      intro k hk; simp -dsimp [go_sem, -decide_eq_true_eq, -decide_eq_false_iff_not, hl]
      repeat' (first | refine And.intro ?_ ?_ | refine hk _ ?_ | intro hg | omega | exact True.intro)
      all_goals clear hk k
      refine AW.retF (ow := [1000]) (muts := []) ?_ (fun h => And.intro (.inr rfl) h)
      simp [go_sem, Try.results36])
  · intro hc; try simp at hc
    all_goals try (exfalso; contradiction; done)
    all_goals (
      refine AW.skipN (fun _ h => h) ?_
      refine AW.reg tiOk (fun _ => []) [2] ?_
      intro k hk; simp -dsimp (maxSteps := 2000000) [go_sem, -decide_eq_true_eq, -decide_eq_false_iff_not, hl]
      repeat' (first | refine And.intro ?_ ?_ | refine hk _ ?_ | intro hg | (refine CallK.intro (dc_impl_pack _ (by omega)) ?_; simp -dsimp (maxSteps := 2000000) [go_sem, -decide_eq_true_eq, -decide_eq_false_iff_not, hl]) | omega | exact True.intro)
      all_goals clear hk k
      refine AW.retF (ow := [1000]) (muts := []) ?_ (fun h => And.intro (.inr rfl) h)
      simp [go_sem, Try.results36])

set_option maxHeartbeats 600000 in
set_option linter.unusedSimpArgs false in
set_option maxRecDepth 100000 in
/-- impl.PackLine -/
theorem dc_impl_PackLine_ok (s : List UInt8) (hs : s.length ≤ 1048576) (hl : lineF s = 0) : DC Try.prog 36 [.str s] (.agg [.int .i64 0, .osl 1 ((pk s).map B1)]) [] := by
  refine DC.intro tiOk Try.func36 rfl rfl rfl rfl rfl rfl rfl rfl [1000] ?_
  refine AW.reg tiOk (fun _ => []) [0, 2] ?_
  intro k hk; simp -dsimp [go_sem, -decide_eq_true_eq, -decide_eq_false_iff_not, hl]
  repeat' (first | refine And.intro ?_ ?_ | refine hk _ ?_ | intro hg | omega | exact True.intro)
  all_goals clear hk k
  refine AW.seq ?_
  refine AW.reg tiOk (fun _ => []) [0, 2, 3] ?_
  intro k hk; simp -dsimp (maxSteps := 2000000) [go_sem, -decide_eq_true_eq, -decide_eq_false_iff_not, hl]
  repeat' (first | refine And.intro ?_ ?_ | refine hk _ ?_ | intro hg | (refine CallK.intro (dc_impl_LineFault s (by omega)) ?_; simp -dsimp (maxSteps := 2000000) [go_sem, -decide_eq_true_eq, -decide_eq_false_iff_not, hl]) | omega | exact True.intro)
  all_goals clear hk k
  refine AW.reg tiOk (fun _ => []) [0, 2, 3, 7] ?_
  intro k hk; simp -dsimp [go_sem, -decide_eq_true_eq, -decide_eq_false_iff_not, hl]
  repeat' (first | refine And.intro ?_ ?_ | refine hk _ ?_ | intro hg | omega | exact True.intro)
  all_goals clear hk k
  refine AW.cond rfl ?_ ?_
  · intro hc; try simp at hc
    all_goals try (exfalso; contradiction; done)
    all_goals (
      refine AW.reg tiOk (fun _ => []) [2] ?_
      intro k hk; simp -dsimp [go_sem, -decide_eq_true_eq, -decide_eq_false_iff_not, hl]
      repeat' (first | refine And.intro ?_ ?_ | refine hk _ ?_ | intro hg | omega | exact True.intro)
      all_goals clear hk k
      refine AW.retF (ow := [1000]) (muts := []) ?_ (fun h => And.intro (.inr rfl) h)
      simp [go_sem, Try.results36])
  · intro hc; try simp at hc
    all_goals try (exfalso; contradiction; done)
    all_goals (
      refine AW.skipN (fun _ h => h) ?_
      refine AW.reg tiOk (fun _ => []) [2] ?_
      intro k hk; simp -dsimp (maxSteps := 2000000) [go_sem, -decide_eq_true_eq, -decide_eq_false_iff_not, hl]
      repeat' (first | refine And.intro ?_ ?_ | refine hk _ ?_ | intro hg | (refine CallK.intro (dc_impl_pack s hs) ?_; simp -dsimp (maxSteps := 2000000) [go_sem, -decide_eq_true_eq, -decide_eq_false_iff_not, hl]) | omega | exact True.intro)
      all_goals clear hk k
      refine AW.retF (ow := [1000]) (muts := []) ?_ (fun h => And.intro (.inr rfl) h)
      simp [go_sem, Try.results36])

set_option maxHeartbeats 600000 in
set_option linter.unusedSimpArgs false in
set_option maxRecDepth 100000 in
/-- spec.PackLine -/
theorem dc_spec_PackLine_bad (s : List UInt8) (hs : s.length ≤ 1048576) (hl : lineF s ≠ 0) : DC Try.prog 35 [.str s] (.agg [.int .i64 (lineF s), .isl 1 []]) [] := by
  refine DC.intro tiOk Try.func35 rfl rfl rfl rfl rfl rfl rfl rfl [1000] ?_
  refine AW.reg tiOk (fun _ => []) [0, 2] ?_
  intro k hk; simp -dsimp [go_sem, -decide_eq_true_eq, -decide_eq_false_iff_not, hl]
  repeat' (first | refine And.intro ?_ ?_ | refine hk _ ?_ | intro hg | omega | exact True.intro)
  all_goals clear hk k
  refine AW.seq ?_
  refine AW.reg tiOk (fun _ => []) [0, 2, 3] ?_
  intro k hk; simp -dsimp (maxSteps := 2000000) [go_sem, -decide_eq_true_eq, -decide_eq_false_iff_not, hl]
  repeat' (first | refine And.intro ?_ ?_ | refine hk _ ?_ | intro hg | (refine CallK.intro (dc_spec_LineFault s (by omega)) ?_; simp -dsimp (maxSteps := 2000000) [go_sem, -decide_eq_true_eq, -decide_eq_false_iff_not, hl]) | omega | exact True.intro)
  all_goals clear hk k
  refine AW.reg tiOk (fun _ => []) [0, 2, 3, 7] ?_
  intro k hk; simp -dsimp [go_sem, -decide_eq_true_eq, -decide_eq_false_iff_not, hl]
  repeat' (first | refine And.intro ?_ ?_ | refine hk _ ?_ | intro hg | omega | exact True.intro)
  all_goals clear hk k
  refine AW.cond rfl ?_ ?_
  · intro hc; try simp at hc
    all_goals try (exfalso; contradiction; done)
    all_goals (
      refine AW.reg tiOk (fun _ => []) [2] ?_
      intro k hk; simp -dsimp [go_sem, -decide_eq_true_eq, -decide_eq_false_iff_not, hl]
      repeat' (first | refine And.intro ?_ ?_ | refine hk _ ?_ | intro hg | omega | exact True.intro)
      all_goals clear hk k
      refine AW.retF (ow := [1000]) (muts := []) ?_ (fun h => And.intro (.inr rfl) h)
      simp [go_sem, Try.results35])
  · intro hc; try simp at hc
    all_goals try (exfalso; contradiction; done)
    all_goals (
      refine AW.skipN (fun _ h => h) ?_
      refine AW.reg tiOk (fun _ => []) [2] ?_
      intro k hk; simp -dsimp (maxSteps := 2000000) [go_sem, -decide_eq_true_eq, -decide_eq_false_iff_not, hl]
      repeat' (first | refine And.intro ?_ ?_ | refine hk _ ?_ | intro hg | (refine CallK.intro (dc_spec_l13Pack _ (by omega)) ?_; simp -dsimp (maxSteps := 2000000) [go_sem, -decide_eq_true_eq, -decide_eq_false_iff_not, hl]) | omega | exact True.intro)
      all_goals clear hk k
      refine AW.retF (ow := [1000]) (muts := []) ?_ (fun h => And.intro (.inr rfl) h)
      simp [go_sem, Try.results35])

set_option maxHeartbeats 600000 in
set_option linter.unusedSimpArgs false in
set_option maxRecDepth 100000 in
/-- spec.PackLine -/
theorem dc_spec_PackLine_ok (s : List UInt8) (hs : s.length ≤ 1048576) (hl : lineF s = 0) : DC Try.prog 35 [.str s] (.agg [.int .i64 0, .osl 1 ((pk s).map B1)]) [] := by
  refine DC.intro tiOk Try.func35 rfl rfl rfl rfl rfl rfl rfl rfl [1000] ?_
  refine AW.reg tiOk (fun _ => []) [0, 2] ?_
  intro k hk; simp -dsimp [go_sem, -decide_eq_true_eq, -decide_eq_false_iff_not, hl]
  repeat' (first | refine And.intro ?_ ?_ | refine hk _ ?_ | intro hg | omega | exact True.intro)
  all_goals clear hk k
  refine AW.seq ?_
  refine AW.reg tiOk (fun _ => []) [0, 2, 3] ?_
  intro k hk; simp -dsimp (maxSteps := 2000000) [go_sem, -decide_eq_true_eq, -decide_eq_false_iff_not, hl]
  repeat' (first | refine And.intro ?_ ?_ | refine hk _ ?_ | intro hg | (refine CallK.intro (dc_spec_LineFault s (by omega)) ?_; simp -dsimp (maxSteps := 2000000) [go_sem, -decide_eq_true_eq, -decide_eq_false_iff_not, hl]) | omega | exact True.intro)
  all_goals clear hk k
  refine AW.reg tiOk (fun _ => []) [0, 2, 3, 7] ?_
  intro k hk; simp -dsimp [go_sem, -decide_eq_true_eq, -decide_eq_false_iff_not, hl]
  repeat' (first | refine And.intro ?_ ?_ | refine hk _ ?_ | intro hg | omega | exact True.intro)
  all_goals clear hk k
  refine AW.cond rfl ?_ ?_
  · intro hc; try simp at hc
    all_goals try (exfalso; contradiction; done)
    all_goals (
      refine AW.reg tiOk (fun _ => []) [2] ?_
      intro k hk; simp -dsimp [go_sem, -decide_eq_true_eq, -decide_eq_false_iff_not, hl]
      repeat' (first | refine And.intro ?_ ?_ | refine hk _ ?_ | intro hg | omega | exact True.intro)
      all_goals clear hk k
      refine AW.retF (ow := [1000]) (muts := []) ?_ (fun h => And.intro (.inr rfl) h)
      simp [go_sem, Try.results35])
  · intro hc; try simp at hc
    all_goals try (exfalso; contradiction; done)
    all_goals (
      refine AW.skipN (fun _ h => h) ?_
      refine AW.reg tiOk (fun _ => []) [2] ?_
      intro k hk; simp -dsimp (maxSteps := 2000000) [go_sem, -decide_eq_true_eq, -decide_eq_false_iff_not, hl]
      repeat' (first | refine And.intro ?_ ?_ | refine hk _ ?_ | intro hg | (refine CallK.intro (dc_spec_l13Pack s hs) ?_; simp -dsimp (maxSteps := 2000000) [go_sem, -decide_eq_true_eq, -decide_eq_false_iff_not, hl]) | omega | exact True.intro)
      all_goals clear hk k
      refine AW.retF (ow := [1000]) (muts := []) ?_ (fun h => And.intro (.inr rfl) h)
      simp [go_sem, Try.results35])

end Go.AM
