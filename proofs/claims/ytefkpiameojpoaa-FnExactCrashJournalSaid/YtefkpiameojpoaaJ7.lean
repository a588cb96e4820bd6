/- Walks. -/
import Derived.Test.YtefkpiameojpoaaJ6
set_option linter.unusedVariables false
set_option linter.unusedSimpArgs false
namespace Go.AM
open Go.Proofs

set_option maxHeartbeats 600000 in
set_option linter.unusedSimpArgs false in
set_option maxRecDepth 100000 in
/-- slices.Concat[[]byte,byte] -/
theorem dc_slices_Concat_byte_byte_z (l : List (List UInt8)) (hl : l.length ≤ 1048576) (h0 : cat l = []) : DC Try.prog 113 [.isl 1 (l.map LB)] (.isl 1 []) [] := by
  have hb : (cat l).length = 0 := by rw [h0]; rfl
  refine DC.intro tiOk Try.func113 rfl rfl rfl rfl rfl rfl rfl rfl [] ?_
  refine AW.reg tiOk (fun _ => []) [0] ?_
  intro k hk; simp -dsimp [go_sem, -decide_eq_true_eq, -decide_eq_false_iff_not]
  repeat' (first | refine And.intro ?_ ?_ | refine hk _ ?_ | intro hg | omega | exact True.intro)
  all_goals clear hk k
  refine AW.reg tiOk (fun _ => []) [0, 3] ?_
  intro k hk; simp -dsimp [go_sem, -decide_eq_true_eq, -decide_eq_false_iff_not]
  repeat' (first | refine And.intro ?_ ?_ | refine hk _ ?_ | intro hg | omega | exact True.intro)
  all_goals clear hk k
  refine AW.seq ?_
  refine AW.reg tiOk (fun _ => []) [0, 3, 9, 10, 11] ?_
  intro k hk; simp -dsimp [go_sem, -decide_eq_true_eq, -decide_eq_false_iff_not]
  repeat' (first | refine And.intro ?_ ?_ | refine hk _ ?_ | intro hg | omega | exact True.intro)
  all_goals clear hk k
  refine AW.block ?_
  -- live at the loop's head: [0, 3, 9, 10, 11]
  refine AW.loopI (fun i : Nat => ⟨36, [(0, .isl 1 (l.map LB)), (3, .int .i64 ((cat (l.take i)).length : Nat)), (9, .isl 1 (l.map LB)), (10, .int .i64 l.length), (11, .int .i64 i)], []⟩) (fun i => i ≤ l.length) (fun i => l.length - i) (0) (by simp) (Less.of rfl (by simp [go_sem]) (by simp [go_sem])) ?_
  rintro i hi
  refine AW.reg tiOk (fun _ => []) [0, 3, 9, 10, 11, 12] ?_
  intro k hk; simp -dsimp [go_sem, -decide_eq_true_eq, -decide_eq_false_iff_not]
  repeat' (first | refine And.intro ?_ ?_ | refine hk _ ?_ | intro hg | omega | exact True.intro)
  all_goals clear hk k
  refine AW.seq ?_
  refine AW.cond rfl ?_ ?_
  · intro hc; try simp at hc
    all_goals try (exfalso; omega; done)
    all_goals (
      have hlt : i < l.length := by assumption
      obtain ⟨x, hx⟩ := at_some hlt
      have hfs := flat_step hx
      have hfl := flat_stepL hx
      have hwf : IntKind.wrap .i64 ((((cat (l.take i)).length : Nat) : Int) + (x.length : Int)) = (((cat (l.take i)).length : Nat) : Int) + (x.length : Int) := wrap64 (by omega) (by omega)
      refine AW.skipN (fun _ h => h) ?_
      refine AW.seq ?_
      refine AW.block ?_
      refine AW.reg tiOk (fun _ => []) [0, 3, 5, 9, 10, 11] ?_
      intro k hk; simp -dsimp [go_sem, -decide_eq_true_eq, -decide_eq_false_iff_not, hx, hwf]
      repeat' (first | refine And.intro ?_ ?_ | refine hk _ ?_ | intro hg | omega | exact True.intro)
      all_goals clear hk k
      refine AW.reg tiOk (fun _ => []) [0, 3, 9, 10, 11] ?_
      intro k hk; simp -dsimp [go_sem, -decide_eq_true_eq, -decide_eq_false_iff_not, hx, hwf]
      repeat' (first | refine And.intro ?_ ?_ | refine hk _ ?_ | intro hg | omega | exact True.intro)
      all_goals clear hk k
      refine AW.reg tiOk (fun _ => []) [0, 3, 9, 10, 11, 20] ?_
      intro k hk; simp -dsimp [go_sem, -decide_eq_true_eq, -decide_eq_false_iff_not, hx, hwf]
      repeat' (first | refine And.intro ?_ ?_ | refine hk _ ?_ | intro hg | omega | exact True.intro)
      all_goals clear hk k
      refine AW.cond rfl ?_ ?_
      · intro hc; try simp at hc
        all_goals try (exfalso; omega; done)
        all_goals (
          refine AW.regN tiOk (fun _ => []) [0, 3, 9, 10, 11] (fun _ h => h) ?_
          intro k hk; simp -dsimp [go_sem, -decide_eq_true_eq, -decide_eq_false_iff_not, hx, hwf]
          repeat' (first | refine And.intro ?_ ?_ | refine hk _ ?_ | intro hg | omega | exact True.intro)
          all_goals clear hk k
          refine AW.regK tiOk (fun _ => []) ?_
          intro k hk; simp -dsimp [go_sem, -decide_eq_true_eq, -decide_eq_false_iff_not, hx, hwf]
          repeat' (first | refine And.intro ?_ ?_ | refine hk _ ?_ | intro hg | omega | exact True.intro)
          all_goals clear hk k
          show ∃ _, _
          have hw := wrapi hlt (by omega)
          refine ⟨i + 1, by omega, by omega, Less.of rfl (by simp [go_sem, hw, hfs]) (by simp [go_sem, hfs])⟩)
      · intro hc; try simp at hc
        all_goals try (exfalso; omega; done)
        all_goals (
          refine AW.skipN (fun _ h => h) ?_
          refine AW.regK tiOk (fun _ => []) ?_
          intro k hk; simp -dsimp [go_sem, -decide_eq_true_eq, -decide_eq_false_iff_not, hx, hwf]
          repeat' (first | refine And.intro ?_ ?_ | refine hk _ ?_ | intro hg | omega | exact True.intro)
          all_goals clear hk k
          show ∃ _, _
          have hw := wrapi hlt (by omega)
          refine ⟨i + 1, by omega, by omega, Less.of rfl (by simp [go_sem, hw, hfs]) (by simp [go_sem, hfs])⟩))
  · intro hc; try simp at hc
    all_goals try (exfalso; omega; done)
    all_goals (
      refine AW.exitN (fun _ h => h) ?_
      rw [flat_end (by omega), h0]
      refine AW.reg tiOk (fun _ => []) [0, 6] ?_
      intro k hk; simp -dsimp (maxSteps := 2000000) [go_sem, -decide_eq_true_eq, -decide_eq_false_iff_not]
      repeat' (first | refine And.intro ?_ ?_ | refine hk _ ?_ | intro hg | (refine CallK.intro (dc_slices_Grow_byte_byte_z) ?_; simp -dsimp (maxSteps := 2000000) [go_sem, -decide_eq_true_eq, -decide_eq_false_iff_not]) | omega | exact True.intro)
      all_goals clear hk k
      refine AW.seq ?_
      refine AW.reg tiOk (fun _ => []) [6, 25, 26, 27] ?_
      intro k hk; simp -dsimp [go_sem, -decide_eq_true_eq, -decide_eq_false_iff_not]
      repeat' (first | refine And.intro ?_ ?_ | refine hk _ ?_ | intro hg | omega | exact True.intro)
      all_goals clear hk k
      refine AW.block ?_
      -- live at the loop's head: [6, 25, 26, 27]
      refine AW.loopI (fun i : Nat => ⟨36, [(6, .nils), (25, .isl 1 (l.map LB)), (26, .int .i64 l.length), (27, .int .i64 i)], []⟩) (fun i => i ≤ l.length) (fun i => l.length - i) (0) (by simp) (Less.of rfl (by simp [go_sem]) (by simp [go_sem])) ?_
      rintro i hi
      refine AW.reg tiOk (fun _ => []) [6, 25, 26, 27, 28] ?_
      intro k hk; simp -dsimp [go_sem, -decide_eq_true_eq, -decide_eq_false_iff_not]
      repeat' (first | refine And.intro ?_ ?_ | refine hk _ ?_ | intro hg | omega | exact True.intro)
      all_goals clear hk k
      refine AW.seq ?_
      refine AW.cond rfl ?_ ?_
      · intro hc; try simp at hc
        all_goals try (exfalso; omega; done)
        all_goals (
          have hlt : i < l.length := by assumption
          obtain ⟨x, hx⟩ := at_some hlt
          have hfs := flat_step hx
          have hfl := flat_stepL hx
          obtain rfl : x = [] := flat_nil hx hb
          refine AW.skipN (fun _ h => h) ?_
          refine AW.seq ?_
          refine AW.block ?_
          refine AW.reg tiOk (fun _ => []) [6, 8, 25, 26, 27] ?_
          intro k hk; simp -dsimp [go_sem, -decide_eq_true_eq, -decide_eq_false_iff_not, hx]
          repeat' (first | refine And.intro ?_ ?_ | refine hk _ ?_ | intro hg | omega | exact True.intro)
          all_goals clear hk k
          refine AW.regN tiOk (fun _ => []) [6, 25, 26, 27] (fun _ h => h) ?_
          intro k hk; simp -dsimp [go_sem, -decide_eq_true_eq, -decide_eq_false_iff_not, hx]
          repeat' (first | refine And.intro ?_ ?_ | refine hk _ ?_ | intro hg | omega | exact True.intro)
          all_goals clear hk k
          refine AW.regK tiOk (fun _ => []) ?_
          intro k hk; simp -dsimp [go_sem, -decide_eq_true_eq, -decide_eq_false_iff_not, hx]
          repeat' (first | refine And.intro ?_ ?_ | refine hk _ ?_ | intro hg | omega | exact True.intro)
          all_goals clear hk k
          show ∃ _, _
          have hw := wrapi hlt (by omega)
          refine ⟨i + 1, by omega, by omega, Less.of rfl (by simp [go_sem, hw, hfs]) (by simp [go_sem, hfs])⟩)
      · intro hc; try simp at hc
        all_goals try (exfalso; omega; done)
        all_goals (
          refine AW.exitN (fun _ h => h) ?_
          refine AW.reg tiOk (fun _ => []) [2] ?_
          intro k hk; simp -dsimp [go_sem, -decide_eq_true_eq, -decide_eq_false_iff_not]
          repeat' (first | refine And.intro ?_ ?_ | refine hk _ ?_ | intro hg | omega | exact True.intro)
          all_goals clear hk k
          refine AW.retF (ow := []) (muts := []) ?_ (fun h => And.intro (.inr rfl) h)
          simp [go_sem, Try.results113]))
theorem dc_Concat_I (l : List (List UInt8)) (hl : l.length ≤ 1048576) (hb : (cat l).length ≤ 4194304) : DC Try.prog 113 [.isl 1 (l.map LB)] (.isl 1 ((cat l).map B1)) [] := by
  rcases Nat.eq_zero_or_pos (cat l).length with h | h
  · have e := List.eq_nil_of_length_eq_zero h
    rw [e]
    exact dc_slices_Concat_byte_byte_z l hl e
  · have := (dc_slices_Concat_byte_byte_p l hl h hb).frz
    rwa [unown, B1_unL] at this

set_option maxHeartbeats 600000 in
set_option linter.unusedSimpArgs false in
set_option maxRecDepth 100000 in
/-- (impl.Journal).lines -/
theorem dc_impl_Journal_lines_p (s l : List UInt8) (hz : s.length + l.length ≤ 1048576) (h0 : 0 < (cat [s, l]).length) : DC Try.prog 138 [.agg [.isl 1 (s.map B1), .isl 1 (l.map B1)]] (.osl 1 ((rd (cat [s, l])).1.map S1)) [] := by
  have hcl : (cat [s, l]).length = s.length + l.length := by rw [cat_two, List.length_append]
  refine DC.intro tiOk Try.func138 rfl rfl rfl rfl rfl rfl rfl rfl [1000] ?_
  refine AW.reg tiOk (fun _ => []) [1] ?_
  intro k hk; simp -dsimp [go_sem, -decide_eq_true_eq, -decide_eq_false_iff_not]
  repeat' (first | refine And.intro ?_ ?_ | refine hk _ ?_ | intro hg | omega | exact True.intro)
  all_goals clear hk k
  refine AW.reg tiOk (fun _ => []) [3] ?_
  intro k hk; simp -dsimp (maxSteps := 2000000) [go_sem, -decide_eq_true_eq, -decide_eq_false_iff_not]
  repeat' (first | refine And.intro ?_ ?_ | refine hk _ ?_ | intro hg | (refine CallK.intro (dc_slices_Concat_byte_byte_p [s, l] (by simp) h0 (by omega)) ?_; simp -dsimp (maxSteps := 2000000) [go_sem, -decide_eq_true_eq, -decide_eq_false_iff_not]) | (refine CallK.intro ((dc_impl_readLines (cat [s, l]) (by omega) (by omega)).any2) ?_; simp -dsimp (maxSteps := 2000000) [go_sem, -decide_eq_true_eq, -decide_eq_false_iff_not]) | omega | exact True.intro)
  all_goals clear hk k
  refine AW.reg tiOk (fun _ => []) [2] ?_
  intro k hk; simp -dsimp [go_sem, -decide_eq_true_eq, -decide_eq_false_iff_not]
  repeat' (first | refine And.intro ?_ ?_ | refine hk _ ?_ | intro hg | omega | exact True.intro)
  all_goals clear hk k
  refine AW.retF (ow := [1000]) (muts := []) ?_ (fun h => And.intro (.inr rfl) h)
  simp [go_sem, Try.results138]

set_option maxHeartbeats 600000 in
set_option linter.unusedSimpArgs false in
set_option maxRecDepth 100000 in
/-- (impl.Journal).lines -/
theorem dc_impl_Journal_lines_z (s l : List UInt8) (hz : s.length + l.length ≤ 1048576) (h0 : cat [s, l] = []) : DC Try.prog 138 [.agg [.isl 1 (s.map B1), .isl 1 (l.map B1)]] (.osl 1 ((rd (cat [s, l])).1.map S1)) [] := by
  have hcl : (cat [s, l]).length = s.length + l.length := by rw [cat_two, List.length_append]
  refine DC.intro tiOk Try.func138 rfl rfl rfl rfl rfl rfl rfl rfl [1000] ?_
  refine AW.reg tiOk (fun _ => []) [1] ?_
  intro k hk; simp -dsimp [go_sem, -decide_eq_true_eq, -decide_eq_false_iff_not]
  repeat' (first | refine And.intro ?_ ?_ | refine hk _ ?_ | intro hg | omega | exact True.intro)
  all_goals clear hk k
  refine AW.reg tiOk (fun _ => []) [3] ?_
  intro k hk; simp -dsimp (maxSteps := 2000000) [go_sem, -decide_eq_true_eq, -decide_eq_false_iff_not]
  repeat' (first | refine And.intro ?_ ?_ | refine hk _ ?_ | intro hg | (refine CallK.intro (dc_slices_Concat_byte_byte_z [s, l] (by simp) h0) ?_; simp -dsimp (maxSteps := 2000000) [go_sem, -decide_eq_true_eq, -decide_eq_false_iff_not]) | (refine CallK.intro ((dc_impl_readLines [] (by simp) (by simp)).any2) ?_; simp -dsimp (maxSteps := 2000000) [go_sem, -decide_eq_true_eq, -decide_eq_false_iff_not]) | omega | exact True.intro)
  all_goals clear hk k
  refine AW.reg tiOk (fun _ => []) [2] ?_
  intro k hk; simp -dsimp [go_sem, -decide_eq_true_eq, -decide_eq_false_iff_not]
  repeat' (first | refine And.intro ?_ ?_ | refine hk _ ?_ | intro hg | omega | exact True.intro)
  all_goals clear hk k
  refine AW.retF (ow := [1000]) (muts := []) ?_ (fun h => And.intro (.inr rfl) h)
  simp [go_sem, Try.results138, h0]
theorem dc_impl_Journal_lines (s l : List UInt8) (hz : s.length + l.length ≤ 1048576) : DC Try.prog 138 [.agg [.isl 1 (s.map B1), .isl 1 (l.map B1)]] (.osl 1 ((rd (cat [s, l])).1.map S1)) [] := by
  rcases Nat.eq_zero_or_pos (cat [s, l]).length with h | h
  · exact dc_impl_Journal_lines_z s l hz (List.eq_nil_of_length_eq_zero h)
  · exact dc_impl_Journal_lines_p s l hz h

end Go.AM
