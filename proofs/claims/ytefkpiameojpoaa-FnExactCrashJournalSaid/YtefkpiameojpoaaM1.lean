/- Walks. -/
import Derived.Test.YtefkpiameojpoaaT2
import Derived.Test.YtefkpiameojpoaaPw
set_option linter.unusedVariables false
set_option linter.unusedSimpArgs false
namespace Go.AM
open Go.Proofs

set_option maxHeartbeats 600000 in
set_option linter.unusedSimpArgs false in
set_option maxRecDepth 100000 in
/-- laws.markText -/
theorem dc_laws_markText (k : Int) (hk : k ≤ 4611686018427387904) : DC Try.prog 137 [.int .i64 k] (.str (mt k)) [] := by
  refine DC.intro tiOk Try.func137 rfl rfl rfl rfl rfl rfl rfl rfl [] ?_
  refine AW.reg tiOk (fun _ => []) [0] ?_
  intro k hk; simp -dsimp [go_sem, -decide_eq_true_eq, -decide_eq_false_iff_not]
  repeat' (first | refine And.intro ?_ ?_ | refine hk _ ?_ | intro hg | omega | exact True.intro)
  all_goals clear hk k
  refine AW.seq ?_
  refine AW.reg tiOk (fun _ => []) [0, 5] ?_
  intro k hk; simp -dsimp [go_sem, -decide_eq_true_eq, -decide_eq_false_iff_not]
  repeat' (first | refine And.intro ?_ ?_ | refine hk _ ?_ | intro hg | omega | exact True.intro)
  all_goals clear hk k
  refine AW.cond rfl ?_ ?_
  · intro hc; try simp at hc
    all_goals (
      refine AW.reg tiOk (fun _ => []) [2] ?_
      intro k hk; simp -dsimp [go_sem, -decide_eq_true_eq, -decide_eq_false_iff_not]
      repeat' (first | refine And.intro ?_ ?_ | refine hk _ ?_ | intro hg | omega | exact True.intro)
      all_goals clear hk k
      refine AW.retF (ow := []) (muts := []) ?_ (fun h => And.intro (.inr rfl) h)
      first | (simp [go_sem, Try.results137, mt, *]; done) | (have hz := digs_zero (n := k'.toNat) (k := k') (acc := acc) (by simpa using hc); have hk0 : ¬ k ≤ 0 := (by omega); simp [go_sem, Try.results137, mt, hk0, h4, hz]))
  · intro hc; try simp at hc
    all_goals (
      refine AW.skipN (fun _ h => h) ?_
      refine AW.reg tiOk (fun _ => []) [0, 3] ?_
      intro k hk; simp -dsimp [go_sem, -decide_eq_true_eq, -decide_eq_false_iff_not]
      repeat' (first | refine And.intro ?_ ?_ | refine hk _ ?_ | intro hg | omega | exact True.intro)
      all_goals clear hk k
      refine AW.seq ?_
      refine AW.block ?_
      -- live at the loop's head: [0, 3]
      refine AW.loopI (fun i : Int × List UInt8 => ⟨20, [(0, .int .i64 i.1), (3, .str i.2)], []⟩) (fun i => 0 ≤ i.1 ∧ i.1 * 10 ^ i.2.length ≤ 4611686018427387904 ∧ i.2.length ≤ 19 ∧ digs k.toNat k [] = digs i.1.toNat i.1 i.2) (fun i => i.1.toNat) ((k, [])) (by refine ⟨by omega, by simp; omega, by simp, rfl⟩) (Less.of rfl (by simp [go_sem]) (by simp [go_sem])) ?_
      rintro ⟨k', acc⟩ ⟨h1, h2, h3, h4⟩
      simp only at h1 h2 h3 h4
      refine AW.seq ?_
      refine AW.reg tiOk (fun _ => []) [0, 3, 7] ?_
      intro k hk; simp -dsimp [go_sem, -decide_eq_true_eq, -decide_eq_false_iff_not]
      repeat' (first | refine And.intro ?_ ?_ | refine hk _ ?_ | intro hg | omega | exact True.intro)
      all_goals clear hk k
      refine AW.cond rfl ?_ ?_
      · intro hc; try simp at hc
        all_goals (
          have hlt : 0 < k' := by simpa using hc
          have htm : k'.tmod 10 = k' % 10 := Int.tmod_eq_emod_of_nonneg h1
          have htd : k'.tdiv 10 = k' / 10 := Int.tdiv_eq_ediv_of_nonneg h1
          have hkb := mt_big hlt h2
          have hw1 : IntKind.wrap .i64 (48 + k' % 10) = 48 + k' % 10 := wrap64 (by omega) (by omega)
          have hw2 : IntKind.wrap .i64 (k' / 10) = k' / 10 := wrap64 (by omega) (by omega)
          obtain ⟨hs1, hs2⟩ := mt_step hlt h2
          refine AW.skipN (fun _ h => h) ?_
          refine AW.block ?_
          refine AW.reg tiOk (fun _ => []) [0, 3] ?_
          intro k hk; simp -dsimp (maxSteps := 2000000) [go_sem, -decide_eq_true_eq, -decide_eq_false_iff_not, htm, htd, hw1, hw2]
          repeat' (first | refine And.intro ?_ ?_ | refine hk _ ?_ | intro hg | omega | exact True.intro)
          all_goals clear hk k
          refine AW.regK tiOk (fun _ => []) ?_
          intro k hk; simp -dsimp [go_sem, -decide_eq_true_eq, -decide_eq_false_iff_not, htm, htd, hw1, hw2]
          repeat' (first | refine And.intro ?_ ?_ | refine hk _ ?_ | intro hg | omega | exact True.intro)
          all_goals clear hk k
          show ∃ _, _
          refine ⟨(k' / 10, b8 (48 + k' % 10) :: acc), ⟨by simp only; omega, by simpa using hs2, by simp; omega, ?_⟩, by simp only; omega, Less.of rfl (by simp [go_sem, hw2]) (by simp [go_sem])⟩
          rw [h4, digs_step hlt])
      · intro hc; try simp at hc
        all_goals (
          refine AW.exitN (fun _ h => h) ?_
          refine AW.reg tiOk (fun _ => []) [2] ?_
          intro k hk; simp -dsimp [go_sem, -decide_eq_true_eq, -decide_eq_false_iff_not]
          repeat' (first | refine And.intro ?_ ?_ | refine hk _ ?_ | intro hg | omega | exact True.intro)
          all_goals clear hk k
          refine AW.retF (ow := []) (muts := []) ?_ (fun h => And.intro (.inr rfl) h)
          first | (simp [go_sem, Try.results137, mt, *]; done) | (have hz := digs_zero (n := k'.toNat) (k := k') (acc := acc) (by simpa using hc); have hk0 : ¬ k ≤ 0 := (by omega); simp [go_sem, Try.results137, mt, hk0, h4, hz])))

set_option maxHeartbeats 600000 in
set_option linter.unusedSimpArgs false in
set_option maxRecDepth 100000 in
/-- laws.markByteS -/
theorem dc_laws_markByteS (l : List UInt8) (k : Int) (hk : 0 ≤ k ∧ k + l.length ≤ 4611686018427387904) : DC Try.prog 50 [.osl 1 (l.map B1), .int .i64 k] (.int .i64 (k + l.length)) [(0, .osl 1 ((mkL b8 l.length k).map B1))] := by
  refine DC.intro tiOk Try.func50 rfl rfl rfl rfl rfl rfl rfl (by simp [noW, noWo]) [] ?_
  refine AW.reg tiOk (fun _ => []) [0, 1] ?_
  intro k hk; simp -dsimp [go_sem, -decide_eq_true_eq, -decide_eq_false_iff_not]
  repeat' (first | refine And.intro ?_ ?_ | refine hk _ ?_ | intro hg | omega | exact True.intro)
  all_goals clear hk k
  refine AW.seq ?_
  refine AW.reg tiOk (fun _ => []) [0, 1, 5] ?_
  intro k hk; simp -dsimp [go_sem, -decide_eq_true_eq, -decide_eq_false_iff_not]
  repeat' (first | refine And.intro ?_ ?_ | refine hk _ ?_ | intro hg | omega | exact True.intro)
  all_goals clear hk k
  refine AW.block ?_
  -- live at the loop's head: [0, 1, 5]
  refine AW.loopI (fun i : Nat => ⟨20, [(0, .sl 1900 1 0 l.length), (1, .int .i64 (k + i)), (5, .int .i64 i)], [(1900, some ⟨1, (mkP b8 l k i).map B1⟩)]⟩) (fun i => i ≤ l.length) (fun i => l.length - i) (0) (by simp) (Less.of rfl (by simp [go_sem]) (by simp [go_sem, mkP_zero])) ?_
  rintro i hi
  refine AW.seq ?_
  refine AW.reg tiOk (fun _ => []) [0, 1, 5, 9] ?_
  intro k hk; simp -dsimp [go_sem, -decide_eq_true_eq, -decide_eq_false_iff_not]
  repeat' (first | refine And.intro ?_ ?_ | refine hk _ ?_ | intro hg | omega | exact True.intro)
  all_goals clear hk k
  refine AW.cond rfl ?_ ?_
  · intro hc; try simp at hc
    all_goals (
      have hlt : i < l.length := by assumption
      obtain ⟨x, hx⟩ := at_some hlt
      have hp := mkP_len (f := b8) (k := k) hi
      have hp2 := mkP_at (f := b8) (k := k) hx
      have hwk : IntKind.wrap .i64 (k + (i : Int) + 1) = k + (i : Int) + 1 := wrap64 (by omega) (by omega)
      have hwk2 : IntKind.wrap .i64 (k + (i : Int)) = k + (i : Int) := wrap64 (by omega) (by omega)
      refine AW.skipN (fun _ h => h) ?_
      refine AW.seq ?_
      refine AW.block ?_
      refine AW.reg tiOk (fun _ => []) [0, 1, 5] ?_
      intro k hk; simp -dsimp [go_sem, -decide_eq_true_eq, -decide_eq_false_iff_not, hp, hp2, hwk, hwk2]
      repeat' (first | refine And.intro ?_ ?_ | refine hk _ ?_ | intro hg | omega | exact True.intro)
      all_goals clear hk k
      refine AW.regN tiOk (fun _ => []) [0, 1, 5] (fun _ h => h) ?_
      intro k hk; simp -dsimp [go_sem, -decide_eq_true_eq, -decide_eq_false_iff_not, hp, hp2, hwk, hwk2]
      repeat' (first | refine And.intro ?_ ?_ | refine hk _ ?_ | intro hg | omega | exact True.intro)
      all_goals clear hk k
      refine AW.regK tiOk (fun _ => []) ?_
      intro k hk; simp -dsimp [go_sem, -decide_eq_true_eq, -decide_eq_false_iff_not, hp, hp2, hwk, hwk2]
      repeat' (first | refine And.intro ?_ ?_ | refine hk _ ?_ | intro hg | omega | exact True.intro)
      all_goals clear hk k
      show ∃ _, _
      have hw := wrapi hlt (by omega)
      have hs := mkP_set (f := b8) (k := k) hlt
      refine ⟨i + 1, by omega, by omega, Less.of rfl (by simp [go_sem, hw]; omega) (by simp [go_sem, ← hs, List.map_set])⟩)
  · intro hc; try simp at hc
    all_goals (
      refine AW.exitN (fun _ h => h) ?_
      refine AW.reg tiOk (fun _ => []) [0, 4] ?_
      intro k hk; simp -dsimp [go_sem, -decide_eq_true_eq, -decide_eq_false_iff_not]
      repeat' (first | refine And.intro ?_ ?_ | refine hk _ ?_ | intro hg | omega | exact True.intro)
      all_goals clear hk k
      refine AW.retF (ow := []) (muts := [(0, .osl 1 ((mkL b8 l.length k).map B1))]) ?_ (fun h => And.intro (.inr rfl) h)
      obtain rfl : i = l.length := by omega
      simp [go_sem, Try.results50, mkP_end, mkL_len])

set_option maxHeartbeats 600000 in
set_option linter.unusedSimpArgs false in
set_option maxRecDepth 100000 in
/-- laws.markByteS -/
theorem dc_laws_markByteS_nil (k : Int) : DC Try.prog 50 [.isl 1 [], .int .i64 k] (.int .i64 k) [] := by
  refine DC.intro tiOk Try.func50 rfl rfl rfl rfl rfl rfl rfl rfl [] ?_
  refine AW.reg tiOk (fun _ => []) [0, 1] ?_
  intro k hk; simp -dsimp [go_sem, -decide_eq_true_eq, -decide_eq_false_iff_not]
  repeat' (first | refine And.intro ?_ ?_ | refine hk _ ?_ | intro hg | omega | exact True.intro)
  all_goals clear hk k
  refine AW.seq ?_
  refine AW.reg tiOk (fun _ => []) [0, 1, 5] ?_
  intro k hk; simp -dsimp [go_sem, -decide_eq_true_eq, -decide_eq_false_iff_not]
  repeat' (first | refine And.intro ?_ ?_ | refine hk _ ?_ | intro hg | omega | exact True.intro)
  all_goals clear hk k
  refine AW.block ?_
  -- live at the loop's head: [0, 1, 5]
  refine AW.loopI (fun _ : Nat => ⟨20, [(0, .isl 1 []), (1, .int .i64 k), (5, .int .i64 0)], []⟩) (fun _ => True) (fun _ => 0) (0) (trivial) (Less.of rfl (by simp [go_sem]) (by simp [go_sem])) ?_
  rintro i _
  refine AW.seq ?_
  refine AW.reg tiOk (fun _ => []) [0, 1, 5, 9] ?_
  intro k hk; simp -dsimp [go_sem, -decide_eq_true_eq, -decide_eq_false_iff_not]
  repeat' (first | refine And.intro ?_ ?_ | refine hk _ ?_ | intro hg | omega | exact True.intro)
  all_goals clear hk k
  refine AW.cond rfl ?_ ?_
  · intro hc; try simp at hc
    all_goals (
      refine AW.skipN (fun _ h => h) ?_
      refine AW.seq ?_
      refine AW.block ?_
      refine AW.reg tiOk (fun _ => []) [0, 1, 5] ?_
      intro k hk; simp -dsimp [go_sem, -decide_eq_true_eq, -decide_eq_false_iff_not]
      repeat' (first | refine And.intro ?_ ?_ | refine hk _ ?_ | intro hg | omega | exact True.intro)
      all_goals clear hk k
      refine AW.regN tiOk (fun _ => []) [0, 1, 5] (fun _ h => h) ?_
      intro k hk; simp -dsimp [go_sem, -decide_eq_true_eq, -decide_eq_false_iff_not]
      repeat' (first | refine And.intro ?_ ?_ | refine hk _ ?_ | intro hg | omega | exact True.intro)
      all_goals clear hk k
      refine AW.regK tiOk (fun _ => []) ?_
      intro k hk; simp -dsimp [go_sem, -decide_eq_true_eq, -decide_eq_false_iff_not]
      repeat' (first | refine And.intro ?_ ?_ | refine hk _ ?_ | intro hg | omega | exact True.intro)
      all_goals clear hk k
      show ∃ _, _
      exact absurd hc (by simp))
  · intro hc; try simp at hc
    all_goals (
      refine AW.exitN (fun _ h => h) ?_
      refine AW.reg tiOk (fun _ => []) [4] ?_
      intro k hk; simp -dsimp [go_sem, -decide_eq_true_eq, -decide_eq_false_iff_not]
      repeat' (first | refine And.intro ?_ ?_ | refine hk _ ?_ | intro hg | omega | exact True.intro)
      all_goals clear hk k
      refine AW.retF (ow := []) (muts := []) ?_ (fun h => And.intro (.inr rfl) h)
      simp [go_sem, Try.results50])

set_option maxHeartbeats 600000 in
set_option linter.unusedSimpArgs false in
set_option maxRecDepth 100000 in
/-- laws.heldByteS -/
theorem dc_laws_heldByteS (n : Nat) (k : Int) (hk : 0 ≤ k ∧ k + n ≤ 4611686018427387904) : DC Try.prog 95 [.isl 1 ((mkL b8 n k).map B1), .int .i64 k] (.int .i64 (k + n)) [] := by
  have hml := mkL_len (f := b8) (n := n) (k := k)
  refine DC.intro tiOk Try.func95 rfl rfl rfl rfl rfl rfl rfl rfl [] ?_
  refine AW.reg tiOk (fun _ => []) [0, 1] ?_
  intro k hk; simp -dsimp [go_sem, -decide_eq_true_eq, -decide_eq_false_iff_not, hml]
  repeat' (first | refine And.intro ?_ ?_ | refine hk _ ?_ | intro hg | omega | exact True.intro)
  all_goals clear hk k
  refine AW.seq ?_
  refine AW.reg tiOk (fun _ => []) [0, 1, 5] ?_
  intro k hk; simp -dsimp [go_sem, -decide_eq_true_eq, -decide_eq_false_iff_not, hml]
  repeat' (first | refine And.intro ?_ ?_ | refine hk _ ?_ | intro hg | omega | exact True.intro)
  all_goals clear hk k
  refine AW.block ?_
  -- live at the loop's head: [0, 1, 5]
  refine AW.loopI (fun i : Nat => ⟨22, [(0, .isl 1 ((mkL b8 n k).map B1)), (1, .int .i64 (k + i)), (5, .int .i64 i)], []⟩) (fun i => i ≤ n) (fun i => n - i) (0) (by simp) (Less.of rfl (by simp [go_sem]) (by simp [go_sem])) ?_
  rintro i hi
  refine AW.seq ?_
  refine AW.reg tiOk (fun _ => []) [0, 1, 5, 9] ?_
  intro k hk; simp -dsimp [go_sem, -decide_eq_true_eq, -decide_eq_false_iff_not, hml]
  repeat' (first | refine And.intro ?_ ?_ | refine hk _ ?_ | intro hg | omega | exact True.intro)
  all_goals clear hk k
  refine AW.cond rfl ?_ ?_
  · intro hc; try simp at hc
    all_goals (
      have hlt : i < n := by assumption
      have hx := mkL_at (f := b8) (k := k) hlt
      have hwk : IntKind.wrap .i64 (k + (i : Int) + 1) = k + (i : Int) + 1 := wrap64 (by omega) (by omega)
      have hwk2 : IntKind.wrap .i64 (k + (i : Int)) = k + (i : Int) := wrap64 (by omega) (by omega)
      refine AW.skipN (fun _ h => h) ?_
      refine AW.seq ?_
      refine AW.block ?_
      refine AW.seq ?_
      refine AW.reg tiOk (fun _ => []) [0, 1, 5, 18] ?_
      intro k hk; simp -dsimp (maxSteps := 2000000) [go_sem, -decide_eq_true_eq, -decide_eq_false_iff_not, hml, hx, hwk, hwk2]
      repeat' (first | refine And.intro ?_ ?_ | refine hk _ ?_ | intro hg | omega | exact True.intro)
      all_goals clear hk k
      refine AW.cond rfl ?_ ?_
      · intro hc; try simp at hc
        all_goals (
          refine AW.reg tiOk (fun _ => []) [4] ?_
          intro k hk; simp -dsimp [go_sem, -decide_eq_true_eq, -decide_eq_false_iff_not, hml, hx, hwk, hwk2]
          repeat' (first | refine And.intro ?_ ?_ | refine hk _ ?_ | intro hg | omega | exact True.intro)
          all_goals clear hk k
          refine AW.retF (ow := []) (muts := []) ?_ (fun h => And.intro (.inr rfl) h)
          obtain rfl : i = n := by omega
          simp [go_sem, Try.results95])
      · intro hc; try simp at hc
        all_goals (
          refine AW.skipN (fun _ h => h) ?_
          refine AW.regN tiOk (fun _ => []) [0, 1, 5] (fun _ h => h) ?_
          intro k hk; simp -dsimp [go_sem, -decide_eq_true_eq, -decide_eq_false_iff_not, hml, hx, hwk, hwk2]
          repeat' (first | refine And.intro ?_ ?_ | refine hk _ ?_ | intro hg | omega | exact True.intro)
          all_goals clear hk k
          refine AW.regK tiOk (fun _ => []) ?_
          intro k hk; simp -dsimp [go_sem, -decide_eq_true_eq, -decide_eq_false_iff_not, hml, hx, hwk, hwk2]
          repeat' (first | refine And.intro ?_ ?_ | refine hk _ ?_ | intro hg | omega | exact True.intro)
          all_goals clear hk k
          show ∃ _, _
          have hw := wrapi hlt (by omega)
          refine ⟨i + 1, by omega, by omega, Less.of rfl (by simp [go_sem, hw]; omega) (by simp [go_sem])⟩))
  · intro hc; try simp at hc
    all_goals (
      refine AW.exitN (fun _ h => h) ?_
      refine AW.reg tiOk (fun _ => []) [4] ?_
      intro k hk; simp -dsimp [go_sem, -decide_eq_true_eq, -decide_eq_false_iff_not, hml]
      repeat' (first | refine And.intro ?_ ?_ | refine hk _ ?_ | intro hg | omega | exact True.intro)
      all_goals clear hk k
      refine AW.retF (ow := []) (muts := []) ?_ (fun h => And.intro (.inr rfl) h)
      obtain rfl : i = n := by omega
      simp [go_sem, Try.results95])

set_option maxHeartbeats 600000 in
set_option linter.unusedSimpArgs false in
set_option maxRecDepth 100000 in
/-- laws.heldByteS -/
theorem dc_laws_heldByteS_nil (k : Int) : DC Try.prog 95 [.isl 1 [], .int .i64 k] (.int .i64 k) [] := by
  refine DC.intro tiOk Try.func95 rfl rfl rfl rfl rfl rfl rfl rfl [] ?_
  refine AW.reg tiOk (fun _ => []) [0, 1] ?_
  intro k hk; simp -dsimp [go_sem, -decide_eq_true_eq, -decide_eq_false_iff_not]
  repeat' (first | refine And.intro ?_ ?_ | refine hk _ ?_ | intro hg | omega | exact True.intro)
  all_goals clear hk k
  refine AW.seq ?_
  refine AW.reg tiOk (fun _ => []) [0, 1, 5] ?_
  intro k hk; simp -dsimp [go_sem, -decide_eq_true_eq, -decide_eq_false_iff_not]
  repeat' (first | refine And.intro ?_ ?_ | refine hk _ ?_ | intro hg | omega | exact True.intro)
  all_goals clear hk k
  refine AW.block ?_
  -- live at the loop's head: [0, 1, 5]
  refine AW.loopI (fun _ : Nat => ⟨22, [(0, .isl 1 []), (1, .int .i64 k), (5, .int .i64 0)], []⟩) (fun _ => True) (fun _ => 0) (0) (trivial) (Less.of rfl (by simp [go_sem]) (by simp [go_sem])) ?_
  rintro i _
  refine AW.seq ?_
  refine AW.reg tiOk (fun _ => []) [0, 1, 5, 9] ?_
  intro k hk; simp -dsimp [go_sem, -decide_eq_true_eq, -decide_eq_false_iff_not]
  repeat' (first | refine And.intro ?_ ?_ | refine hk _ ?_ | intro hg | omega | exact True.intro)
  all_goals clear hk k
  refine AW.cond rfl ?_ ?_
  · intro hc; try simp at hc
    all_goals (
      refine AW.skipN (fun _ h => h) ?_
      refine AW.seq ?_
      refine AW.block ?_
      refine AW.seq ?_
      refine AW.reg tiOk (fun _ => []) [0, 1, 5, 18] ?_
      intro k hk; simp -dsimp (maxSteps := 2000000) [go_sem, -decide_eq_true_eq, -decide_eq_false_iff_not]
      repeat' (first | refine And.intro ?_ ?_ | refine hk _ ?_ | intro hg | omega | exact True.intro)
      all_goals clear hk k
      refine AW.cond rfl ?_ ?_
      · intro hc; try simp at hc
        all_goals (
          refine AW.reg tiOk (fun _ => []) [4] ?_
          intro k hk; simp -dsimp [go_sem, -decide_eq_true_eq, -decide_eq_false_iff_not]
          repeat' (first | refine And.intro ?_ ?_ | refine hk _ ?_ | intro hg | omega | exact True.intro)
          all_goals clear hk k
          refine AW.retF (ow := []) (muts := []) ?_ (fun h => And.intro (.inr rfl) h)
          simp [go_sem, Try.results95])
      · intro hc; try simp at hc
        all_goals (
          refine AW.skipN (fun _ h => h) ?_
          refine AW.regN tiOk (fun _ => []) [0, 1, 5] (fun _ h => h) ?_
          intro k hk; simp -dsimp [go_sem, -decide_eq_true_eq, -decide_eq_false_iff_not]
          repeat' (first | refine And.intro ?_ ?_ | refine hk _ ?_ | intro hg | omega | exact True.intro)
          all_goals clear hk k
          refine AW.regK tiOk (fun _ => []) ?_
          intro k hk; simp -dsimp [go_sem, -decide_eq_true_eq, -decide_eq_false_iff_not]
          repeat' (first | refine And.intro ?_ ?_ | refine hk _ ?_ | intro hg | omega | exact True.intro)
          all_goals clear hk k
          show ∃ _, _
          exact absurd hc (by simp)))
  · intro hc; try simp at hc
    all_goals (
      refine AW.exitN (fun _ h => h) ?_
      refine AW.reg tiOk (fun _ => []) [4] ?_
      intro k hk; simp -dsimp [go_sem, -decide_eq_true_eq, -decide_eq_false_iff_not]
      repeat' (first | refine And.intro ?_ ?_ | refine hk _ ?_ | intro hg | omega | exact True.intro)
      all_goals clear hk k
      refine AW.retF (ow := []) (muts := []) ?_ (fun h => And.intro (.inr rfl) h)
      simp [go_sem, Try.results95])

set_option maxHeartbeats 600000 in
set_option linter.unusedSimpArgs false in
set_option maxRecDepth 100000 in
/-- laws.markStringS -/
theorem dc_laws_markStringS (l : List (List UInt8)) (k : Int) (hk : 0 ≤ k ∧ k + l.length ≤ 4611686018427387904) : DC Try.prog 104 [.osl 1 (l.map S1), .int .i64 k] (.int .i64 (k + l.length)) [(0, .osl 1 ((mkL mt l.length k).map S1))] := by
  refine DC.intro tiOk Try.func104 rfl rfl rfl rfl rfl rfl rfl (by simp [noW, noWo]) [] ?_
  refine AW.reg tiOk (fun _ => []) [0, 1] ?_
  intro k hk; simp -dsimp [go_sem, -decide_eq_true_eq, -decide_eq_false_iff_not]
  repeat' (first | refine And.intro ?_ ?_ | refine hk _ ?_ | intro hg | omega | exact True.intro)
  all_goals clear hk k
  refine AW.seq ?_
  refine AW.reg tiOk (fun _ => []) [0, 1, 5] ?_
  intro k hk; simp -dsimp [go_sem, -decide_eq_true_eq, -decide_eq_false_iff_not]
  repeat' (first | refine And.intro ?_ ?_ | refine hk _ ?_ | intro hg | omega | exact True.intro)
  all_goals clear hk k
  refine AW.block ?_
  -- live at the loop's head: [0, 1, 5]
  refine AW.loopI (fun i : Nat => ⟨20, [(0, .sl 1900 1 0 l.length), (1, .int .i64 (k + i)), (5, .int .i64 i)], [(1900, some ⟨1, (mkP mt l k i).map S1⟩)]⟩) (fun i => i ≤ l.length) (fun i => l.length - i) (0) (by simp) (Less.of rfl (by simp [go_sem]) (by simp [go_sem, mkP_zero])) ?_
  rintro i hi
  refine AW.seq ?_
  refine AW.reg tiOk (fun _ => []) [0, 1, 5, 9] ?_
  intro k hk; simp -dsimp [go_sem, -decide_eq_true_eq, -decide_eq_false_iff_not]
  repeat' (first | refine And.intro ?_ ?_ | refine hk _ ?_ | intro hg | omega | exact True.intro)
  all_goals clear hk k
  refine AW.cond rfl ?_ ?_
  · intro hc; try simp at hc
    all_goals (
      have hlt : i < l.length := by assumption
      obtain ⟨x, hx⟩ := at_some hlt
      have hp := mkP_len (f := mt) (k := k) hi
      have hp2 := mkP_at (f := mt) (k := k) hx
      have hwk : IntKind.wrap .i64 (k + (i : Int) + 1) = k + (i : Int) + 1 := wrap64 (by omega) (by omega)
      have hwk2 : IntKind.wrap .i64 (k + (i : Int)) = k + (i : Int) := wrap64 (by omega) (by omega)
      refine AW.skipN (fun _ h => h) ?_
      refine AW.seq ?_
      refine AW.block ?_
      refine AW.reg tiOk (fun _ => []) [0, 1, 5] ?_
      intro k hk; simp -dsimp (maxSteps := 2000000) [go_sem, -decide_eq_true_eq, -decide_eq_false_iff_not, hp, hp2, hwk, hwk2]
      repeat' (first | refine And.intro ?_ ?_ | refine hk _ ?_ | intro hg | (refine CallK.intro (dc_laws_markText _ (by omega)) ?_; simp -dsimp (maxSteps := 2000000) [go_sem, -decide_eq_true_eq, -decide_eq_false_iff_not, hp, hp2, hwk, hwk2]) | omega | exact True.intro)
      all_goals clear hk k
      refine AW.regN tiOk (fun _ => []) [0, 1, 5] (fun _ h => h) ?_
      intro k hk; simp -dsimp [go_sem, -decide_eq_true_eq, -decide_eq_false_iff_not, hp, hp2, hwk, hwk2]
      repeat' (first | refine And.intro ?_ ?_ | refine hk _ ?_ | intro hg | omega | exact True.intro)
      all_goals clear hk k
      refine AW.regK tiOk (fun _ => []) ?_
      intro k hk; simp -dsimp [go_sem, -decide_eq_true_eq, -decide_eq_false_iff_not, hp, hp2, hwk, hwk2]
      repeat' (first | refine And.intro ?_ ?_ | refine hk _ ?_ | intro hg | omega | exact True.intro)
      all_goals clear hk k
      show ∃ _, _
      have hw := wrapi hlt (by omega)
      have hs := mkP_set (f := mt) (k := k) hlt
      refine ⟨i + 1, by omega, by omega, Less.of rfl (by simp [go_sem, hw]; omega) (by simp [go_sem, ← hs, List.map_set])⟩)
  · intro hc; try simp at hc
    all_goals (
      refine AW.exitN (fun _ h => h) ?_
      refine AW.reg tiOk (fun _ => []) [0, 4] ?_
      intro k hk; simp -dsimp [go_sem, -decide_eq_true_eq, -decide_eq_false_iff_not]
      repeat' (first | refine And.intro ?_ ?_ | refine hk _ ?_ | intro hg | omega | exact True.intro)
      all_goals clear hk k
      refine AW.retF (ow := []) (muts := [(0, .osl 1 ((mkL mt l.length k).map S1))]) ?_ (fun h => And.intro (.inr rfl) h)
      obtain rfl : i = l.length := by omega
      simp [go_sem, Try.results104, mkP_end, mkL_len])

set_option maxHeartbeats 600000 in
set_option linter.unusedSimpArgs false in
set_option maxRecDepth 100000 in
/-- laws.markStringS -/
theorem dc_laws_markStringS_nil (k : Int) : DC Try.prog 104 [.isl 1 [], .int .i64 k] (.int .i64 k) [] := by
  refine DC.intro tiOk Try.func104 rfl rfl rfl rfl rfl rfl rfl rfl [] ?_
  refine AW.reg tiOk (fun _ => []) [0, 1] ?_
  intro k hk; simp -dsimp [go_sem, -decide_eq_true_eq, -decide_eq_false_iff_not]
  repeat' (first | refine And.intro ?_ ?_ | refine hk _ ?_ | intro hg | omega | exact True.intro)
  all_goals clear hk k
  refine AW.seq ?_
  refine AW.reg tiOk (fun _ => []) [0, 1, 5] ?_
  intro k hk; simp -dsimp [go_sem, -decide_eq_true_eq, -decide_eq_false_iff_not]
  repeat' (first | refine And.intro ?_ ?_ | refine hk _ ?_ | intro hg | omega | exact True.intro)
  all_goals clear hk k
  refine AW.block ?_
  -- live at the loop's head: [0, 1, 5]
  refine AW.loopI (fun _ : Nat => ⟨20, [(0, .isl 1 []), (1, .int .i64 k), (5, .int .i64 0)], []⟩) (fun _ => True) (fun _ => 0) (0) (trivial) (Less.of rfl (by simp [go_sem]) (by simp [go_sem])) ?_
  rintro i _
  refine AW.seq ?_
  refine AW.reg tiOk (fun _ => []) [0, 1, 5, 9] ?_
  intro k hk; simp -dsimp [go_sem, -decide_eq_true_eq, -decide_eq_false_iff_not]
  repeat' (first | refine And.intro ?_ ?_ | refine hk _ ?_ | intro hg | omega | exact True.intro)
  all_goals clear hk k
  refine AW.cond rfl ?_ ?_
  · intro hc; try simp at hc
    all_goals (
      refine AW.skipN (fun _ h => h) ?_
      refine AW.seq ?_
      refine AW.block ?_
      refine AW.reg tiOk (fun _ => []) [0, 1, 5] ?_
      intro k hk; simp -dsimp (maxSteps := 2000000) [go_sem, -decide_eq_true_eq, -decide_eq_false_iff_not]
      repeat' (first | refine And.intro ?_ ?_ | refine hk _ ?_ | intro hg | (refine CallK.intro (dc_laws_markText _ (by omega)) ?_; simp -dsimp (maxSteps := 2000000) [go_sem, -decide_eq_true_eq, -decide_eq_false_iff_not]) | omega | exact True.intro)
      all_goals clear hk k
      refine AW.regN tiOk (fun _ => []) [0, 1, 5] (fun _ h => h) ?_
      intro k hk; simp -dsimp [go_sem, -decide_eq_true_eq, -decide_eq_false_iff_not]
      repeat' (first | refine And.intro ?_ ?_ | refine hk _ ?_ | intro hg | omega | exact True.intro)
      all_goals clear hk k
      refine AW.regK tiOk (fun _ => []) ?_
      intro k hk; simp -dsimp [go_sem, -decide_eq_true_eq, -decide_eq_false_iff_not]
      repeat' (first | refine And.intro ?_ ?_ | refine hk _ ?_ | intro hg | omega | exact True.intro)
      all_goals clear hk k
      show ∃ _, _
      exact absurd hc (by simp))
  · intro hc; try simp at hc
    all_goals (
      refine AW.exitN (fun _ h => h) ?_
      refine AW.reg tiOk (fun _ => []) [4] ?_
      intro k hk; simp -dsimp [go_sem, -decide_eq_true_eq, -decide_eq_false_iff_not]
      repeat' (first | refine And.intro ?_ ?_ | refine hk _ ?_ | intro hg | omega | exact True.intro)
      all_goals clear hk k
      refine AW.retF (ow := []) (muts := []) ?_ (fun h => And.intro (.inr rfl) h)
      simp [go_sem, Try.results104])

set_option maxHeartbeats 600000 in
set_option linter.unusedSimpArgs false in
set_option maxRecDepth 100000 in
/-- laws.heldStringS -/
theorem dc_laws_heldStringS (n : Nat) (k : Int) (hk : 0 ≤ k ∧ k + n ≤ 4611686018427387904) : DC Try.prog 105 [.isl 1 ((mkL mt n k).map S1), .int .i64 k] (.int .i64 (k + n)) [] := by
  have hml := mkL_len (f := mt) (n := n) (k := k)
  refine DC.intro tiOk Try.func105 rfl rfl rfl rfl rfl rfl rfl rfl [] ?_
  refine AW.reg tiOk (fun _ => []) [0, 1] ?_
  intro k hk; simp -dsimp [go_sem, -decide_eq_true_eq, -decide_eq_false_iff_not, hml]
  repeat' (first | refine And.intro ?_ ?_ | refine hk _ ?_ | intro hg | omega | exact True.intro)
  all_goals clear hk k
  refine AW.seq ?_
  refine AW.reg tiOk (fun _ => []) [0, 1, 5] ?_
  intro k hk; simp -dsimp [go_sem, -decide_eq_true_eq, -decide_eq_false_iff_not, hml]
  repeat' (first | refine And.intro ?_ ?_ | refine hk _ ?_ | intro hg | omega | exact True.intro)
  all_goals clear hk k
  refine AW.block ?_
  -- live at the loop's head: [0, 1, 5]
  refine AW.loopI (fun i : Nat => ⟨22, [(0, .isl 1 ((mkL mt n k).map S1)), (1, .int .i64 (k + i)), (5, .int .i64 i)], []⟩) (fun i => i ≤ n) (fun i => n - i) (0) (by simp) (Less.of rfl (by simp [go_sem]) (by simp [go_sem])) ?_
  rintro i hi
  refine AW.seq ?_
  refine AW.reg tiOk (fun _ => []) [0, 1, 5, 9] ?_
  intro k hk; simp -dsimp [go_sem, -decide_eq_true_eq, -decide_eq_false_iff_not, hml]
  repeat' (first | refine And.intro ?_ ?_ | refine hk _ ?_ | intro hg | omega | exact True.intro)
  all_goals clear hk k
  refine AW.cond rfl ?_ ?_
  · intro hc; try simp at hc
    all_goals (
      have hlt : i < n := by assumption
      have hx := mkL_at (f := mt) (k := k) hlt
      have hwk : IntKind.wrap .i64 (k + (i : Int) + 1) = k + (i : Int) + 1 := wrap64 (by omega) (by omega)
      have hwk2 : IntKind.wrap .i64 (k + (i : Int)) = k + (i : Int) := wrap64 (by omega) (by omega)
      refine AW.skipN (fun _ h => h) ?_
      refine AW.seq ?_
      refine AW.block ?_
      refine AW.seq ?_
      refine AW.reg tiOk (fun _ => []) [0, 1, 5, 18] ?_
      intro k hk; simp -dsimp (maxSteps := 2000000) [go_sem, -decide_eq_true_eq, -decide_eq_false_iff_not, hml, hx, hwk, hwk2]
      repeat' (first | refine And.intro ?_ ?_ | (refine Chk.keys ?_; simp only [go_sem, List.map_cons, List.map_nil, List.flatMap_cons, List.flatMap_nil, List.flatMap_append, List.append_nil, List.nil_append, List.cons_append]; decide +kernel) | refine hk _ ?_ | intro hg | (refine CallK.intro (dc_laws_markText _ (by omega)) ?_; simp -dsimp (maxSteps := 2000000) [go_sem, -decide_eq_true_eq, -decide_eq_false_iff_not, hml, hx, hwk, hwk2]) | omega | exact True.intro)
      all_goals clear hk k
      refine AW.cond rfl ?_ ?_
      · intro hc; try simp at hc
        all_goals (
          refine AW.reg tiOk (fun _ => []) [4] ?_
          intro k hk; simp -dsimp [go_sem, -decide_eq_true_eq, -decide_eq_false_iff_not, hml, hx, hwk, hwk2]
          repeat' (first | refine And.intro ?_ ?_ | refine hk _ ?_ | intro hg | omega | exact True.intro)
          all_goals clear hk k
          refine AW.retF (ow := []) (muts := []) ?_ (fun h => And.intro (.inr rfl) h)
          obtain rfl : i = n := by omega
          simp [go_sem, Try.results105])
      · intro hc; try simp at hc
        all_goals (
          refine AW.skipN (fun _ h => h) ?_
          refine AW.regN tiOk (fun _ => []) [0, 1, 5] (fun _ h => h) ?_
          intro k hk; simp -dsimp [go_sem, -decide_eq_true_eq, -decide_eq_false_iff_not, hml, hx, hwk, hwk2]
          repeat' (first | refine And.intro ?_ ?_ | refine hk _ ?_ | intro hg | omega | exact True.intro)
          all_goals clear hk k
          refine AW.regK tiOk (fun _ => []) ?_
          intro k hk; simp -dsimp [go_sem, -decide_eq_true_eq, -decide_eq_false_iff_not, hml, hx, hwk, hwk2]
          repeat' (first | refine And.intro ?_ ?_ | refine hk _ ?_ | intro hg | omega | exact True.intro)
          all_goals clear hk k
          show ∃ _, _
          have hw := wrapi hlt (by omega)
          refine ⟨i + 1, by omega, by omega, Less.of rfl (by simp [go_sem, hw]; omega) (by simp [go_sem])⟩))
  · intro hc; try simp at hc
    all_goals (
      refine AW.exitN (fun _ h => h) ?_
      refine AW.reg tiOk (fun _ => []) [4] ?_
      intro k hk; simp -dsimp [go_sem, -decide_eq_true_eq, -decide_eq_false_iff_not, hml]
      repeat' (first | refine And.intro ?_ ?_ | refine hk _ ?_ | intro hg | omega | exact True.intro)
      all_goals clear hk k
      refine AW.retF (ow := []) (muts := []) ?_ (fun h => And.intro (.inr rfl) h)
      obtain rfl : i = n := by omega
      simp [go_sem, Try.results105])

set_option maxHeartbeats 600000 in
set_option linter.unusedSimpArgs false in
set_option maxRecDepth 100000 in
/-- laws.heldStringS -/
theorem dc_laws_heldStringS_nil (k : Int) : DC Try.prog 105 [.isl 1 [], .int .i64 k] (.int .i64 k) [] := by
  refine DC.intro tiOk Try.func105 rfl rfl rfl rfl rfl rfl rfl rfl [] ?_
  refine AW.reg tiOk (fun _ => []) [0, 1] ?_
  intro k hk; simp -dsimp [go_sem, -decide_eq_true_eq, -decide_eq_false_iff_not]
  repeat' (first | refine And.intro ?_ ?_ | refine hk _ ?_ | intro hg | omega | exact True.intro)
  all_goals clear hk k
  refine AW.seq ?_
  refine AW.reg tiOk (fun _ => []) [0, 1, 5] ?_
  intro k hk; simp -dsimp [go_sem, -decide_eq_true_eq, -decide_eq_false_iff_not]
  repeat' (first | refine And.intro ?_ ?_ | refine hk _ ?_ | intro hg | omega | exact True.intro)
  all_goals clear hk k
  refine AW.block ?_
  -- live at the loop's head: [0, 1, 5]
  refine AW.loopI (fun _ : Nat => ⟨22, [(0, .isl 1 []), (1, .int .i64 k), (5, .int .i64 0)], []⟩) (fun _ => True) (fun _ => 0) (0) (trivial) (Less.of rfl (by simp [go_sem]) (by simp [go_sem])) ?_
  rintro i _
  refine AW.seq ?_
  refine AW.reg tiOk (fun _ => []) [0, 1, 5, 9] ?_
  intro k hk; simp -dsimp [go_sem, -decide_eq_true_eq, -decide_eq_false_iff_not]
  repeat' (first | refine And.intro ?_ ?_ | refine hk _ ?_ | intro hg | omega | exact True.intro)
  all_goals clear hk k
  refine AW.cond rfl ?_ ?_
  · intro hc; try simp at hc
    all_goals (
      refine AW.skipN (fun _ h => h) ?_
      refine AW.seq ?_
      refine AW.block ?_
      refine AW.seq ?_
      refine AW.reg tiOk (fun _ => []) [0, 1, 5, 18] ?_
      intro k hk; simp -dsimp (maxSteps := 2000000) [go_sem, -decide_eq_true_eq, -decide_eq_false_iff_not]
      repeat' (first | refine And.intro ?_ ?_ | (refine Chk.keys ?_; simp only [go_sem, List.map_cons, List.map_nil, List.flatMap_cons, List.flatMap_nil, List.flatMap_append, List.append_nil, List.nil_append, List.cons_append]; decide +kernel) | refine hk _ ?_ | intro hg | (refine CallK.intro (dc_laws_markText _ (by omega)) ?_; simp -dsimp (maxSteps := 2000000) [go_sem, -decide_eq_true_eq, -decide_eq_false_iff_not]) | omega | exact True.intro)
      all_goals clear hk k
      refine AW.cond rfl ?_ ?_
      · intro hc; try simp at hc
        all_goals (
          refine AW.reg tiOk (fun _ => []) [4] ?_
          intro k hk; simp -dsimp [go_sem, -decide_eq_true_eq, -decide_eq_false_iff_not]
          repeat' (first | refine And.intro ?_ ?_ | refine hk _ ?_ | intro hg | omega | exact True.intro)
          all_goals clear hk k
          refine AW.retF (ow := []) (muts := []) ?_ (fun h => And.intro (.inr rfl) h)
          simp [go_sem, Try.results105])
      · intro hc; try simp at hc
        all_goals (
          refine AW.skipN (fun _ h => h) ?_
          refine AW.regN tiOk (fun _ => []) [0, 1, 5] (fun _ h => h) ?_
          intro k hk; simp -dsimp [go_sem, -decide_eq_true_eq, -decide_eq_false_iff_not]
          repeat' (first | refine And.intro ?_ ?_ | refine hk _ ?_ | intro hg | omega | exact True.intro)
          all_goals clear hk k
          refine AW.regK tiOk (fun _ => []) ?_
          intro k hk; simp -dsimp [go_sem, -decide_eq_true_eq, -decide_eq_false_iff_not]
          repeat' (first | refine And.intro ?_ ?_ | refine hk _ ?_ | intro hg | omega | exact True.intro)
          all_goals clear hk k
          show ∃ _, _
          exact absurd hc (by simp)))
  · intro hc; try simp at hc
    all_goals (
      refine AW.exitN (fun _ h => h) ?_
      refine AW.reg tiOk (fun _ => []) [4] ?_
      intro k hk; simp -dsimp [go_sem, -decide_eq_true_eq, -decide_eq_false_iff_not]
      repeat' (first | refine And.intro ?_ ?_ | refine hk _ ?_ | intro hg | omega | exact True.intro)
      all_goals clear hk k
      refine AW.retF (ow := []) (muts := []) ?_ (fun h => And.intro (.inr rfl) h)
      simp [go_sem, Try.results105])

set_option maxHeartbeats 600000 in
set_option linter.unusedSimpArgs false in
set_option maxRecDepth 100000 in
/-- laws.eqBytesResult -/
theorem dc_laws_eqBytesResult (a b : TBytesResult) (hg : a.gok) : DC Try.prog 37 [.agg a.ro, .agg b.ro] (.bool (decide (a = b))) [] := by
  have h0 := hg
  unfold TBytesResult.gok at h0
  refine DC.intro tiOk Try.func37 rfl rfl rfl rfl rfl rfl rfl rfl [] ?_
  refine AW.reg tiOk (fun _ => []) [2, 3] ?_
  intro k hk; simp -dsimp [go_sem, -decide_eq_true_eq, -decide_eq_false_iff_not]
  repeat' (first | refine And.intro ?_ ?_ | refine hk _ ?_ | intro hg | omega | exact True.intro)
  all_goals clear hk k
  refine AW.seq ?_
  refine AW.reg tiOk (fun _ => []) [2, 3, 9] ?_
  intro k hk; simp -dsimp [go_sem, -decide_eq_true_eq, -decide_eq_false_iff_not]
  repeat' (first | refine And.intro ?_ ?_ | refine hk _ ?_ | intro hg | omega | exact True.intro)
  all_goals clear hk k
  refine AW.cond rfl ?_ ?_
  · intro hc; try simp at hc
    all_goals (
      refine AW.reg tiOk (fun _ => []) [4] ?_
      intro k hk; simp -dsimp [go_sem, -decide_eq_true_eq, -decide_eq_false_iff_not]
      repeat' (first | refine And.intro ?_ ?_ | refine hk _ ?_ | intro hg | omega | exact True.intro)
      all_goals clear hk k
      refine AW.retF (ow := []) (muts := []) ?_ (fun h => And.intro (.inr rfl) h)
      cases a; cases b; simp [go_sem, Try.results37] at *; simp [*])
  · intro hc; try simp at hc
    all_goals (
      refine AW.skipN (fun _ h => h) ?_
      refine AW.seq ?_
      refine AW.reg tiOk (fun _ => []) [15] ?_
      intro k hk; simp -dsimp (maxSteps := 2000000) [go_sem, -decide_eq_true_eq, -decide_eq_false_iff_not]
      repeat' (first | refine And.intro ?_ ?_ | refine hk _ ?_ | intro hg | (refine CallK.intro (dc_laws_eqByteS _ _ (by assumption)) ?_; simp -dsimp (maxSteps := 2000000) [go_sem, -decide_eq_true_eq, -decide_eq_false_iff_not]) | omega | exact True.intro)
      all_goals clear hk k
      refine AW.cond rfl ?_ ?_
      · intro hc; try simp at hc
        all_goals (
          refine AW.reg tiOk (fun _ => []) [4] ?_
          intro k hk; simp -dsimp [go_sem, -decide_eq_true_eq, -decide_eq_false_iff_not]
          repeat' (first | refine And.intro ?_ ?_ | refine hk _ ?_ | intro hg | omega | exact True.intro)
          all_goals clear hk k
          refine AW.retF (ow := []) (muts := []) ?_ (fun h => And.intro (.inr rfl) h)
          cases a; cases b; simp [go_sem, Try.results37] at *; simp [*])
      · intro hc; try simp at hc
        all_goals (
          refine AW.skipN (fun _ h => h) ?_
          refine AW.reg tiOk (fun _ => []) [4] ?_
          intro k hk; simp -dsimp [go_sem, -decide_eq_true_eq, -decide_eq_false_iff_not]
          repeat' (first | refine And.intro ?_ ?_ | refine hk _ ?_ | intro hg | omega | exact True.intro)
          all_goals clear hk k
          refine AW.retF (ow := []) (muts := []) ?_ (fun h => And.intro (.inr rfl) h)
          cases a; cases b; simp [go_sem, Try.results37] at *; simp [*]))

set_option maxHeartbeats 600000 in
set_option linter.unusedSimpArgs false in
set_option maxRecDepth 100000 in
/-- laws.markBytesResult -/
theorem dc_laws_markBytesResult_o (code : Int) (bytes : List UInt8) (k : Int) (hk : 0 ≤ k ∧ k + bytes.length ≤ 4611686018427387904) : DC Try.prog 38 [.agg [.int .i64 code, .osl 1 (bytes.map B1)], .int .i64 k] (.int .i64 (k + bytes.length)) [(0, .agg [.int .i64 code, .osl 1 ((mkL b8 bytes.length (k)).map B1)])] := by
  refine DC.intro tiOk Try.func38 rfl rfl rfl rfl rfl rfl rfl (by simp [noW, noWo]) [] ?_
  refine AW.reg tiOk (fun _ => []) [0, 1, 2] ?_
  intro k hk; simp -dsimp [go_sem, -decide_eq_true_eq, -decide_eq_false_iff_not]
  repeat' (first | refine And.intro ?_ ?_ | refine hk _ ?_ | intro hg | omega | exact True.intro)
  all_goals clear hk k
  refine AW.reg tiOk (fun _ => [0]) [0, 1] ?_
  intro k hk; simp -dsimp (maxSteps := 2000000) [go_sem, -decide_eq_true_eq, -decide_eq_false_iff_not]
  repeat' (first | refine And.intro ?_ ?_ | refine hk _ ?_ | intro hg | (refine CallK.intro (dc_laws_markByteS _ _ (by constructor <;> omega)) ?_; simp -dsimp (maxSteps := 2000000) [go_sem, -decide_eq_true_eq, -decide_eq_false_iff_not]) | (refine CallK.intro (dc_laws_markByteS_nil _) ?_; simp -dsimp (maxSteps := 2000000) [go_sem, -decide_eq_true_eq, -decide_eq_false_iff_not]) | omega | exact True.intro)
  all_goals clear hk k
  refine AW.reg tiOk (fun _ => []) [0, 4] ?_
  intro k hk; simp -dsimp [go_sem, -decide_eq_true_eq, -decide_eq_false_iff_not]
  repeat' (first | refine And.intro ?_ ?_ | refine hk _ ?_ | intro hg | omega | exact True.intro)
  all_goals clear hk k
  refine AW.retF (ow := []) (muts := [(0, .agg [.int .i64 code, .osl 1 ((mkL b8 bytes.length (k)).map B1)])]) ?_ (fun h => And.intro (.inr rfl) h)
  simp [go_sem, Try.results38, mkL_len]

set_option maxHeartbeats 600000 in
set_option linter.unusedSimpArgs false in
set_option maxRecDepth 100000 in
/-- laws.markBytesResult -/
theorem dc_laws_markBytesResult_n (code : Int) (k : Int) (hk : 0 ≤ k ∧ k ≤ 4611686018427387904) : DC Try.prog 38 [.agg [.int .i64 code, .isl 1 []], .int .i64 k] (.int .i64 (k)) [] := by
  refine DC.intro tiOk Try.func38 rfl rfl rfl rfl rfl rfl rfl rfl [] ?_
  refine AW.reg tiOk (fun _ => []) [1, 2] ?_
  intro k hk; simp -dsimp [go_sem, -decide_eq_true_eq, -decide_eq_false_iff_not]
  repeat' (first | refine And.intro ?_ ?_ | refine hk _ ?_ | intro hg | omega | exact True.intro)
  all_goals clear hk k
  refine AW.reg tiOk (fun _ => [0]) [1] ?_
  intro k hk; simp -dsimp (maxSteps := 2000000) [go_sem, -decide_eq_true_eq, -decide_eq_false_iff_not]
  repeat' (first | refine And.intro ?_ ?_ | refine hk _ ?_ | intro hg | (refine CallK.intro (dc_laws_markByteS _ _ (by constructor <;> omega)) ?_; simp -dsimp (maxSteps := 2000000) [go_sem, -decide_eq_true_eq, -decide_eq_false_iff_not]) | (refine CallK.intro (dc_laws_markByteS_nil _) ?_; simp -dsimp (maxSteps := 2000000) [go_sem, -decide_eq_true_eq, -decide_eq_false_iff_not]) | omega | exact True.intro)
  all_goals clear hk k
  refine AW.reg tiOk (fun _ => []) [4] ?_
  intro k hk; simp -dsimp [go_sem, -decide_eq_true_eq, -decide_eq_false_iff_not]
  repeat' (first | refine And.intro ?_ ?_ | refine hk _ ?_ | intro hg | omega | exact True.intro)
  all_goals clear hk k
  refine AW.retF (ow := []) (muts := []) ?_ (fun h => And.intro (.inr rfl) h)
  simp [go_sem, Try.results38, mkL_len]

set_option maxHeartbeats 600000 in
set_option linter.unusedSimpArgs false in
set_option maxRecDepth 100000 in
/-- laws.heldBytesResult -/
theorem dc_laws_heldBytesResult_o (code : Int) (nbytes : Nat) (k : Int) (hk : 0 ≤ k ∧ k + nbytes ≤ 4611686018427387904) : DC Try.prog 39 [.agg [.int .i64 code, .isl 1 ((mkL b8 nbytes (k)).map B1)], .int .i64 k] (.int .i64 (k + nbytes)) [] := by
  refine DC.intro tiOk Try.func39 rfl rfl rfl rfl rfl rfl rfl rfl [] ?_
  refine AW.reg tiOk (fun _ => []) [1, 2] ?_
  intro k hk; simp -dsimp [go_sem, -decide_eq_true_eq, -decide_eq_false_iff_not]
  repeat' (first | refine And.intro ?_ ?_ | refine hk _ ?_ | intro hg | omega | exact True.intro)
  all_goals clear hk k
  refine AW.reg tiOk (fun _ => []) [1] ?_
  intro k hk; simp -dsimp (maxSteps := 2000000) [go_sem, -decide_eq_true_eq, -decide_eq_false_iff_not]
  repeat' (first | refine And.intro ?_ ?_ | refine hk _ ?_ | intro hg | (refine CallK.intro (dc_laws_heldByteS _ _ (by constructor <;> omega)) ?_; simp -dsimp (maxSteps := 2000000) [go_sem, -decide_eq_true_eq, -decide_eq_false_iff_not]) | (refine CallK.intro (dc_laws_heldByteS_nil _) ?_; simp -dsimp (maxSteps := 2000000) [go_sem, -decide_eq_true_eq, -decide_eq_false_iff_not]) | omega | exact True.intro)
  all_goals clear hk k
  refine AW.seq ?_
  refine AW.reg tiOk (fun _ => []) [1, 10] ?_
  intro k hk; simp -dsimp [go_sem, -decide_eq_true_eq, -decide_eq_false_iff_not]
  repeat' (first | refine And.intro ?_ ?_ | refine hk _ ?_ | intro hg | omega | exact True.intro)
  all_goals clear hk k
  refine AW.cond rfl ?_ ?_
  · intro hc; try simp at hc
    all_goals try (exfalso; omega; done)
    all_goals (
      refine AW.reg tiOk (fun _ => []) [4] ?_
      intro k hk; simp -dsimp [go_sem, -decide_eq_true_eq, -decide_eq_false_iff_not]
      repeat' (first | refine And.intro ?_ ?_ | refine hk _ ?_ | intro hg | omega | exact True.intro)
      all_goals clear hk k
      refine AW.retF (ow := []) (muts := []) ?_ (fun h => And.intro (.inr rfl) h)
      simp [go_sem, Try.results39])
  · intro hc; try simp at hc
    all_goals try (exfalso; omega; done)
    all_goals (
      refine AW.skipN (fun _ h => h) ?_
      refine AW.reg tiOk (fun _ => []) [4] ?_
      intro k hk; simp -dsimp [go_sem, -decide_eq_true_eq, -decide_eq_false_iff_not]
      repeat' (first | refine And.intro ?_ ?_ | refine hk _ ?_ | intro hg | omega | exact True.intro)
      all_goals clear hk k
      refine AW.retF (ow := []) (muts := []) ?_ (fun h => And.intro (.inr rfl) h)
      simp [go_sem, Try.results39])

set_option maxHeartbeats 600000 in
set_option linter.unusedSimpArgs false in
set_option maxRecDepth 100000 in
/-- laws.heldBytesResult -/
theorem dc_laws_heldBytesResult_n (code : Int) (k : Int) (hk : 0 ≤ k ∧ k ≤ 4611686018427387904) : DC Try.prog 39 [.agg [.int .i64 code, .isl 1 []], .int .i64 k] (.int .i64 (k)) [] := by
  refine DC.intro tiOk Try.func39 rfl rfl rfl rfl rfl rfl rfl rfl [] ?_
  refine AW.reg tiOk (fun _ => []) [1, 2] ?_
  intro k hk; simp -dsimp [go_sem, -decide_eq_true_eq, -decide_eq_false_iff_not]
  repeat' (first | refine And.intro ?_ ?_ | refine hk _ ?_ | intro hg | omega | exact True.intro)
  all_goals clear hk k
  refine AW.reg tiOk (fun _ => []) [1] ?_
  intro k hk; simp -dsimp (maxSteps := 2000000) [go_sem, -decide_eq_true_eq, -decide_eq_false_iff_not]
  repeat' (first | refine And.intro ?_ ?_ | refine hk _ ?_ | intro hg | (refine CallK.intro (dc_laws_heldByteS _ _ (by constructor <;> omega)) ?_; simp -dsimp (maxSteps := 2000000) [go_sem, -decide_eq_true_eq, -decide_eq_false_iff_not]) | (refine CallK.intro (dc_laws_heldByteS_nil _) ?_; simp -dsimp (maxSteps := 2000000) [go_sem, -decide_eq_true_eq, -decide_eq_false_iff_not]) | omega | exact True.intro)
  all_goals clear hk k
  refine AW.seq ?_
  refine AW.reg tiOk (fun _ => []) [1, 10] ?_
  intro k hk; simp -dsimp [go_sem, -decide_eq_true_eq, -decide_eq_false_iff_not]
  repeat' (first | refine And.intro ?_ ?_ | refine hk _ ?_ | intro hg | omega | exact True.intro)
  all_goals clear hk k
  refine AW.cond rfl ?_ ?_
  · intro hc; try simp at hc
    all_goals try (exfalso; omega; done)
    all_goals (
      refine AW.reg tiOk (fun _ => []) [4] ?_
      intro k hk; simp -dsimp [go_sem, -decide_eq_true_eq, -decide_eq_false_iff_not]
      repeat' (first | refine And.intro ?_ ?_ | refine hk _ ?_ | intro hg | omega | exact True.intro)
      all_goals clear hk k
      refine AW.retF (ow := []) (muts := []) ?_ (fun h => And.intro (.inr rfl) h)
      simp [go_sem, Try.results39])
  · intro hc; try simp at hc
    all_goals try (exfalso; omega; done)
    all_goals (
      refine AW.skipN (fun _ h => h) ?_
      refine AW.reg tiOk (fun _ => []) [4] ?_
      intro k hk; simp -dsimp [go_sem, -decide_eq_true_eq, -decide_eq_false_iff_not]
      repeat' (first | refine And.intro ?_ ?_ | refine hk _ ?_ | intro hg | omega | exact True.intro)
      all_goals clear hk k
      refine AW.retF (ow := []) (muts := []) ?_ (fun h => And.intro (.inr rfl) h)
      simp [go_sem, Try.results39])

end Go.AM
