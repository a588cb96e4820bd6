/- Walks. -/
import Derived.Test.YtefkpiameojpoaaJ2
set_option linter.unusedVariables false
set_option linter.unusedSimpArgs false
namespace Go.AM
open Go.Proofs

set_option maxHeartbeats 600000 in
set_option linter.unusedSimpArgs false in
set_option maxRecDepth 100000 in
/-- impl.readLines -/
theorem dc_impl_readLines (d : List UInt8) (hd : d.length ≤ 9223372036854775807) (hd2 : d.length ≤ 1048576) : DC Try.prog 101 [.isl 1 (d.map B1)] (.tup [.osl 1 ((rd d).1.map S1), .isl 1 ((d.drop (rd d).2).map B1)]) [] := by
  refine DC.intro tiOk Try.func101 rfl rfl rfl rfl rfl rfl rfl rfl [1001] ?_
  refine AW.reg tiOk (fun _ => []) [0] ?_
  intro k hk; simp -dsimp [go_sem, -decide_eq_true_eq, -decide_eq_false_iff_not]
  repeat' (first | refine And.intro ?_ ?_ | refine hk _ ?_ | intro hg | omega | exact True.intro)
  all_goals clear hk k
  refine AW.reg tiOk (fun _ => []) [0, 4] ?_
  intro k hk; simp -dsimp [go_sem, -decide_eq_true_eq, -decide_eq_false_iff_not]
  repeat' (first | refine And.intro ?_ ?_ | refine hk _ ?_ | intro hg | omega | exact True.intro)
  all_goals clear hk k
  refine AW.block ?_
  -- live at the loop's head: [0, 4]
  refine AW.rename (nd := ?nd_1) 7 20 ?h1_1 ?h2_1 ?h4_1 ?kk_1
  (case h1_1 => exact rfl)
  (case h2_1 => simp [go_sem])
  (case h4_1 => simp [go_sem])
  refine AW.loopI (fun j : Nat × List (List UInt8) => ⟨27, [(0, .isl 1 (List.drop j.1 (d.map B1))), (4, .sl 20 1 0 j.2.length)], [(20, some ⟨1, j.2.map S1⟩)]⟩) (fun j => j.1 ≤ d.length ∧ rd d = (j.2 ++ (rd (d.drop j.1)).1, j.1 + (rd (d.drop j.1)).2)) (fun j => d.length - j.1) ((0, [])) (by refine ⟨Nat.zero_le _, ?_⟩; simp) (Less.of rfl (by simp [go_sem]) (by simp [go_sem])) ?_
  rintro ⟨p, acc⟩ ⟨hp, hinv⟩
  simp only at hp hinv
  refine AW.rename (nd := ?nd_2) 20 7 ?h1_2 ?h2_2 ?h4_2 ?kk_2
  (case h1_2 => exact rfl)
  (case h2_2 => simp [go_sem])
  (case h4_2 => simp [go_sem])
  obtain ⟨e, he⟩ : ∃ e, d.drop p = e := ⟨_, rfl⟩
  have hel : e.length = d.length - p := by rw [← he]; simp
  have hm : List.drop p (d.map B1) = e.map B1 := by rw [← List.map_drop, he]
  rw [he] at hinv
  have hal : 4 * acc.length ≤ 1048576 := by have h1 := rd_lines d; have h2 := congrArg (fun z => z.1.length) hinv; simp at h2; omega
  rw [hm]
  refine AW.block ?_
  refine AW.reg tiOk (fun _ => []) [0, 4, 5, 6] ?_
  intro k hk; simp -dsimp (maxSteps := 2000000) [go_sem, -decide_eq_true_eq, -decide_eq_false_iff_not]
  repeat' (first | refine And.intro ?_ ?_ | refine hk _ ?_ | intro hg | (refine CallK.intro (dc_impl_lineAt e (by omega)) ?_; simp -dsimp (maxSteps := 2000000) [go_sem, -decide_eq_true_eq, -decide_eq_false_iff_not]) | omega | exact True.intro)
  all_goals clear hk k
  refine AW.seq ?_
  refine AW.reg tiOk (fun _ => []) [0, 4, 5, 14] ?_
  intro k hk; simp -dsimp [go_sem, -decide_eq_true_eq, -decide_eq_false_iff_not]
  repeat' (first | refine And.intro ?_ ?_ | refine hk _ ?_ | intro hg | omega | exact True.intro)
  all_goals clear hk k
  refine AW.cond rfl ?_ ?_
  · intro hc; try simp at hc
    all_goals (
      refine AW.reg tiOk (fun _ => []) [2, 3] ?_
      intro k hk; simp -dsimp [go_sem, -decide_eq_true_eq, -decide_eq_false_iff_not]
      repeat' (first | refine And.intro ?_ ?_ | refine hk _ ?_ | intro hg | omega | exact True.intro)
      all_goals clear hk k
      refine AW.retF (ow := [1001]) (muts := []) ?_ (fun h => And.intro (.inr rfl) h)
      have hL : isL e = false := by simpa using hc
      rw [rd_no hL] at hinv
      rw [hinv]
      simp only [List.append_nil, Nat.add_zero]
      rw [he]
      simp [go_sem, Try.results101])
  · intro hc; try simp at hc
    all_goals (
      refine AW.skipN (fun _ h => h) ?_
      have hL : isL e = true := by simpa using hc
      obtain ⟨hb1, hb2, hb3⟩ := isL_bd hL
      have hln := lnA_yes hL
      have hll := lnT_len hb1
      have hwa : IntKind.wrap .i64 (1 + (n0 e : Int)) = 1 + (n0 e : Int) := wrap64 (by omega) (by omega)
      have hwb : IntKind.wrap .i64 (1 + (n0 e : Int) + 2) = 1 + (n0 e : Int) + 2 := wrap64 (by omega) (by omega)
      have hwt : (1 + (n0 e : Int) + 2).toNat = n0 e + 3 := by omega
      refine AW.regK tiOk (fun _ => []) ?_
      intro k hk; simp -dsimp (maxSteps := 2000000) [go_sem, -decide_eq_true_eq, -decide_eq_false_iff_not, hln, hll, hwa, hwb, hwt]
      repeat' (first | refine And.intro ?_ ?_ | (refine Chk.keys ?_; simp only [go_sem, List.map_cons, List.map_nil, List.flatMap_cons, List.flatMap_nil, List.flatMap_append, List.append_nil, List.nil_append, List.cons_append]; decide +kernel) | refine hk _ ?_ | intro hg | omega | exact True.intro)
      all_goals clear hk k
      show ∃ _, _
      refine ⟨(p + (n0 e + 3), acc ++ [lnT e]), ⟨by simp only; omega, ?_⟩, by simp only; omega, Less.of rfl (by simp [go_sem, ← hm, List.drop_drop]) (by simp [go_sem])⟩
      rw [hinv, rd_yes hL, ← he]; simp [List.drop_drop]; omega)

set_option maxHeartbeats 600000 in
set_option linter.unusedSimpArgs false in
set_option maxRecDepth 100000 in
/-- spec.l13Read -/
theorem dc_spec_l13Read (d : List UInt8) (hd2 : d.length ≤ 1048576) : DC Try.prog 99 [.isl 1 (d.map B1)] (.tup [.osl 1 ((rd d).1.map S1), .int .i64 (rd d).2]) [] := by
  refine DC.intro tiOk Try.func99 rfl rfl rfl rfl rfl rfl rfl rfl [1001] ?_
  refine AW.reg tiOk (fun _ => []) [0] ?_
  intro k hk; simp -dsimp [go_sem, -decide_eq_true_eq, -decide_eq_false_iff_not]
  repeat' (first | refine And.intro ?_ ?_ | refine hk _ ?_ | intro hg | omega | exact True.intro)
  all_goals clear hk k
  refine AW.reg tiOk (fun _ => []) [0, 4] ?_
  intro k hk; simp -dsimp [go_sem, -decide_eq_true_eq, -decide_eq_false_iff_not]
  repeat' (first | refine And.intro ?_ ?_ | refine hk _ ?_ | intro hg | omega | exact True.intro)
  all_goals clear hk k
  refine AW.reg tiOk (fun _ => []) [0, 4, 5] ?_
  intro k hk; simp -dsimp [go_sem, -decide_eq_true_eq, -decide_eq_false_iff_not]
  repeat' (first | refine And.intro ?_ ?_ | refine hk _ ?_ | intro hg | omega | exact True.intro)
  all_goals clear hk k
  refine AW.block ?_
  -- live at the loop's head: [0, 4, 5]
  refine AW.rename (nd := ?nd_1) 8 23 ?h1_1 ?h2_1 ?h4_1 ?kk_1
  (case h1_1 => exact rfl)
  (case h2_1 => simp [go_sem])
  (case h4_1 => simp [go_sem])
  refine AW.loopI (fun j : Nat × List (List UInt8) => ⟨27, [(0, .isl 1 (d.map B1)), (4, .sl 23 1 0 j.2.length), (5, .int .i64 j.1)], [(23, some ⟨1, j.2.map S1⟩)]⟩) (fun j => j.1 ≤ d.length ∧ rd d = (j.2 ++ (rd (d.drop j.1)).1, j.1 + (rd (d.drop j.1)).2)) (fun j => d.length - j.1) ((0, [])) (by refine ⟨Nat.zero_le _, ?_⟩; simp) (Less.of rfl (by simp [go_sem]) (by simp [go_sem])) ?_
  rintro ⟨p, acc⟩ ⟨hp, hinv⟩
  simp only at hp hinv
  refine AW.rename (nd := ?nd_2) 23 8 ?h1_2 ?h2_2 ?h4_2 ?kk_2
  (case h1_2 => exact rfl)
  (case h2_2 => simp [go_sem])
  (case h4_2 => simp [go_sem])
  have hal : 4 * acc.length ≤ 1048576 := by have h1 := rd_lines d; have h2 := congrArg (fun z => z.1.length) hinv; simp at h2; omega
  refine AW.block ?_
  refine AW.reg tiOk (fun _ => []) [0, 4, 5, 6, 7] ?_
  intro k hk; simp -dsimp (maxSteps := 2000000) [go_sem, -decide_eq_true_eq, -decide_eq_false_iff_not]
  repeat' (first | refine And.intro ?_ ?_ | refine hk _ ?_ | intro hg | (refine CallK.intro (dc_spec_l13One_d d p (by omega)) ?_; simp -dsimp (maxSteps := 2000000) [go_sem, -decide_eq_true_eq, -decide_eq_false_iff_not]) | omega | exact True.intro)
  all_goals clear hk k
  refine AW.seq ?_
  refine AW.reg tiOk (fun _ => []) [0, 4, 5, 6, 7, 17] ?_
  intro k hk; simp -dsimp [go_sem, -decide_eq_true_eq, -decide_eq_false_iff_not]
  repeat' (first | refine And.intro ?_ ?_ | refine hk _ ?_ | intro hg | omega | exact True.intro)
  all_goals clear hk k
  refine AW.cond rfl ?_ ?_
  · intro hc; try simp at hc
    all_goals (
      refine AW.reg tiOk (fun _ => []) [2, 3] ?_
      intro k hk; simp -dsimp [go_sem, -decide_eq_true_eq, -decide_eq_false_iff_not]
      repeat' (first | refine And.intro ?_ ?_ | refine hk _ ?_ | intro hg | omega | exact True.intro)
      all_goals clear hk k
      refine AW.retF (ow := [1001]) (muts := []) ?_ (fun h => And.intro (.inr rfl) h)
      have hL : isL (d.drop p) = false := by grind
      rw [rd_no hL] at hinv
      rw [hinv]
      simp [go_sem, Try.results99])
  · intro hc; try simp at hc
    all_goals (
      refine AW.skipN (fun _ h => h) ?_
      have hL : isL (d.drop p) = true := by grind
      obtain ⟨hb1, hb2, hb3⟩ := isL_bd hL
      have hdl : (d.drop p).length = d.length - p := by simp
      have hln := n0_lt (d.drop p)
      refine AW.reg tiOk (fun _ => []) [0, 4, 5, 7] ?_
      intro k hk; simp -dsimp [go_sem, -decide_eq_true_eq, -decide_eq_false_iff_not, hL]
      repeat' (first | refine And.intro ?_ ?_ | refine hk _ ?_ | intro hg | omega | exact True.intro)
      all_goals clear hk k
      have hwa : IntKind.wrap .i64 ((p : Int) + ((n0 (d.drop p) : Int) + 3)) = (p : Int) + ((n0 (d.drop p) : Int) + 3) := wrap64 (by omega) (by omega)
      refine AW.regK tiOk (fun _ => []) ?_
      intro k hk; simp -dsimp [go_sem, -decide_eq_true_eq, -decide_eq_false_iff_not, hL, hwa]
      repeat' (first | refine And.intro ?_ ?_ | refine hk _ ?_ | intro hg | omega | exact True.intro)
      all_goals clear hk k
      show ∃ _, _
      refine ⟨(p + (n0 (d.drop p) + 3), acc ++ [lnT (d.drop p)]), ⟨by simp only; omega, ?_⟩, by simp only; omega, Less.of rfl (by simp [go_sem, hwa] <;> omega) (by simp [go_sem])⟩
      rw [hinv, rd_yes hL]; simp [List.drop_drop]; omega)

set_option maxHeartbeats 600000 in
set_option linter.unusedSimpArgs false in
set_option maxRecDepth 100000 in
/-- impl.isWhole -/
theorem dc_impl_isWhole (d : List UInt8) (hd2 : d.length ≤ 1048576) : DC Try.prog 98 [.isl 1 (d.map B1)] (.bool (whole d)) [] := by
  refine DC.intro tiOk Try.func98 rfl rfl rfl rfl rfl rfl rfl rfl [] ?_
  refine AW.reg tiOk (fun _ => []) [0] ?_
  intro k hk; simp -dsimp [go_sem, -decide_eq_true_eq, -decide_eq_false_iff_not]
  repeat' (first | refine And.intro ?_ ?_ | refine hk _ ?_ | intro hg | omega | exact True.intro)
  all_goals clear hk k
  refine AW.reg tiOk (fun _ => []) [4] ?_
  intro k hk; simp -dsimp (maxSteps := 2000000) [go_sem, -decide_eq_true_eq, -decide_eq_false_iff_not]
  repeat' (first | refine And.intro ?_ ?_ | refine hk _ ?_ | intro hg | (refine CallK.intro (dc_impl_readLines d (by omega) hd2) ?_; simp -dsimp (maxSteps := 2000000) [go_sem, -decide_eq_true_eq, -decide_eq_false_iff_not]) | omega | exact True.intro)
  all_goals clear hk k
  refine AW.reg tiOk (fun _ => []) [2] ?_
  intro k hk; simp -dsimp [go_sem, -decide_eq_true_eq, -decide_eq_false_iff_not]
  repeat' (first | refine And.intro ?_ ?_ | refine hk _ ?_ | intro hg | omega | exact True.intro)
  all_goals clear hk k
  refine AW.retF (ow := []) (muts := []) ?_ (fun h => And.intro (.inr rfl) h)
  rw [whole_eq]; simp [go_sem, Try.results98] <;> omega

set_option maxHeartbeats 600000 in
set_option linter.unusedSimpArgs false in
set_option maxRecDepth 100000 in
/-- spec.l13Fault -/
theorem dc_spec_l13Fault (j : TJournal) (hz : j.sz ≤ 1048576) : DC Try.prog 97 [.ip j.ro] (.int .i64 (jouF j)) [] := by
  unfold TJournal.sz at hz
  have hw : IntKind.wrap .i64 ((j.sure.length : Int) + (j.loose.length : Int)) = (j.sure.length : Int) + (j.loose.length : Int) := wrap64 (by omega) (by omega)
  refine DC.intro tiOk Try.func97 rfl rfl rfl rfl rfl rfl rfl rfl [] ?_
  refine AW.reg tiOk (fun _ => []) [0] ?_
  intro k hk; simp -dsimp [go_sem, -decide_eq_true_eq, -decide_eq_false_iff_not, hw]
  repeat' (first | refine And.intro ?_ ?_ | refine hk _ ?_ | intro hg | omega | exact True.intro)
  all_goals clear hk k
  refine AW.seq ?_
  refine AW.reg tiOk (fun _ => []) [0, 18] ?_
  intro k hk; simp -dsimp (maxSteps := 2000000) [go_sem, -decide_eq_true_eq, -decide_eq_false_iff_not, hw]
  repeat' (first | refine And.intro ?_ ?_ | (refine Chk.keys ?_; simp only [go_sem, List.map_cons, List.map_nil, List.flatMap_cons, List.flatMap_nil, List.flatMap_append, List.append_nil, List.nil_append, List.cons_append]; decide +kernel) | refine hk _ ?_ | intro hg | omega | exact True.intro)
  all_goals clear hk k
  refine AW.cond rfl ?_ ?_
  · intro hc; try simp at hc
    all_goals (
      refine AW.reg tiOk (fun _ => []) [2] ?_
      intro k hk; simp -dsimp [go_sem, -decide_eq_true_eq, -decide_eq_false_iff_not, hw]
      repeat' (first | refine And.intro ?_ ?_ | refine hk _ ?_ | intro hg | omega | exact True.intro)
      all_goals clear hk k
      refine AW.retF (ow := []) (muts := []) ?_ (fun h => And.intro (.inr rfl) h)
      simp [go_sem, Try.results97, jouF, whole] at * <;> grind)
  · intro hc; try simp at hc
    all_goals (
      refine AW.skipN (fun _ h => h) ?_
      refine AW.seq ?_
      refine AW.reg tiOk (fun _ => []) [0, 4] ?_
      intro k hk; simp -dsimp (maxSteps := 2000000) [go_sem, -decide_eq_true_eq, -decide_eq_false_iff_not, hw]
      repeat' (first | refine And.intro ?_ ?_ | refine hk _ ?_ | intro hg | (refine CallK.intro (dc_spec_l13Read j.sure (by omega)) ?_; simp -dsimp (maxSteps := 2000000) [go_sem, -decide_eq_true_eq, -decide_eq_false_iff_not, hw]) | (refine CallK.intro (dc_spec_l13Read j.loose (by omega)) ?_; simp -dsimp (maxSteps := 2000000) [go_sem, -decide_eq_true_eq, -decide_eq_false_iff_not, hw]) | omega | exact True.intro)
      all_goals clear hk k
      refine AW.reg tiOk (fun _ => []) [0, 33] ?_
      intro k hk; simp -dsimp (maxSteps := 2000000) [go_sem, -decide_eq_true_eq, -decide_eq_false_iff_not, hw]
      repeat' (first | refine And.intro ?_ ?_ | refine hk _ ?_ | intro hg | omega | exact True.intro)
      all_goals clear hk k
      refine AW.cond rfl ?_ ?_
      · intro hc; try simp at hc
        all_goals (
          refine AW.reg tiOk (fun _ => []) [2] ?_
          intro k hk; simp -dsimp [go_sem, -decide_eq_true_eq, -decide_eq_false_iff_not, hw]
          repeat' (first | refine And.intro ?_ ?_ | refine hk _ ?_ | intro hg | omega | exact True.intro)
          all_goals clear hk k
          refine AW.retF (ow := []) (muts := []) ?_ (fun h => And.intro (.inr rfl) h)
          simp [go_sem, Try.results97, jouF, whole] at * <;> grind)
      · intro hc; try simp at hc
        all_goals (
          refine AW.skipN (fun _ h => h) ?_
          refine AW.seq ?_
          refine AW.reg tiOk (fun _ => []) [0, 6] ?_
          intro k hk; simp -dsimp (maxSteps := 2000000) [go_sem, -decide_eq_true_eq, -decide_eq_false_iff_not, hw]
          repeat' (first | refine And.intro ?_ ?_ | refine hk _ ?_ | intro hg | (refine CallK.intro (dc_spec_l13Read j.sure (by omega)) ?_; simp -dsimp (maxSteps := 2000000) [go_sem, -decide_eq_true_eq, -decide_eq_false_iff_not, hw]) | (refine CallK.intro (dc_spec_l13Read j.loose (by omega)) ?_; simp -dsimp (maxSteps := 2000000) [go_sem, -decide_eq_true_eq, -decide_eq_false_iff_not, hw]) | omega | exact True.intro)
          all_goals clear hk k
          refine AW.reg tiOk (fun _ => []) [48] ?_
          intro k hk; simp -dsimp (maxSteps := 2000000) [go_sem, -decide_eq_true_eq, -decide_eq_false_iff_not, hw]
          repeat' (first | refine And.intro ?_ ?_ | refine hk _ ?_ | intro hg | omega | exact True.intro)
          all_goals clear hk k
          refine AW.cond rfl ?_ ?_
          · intro hc; try simp at hc
            all_goals (
              refine AW.reg tiOk (fun _ => []) [2] ?_
              intro k hk; simp -dsimp [go_sem, -decide_eq_true_eq, -decide_eq_false_iff_not, hw]
              repeat' (first | refine And.intro ?_ ?_ | refine hk _ ?_ | intro hg | omega | exact True.intro)
              all_goals clear hk k
              refine AW.retF (ow := []) (muts := []) ?_ (fun h => And.intro (.inr rfl) h)
              simp [go_sem, Try.results97, jouF, whole] at * <;> grind)
          · intro hc; try simp at hc
            all_goals (
              refine AW.skipN (fun _ h => h) ?_
              refine AW.reg tiOk (fun _ => []) [2] ?_
              intro k hk; simp -dsimp [go_sem, -decide_eq_true_eq, -decide_eq_false_iff_not, hw]
              repeat' (first | refine And.intro ?_ ?_ | refine hk _ ?_ | intro hg | omega | exact True.intro)
              all_goals clear hk k
              refine AW.retF (ow := []) (muts := []) ?_ (fun h => And.intro (.inr rfl) h)
              simp [go_sem, Try.results97, jouF, whole] at * <;> grind)))

set_option maxHeartbeats 600000 in
set_option linter.unusedSimpArgs false in
set_option maxRecDepth 100000 in
/-- spec.JournalFault -/
theorem dc_spec_JournalFault (j : TJournal) (hz : j.sz ≤ 1048576) : DC Try.prog 41 [.agg j.ro] (.int .i64 (jouF j)) [] := by
  refine DC.intro tiOk Try.func41 rfl rfl rfl rfl rfl rfl rfl rfl [] ?_
  refine AW.reg tiOk (fun _ => []) [1] ?_
  intro k hk; simp -dsimp [go_sem, -decide_eq_true_eq, -decide_eq_false_iff_not]
  repeat' (first | refine And.intro ?_ ?_ | refine hk _ ?_ | intro hg | omega | exact True.intro)
  all_goals clear hk k
  refine AW.reg tiOk (fun _ => []) [2] ?_
  intro k hk; simp -dsimp (maxSteps := 2000000) [go_sem, -decide_eq_true_eq, -decide_eq_false_iff_not]
  repeat' (first | refine And.intro ?_ ?_ | refine hk _ ?_ | intro hg | (refine CallK.intro (dc_spec_l13Fault j hz) ?_; simp -dsimp (maxSteps := 2000000) [go_sem, -decide_eq_true_eq, -decide_eq_false_iff_not]) | omega | exact True.intro)
  all_goals clear hk k
  refine AW.retF (ow := []) (muts := []) ?_ (fun h => And.intro (.inr rfl) h)
  simp [go_sem, Try.results41]

set_option maxHeartbeats 600000 in
set_option linter.unusedSimpArgs false in
set_option maxRecDepth 100000 in
/-- impl.JournalFault -/
theorem dc_impl_JournalFault (j : TJournal) (hz : j.sz ≤ 1048576) : DC Try.prog 43 [.agg j.ro] (.int .i64 (jouF j)) [] := by
  unfold TJournal.sz at hz
  have hw : IntKind.wrap .i64 ((j.sure.length : Int) + (j.loose.length : Int)) = (j.sure.length : Int) + (j.loose.length : Int) := wrap64 (by omega) (by omega)
  refine DC.intro tiOk Try.func43 rfl rfl rfl rfl rfl rfl rfl rfl [] ?_
  refine AW.reg tiOk (fun _ => []) [1] ?_
  intro k hk; simp -dsimp [go_sem, -decide_eq_true_eq, -decide_eq_false_iff_not, hw]
  repeat' (first | refine And.intro ?_ ?_ | refine hk _ ?_ | intro hg | omega | exact True.intro)
  all_goals clear hk k
  refine AW.reg tiOk (fun _ => []) [2] ?_
  intro k hk; simp +contextual -dsimp (maxSteps := 2000000) [go_sem, -decide_eq_true_eq, -decide_eq_false_iff_not, hw]
  repeat' (first | refine And.intro ?_ ?_ | (refine Chk.keys ?_; simp only [go_sem, List.map_cons, List.map_nil, List.flatMap_cons, List.flatMap_nil, List.flatMap_append, List.append_nil, List.nil_append, List.cons_append]; decide +kernel) | refine hk _ ?_ | (intro hg; try simp only [decide_eq_true_eq, decide_eq_false_iff_not] at hg) | (refine CallK.intro (dc_impl_codeIf _ _) ?_; simp +contextual -dsimp (maxSteps := 2000000) [go_sem, -decide_eq_true_eq, -decide_eq_false_iff_not, hw]) | (refine CallK.intro (dc_impl_isWhole j.sure (by omega)) ?_; simp +contextual -dsimp (maxSteps := 2000000) [go_sem, -decide_eq_true_eq, -decide_eq_false_iff_not, hw]) | (refine CallK.intro (dc_impl_isWhole j.loose (by omega)) ?_; simp +contextual -dsimp (maxSteps := 2000000) [go_sem, -decide_eq_true_eq, -decide_eq_false_iff_not, hw]) | (refine CallK.intro (dc_impl_firstCode [_, _] (by simp)) ?_; simp +contextual -dsimp (maxSteps := 2000000) [go_sem, -decide_eq_true_eq, -decide_eq_false_iff_not, hw]) | (refine CallK.intro (dc_impl_firstCode [_, _, _] (by simp)) ?_; simp +contextual -dsimp (maxSteps := 2000000) [go_sem, -decide_eq_true_eq, -decide_eq_false_iff_not, hw]) | (refine CallK.intro (dc_impl_firstCode [_, _, _, _] (by simp)) ?_; simp +contextual -dsimp (maxSteps := 2000000) [go_sem, -decide_eq_true_eq, -decide_eq_false_iff_not, hw]) | omega | exact True.intro)
  all_goals clear hk k
  all_goals (
    refine AW.retF (ow := []) (muts := []) ?_ (fun h => And.intro (.inr rfl) h)
    simp [go_sem, Try.results43, jouF, firstC_cons, firstC_nil] at * <;> grind)

end Go.AM
