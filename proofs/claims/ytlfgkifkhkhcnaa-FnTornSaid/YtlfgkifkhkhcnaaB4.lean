/- Joined texts: J3 J5 J6 J7 J8 J9 W7 W8 Pd2 Ja Jb Jc Jd Am25. -/
import Derived.Test.YtlfgkifkhkhcnaaB1
import Derived.Test.YtlfgkifkhkhcnaaB2
import Derived.Test.YtlfgkifkhkhcnaaB3
set_option linter.unusedVariables false
set_option linter.unusedSimpArgs false
/-! ### J3 -/
set_option linter.unusedVariables false
set_option linter.unusedSimpArgs false
namespace Go.AM
open Go.Proofs

set_option maxHeartbeats 600000 in
set_option linter.unusedSimpArgs false in
set_option maxRecDepth 100000 in
/-- impl.readLines -/
theorem dc_impl_readLines (d : List UInt8) (hd : d.length ≤ 9223372036854775807) (hd2 : d.length ≤ 1048576) : DC Try.prog 31 [.isl 1 (d.map B1)] (.tup [.osl 1 ((rd d).1.map S1), .isl 1 ((d.drop (rd d).2).map B1)]) [] := by
  refine DC.intro tiOk Try.func31 rfl rfl rfl rfl rfl rfl rfl rfl [1001] ?_
  refine AW.reg tiOk (fun _ => []) [0] ?_
  intro k hk; simp -dsimp [go_sem, -decide_eq_true_eq, -decide_eq_false_iff_not]
  repeat' (first | refine And.intro ?_ ?_ | refine hk _ ?_ | intro hg | omega | exact True.intro)
  all_goals clear hk k
  refine AW.reg tiOk (fun _ => []) [0, 4] ?_
  intro k hk; simp -dsimp [go_sem, -decide_eq_true_eq, -decide_eq_false_iff_not]
  repeat' (first | refine And.intro ?_ ?_ | refine hk _ ?_ | intro hg | omega | exact True.intro)
  all_goals clear hk k
  refine AW.block ?_
  -- live at the loop's head: [0, 4]
  refine AW.rename (nd := ?nd_1) 7 20 ?h1_1 ?h2_1 ?h4_1 ?kk_1
  (case h1_1 => exact rfl)
  (case h2_1 => simp [go_sem])
  (case h4_1 => simp [go_sem])
  refine AW.loopI (fun j : Nat × List (List UInt8) => ⟨27, [(0, .isl 1 (List.drop j.1 (d.map B1))), (4, .sl 20 1 0 j.2.length)], [(20, some ⟨1, j.2.map S1⟩)]⟩) (fun j => j.1 ≤ d.length ∧ rd d = (j.2 ++ (rd (d.drop j.1)).1, j.1 + (rd (d.drop j.1)).2)) (fun j => d.length - j.1) ((0, [])) (by refine ⟨Nat.zero_le _, ?_⟩; simp) (Less.of rfl (by simp [go_sem]) (by simp [go_sem])) ?_
  rintro ⟨p, acc⟩ ⟨hp, hinv⟩
  simp only at hp hinv
  refine AW.rename (nd := ?nd_2) 20 7 ?h1_2 ?h2_2 ?h4_2 ?kk_2
  (case h1_2 => exact rfl)
  (case h2_2 => simp [go_sem])
  (case h4_2 => simp [go_sem])
  obtain ⟨e, he⟩ : ∃ e, d.drop p = e := ⟨_, rfl⟩
  have hel : e.length = d.length - p := by rw [← he]; simp
  have hm : List.drop p (d.map B1) = e.map B1 := by rw [← List.map_drop, he]
  rw [he] at hinv
  have hal : 4 * acc.length ≤ 1048576 := by have h1 := rd_lines d; have h2 := congrArg (fun z => z.1.length) hinv; simp at h2; omega
  rw [hm]
  refine AW.block ?_
  refine AW.reg tiOk (fun _ => []) [0, 4, 5, 6] ?_
  intro k hk; simp -dsimp (maxSteps := 2000000) [go_sem, -decide_eq_true_eq, -decide_eq_false_iff_not]
  repeat' (first | refine And.intro ?_ ?_ | refine hk _ ?_ | intro hg | (refine CallK.intro (dc_impl_lineAt e (by omega)) ?_; simp -dsimp (maxSteps := 2000000) [go_sem, -decide_eq_true_eq, -decide_eq_false_iff_not]) | omega | exact True.intro)
  all_goals clear hk k
  refine AW.seq ?_
  refine AW.reg tiOk (fun _ => []) [0, 4, 5, 14] ?_
  intro k hk; simp -dsimp [go_sem, -decide_eq_true_eq, -decide_eq_false_iff_not]
  repeat' (first | refine And.intro ?_ ?_ | refine hk _ ?_ | intro hg | omega | exact True.intro)
  all_goals clear hk k
  refine AW.cond rfl ?_ ?_
  · intro hc; try simp at hc
    all_goals (
      refine AW.reg tiOk (fun _ => []) [2, 3] ?_
      intro k hk; simp -dsimp [go_sem, -decide_eq_true_eq, -decide_eq_false_iff_not]
      repeat' (first | refine And.intro ?_ ?_ | refine hk _ ?_ | intro hg | omega | exact True.intro)
      all_goals clear hk k
      refine AW.retF (ow := [1001]) (muts := []) ?_ (fun h => And.intro (.inr rfl) h)
      have hL : isL e = false := by simpa using hc
      rw [rd_no hL] at hinv
      rw [hinv]
      simp only [List.append_nil, Nat.add_zero]
      rw [he]
      simp [go_sem, Try.results31])
  · intro hc; try simp at hc
    all_goals (
      refine AW.skipN (fun _ h => h) ?_
      have hL : isL e = true := by simpa using hc
      obtain ⟨hb1, hb2, hb3⟩ := isL_bd hL
      have hln := lnA_yes hL
      have hll := lnT_len hb1
      have hwa : IntKind.wrap .i64 (1 + (n0 e : Int)) = 1 + (n0 e : Int) := wrap64 (by omega) (by omega)
      have hwb : IntKind.wrap .i64 (1 + (n0 e : Int) + 2) = 1 + (n0 e : Int) + 2 := wrap64 (by omega) (by omega)
      have hwt : (1 + (n0 e : Int) + 2).toNat = n0 e + 3 := by omega
      refine AW.regK tiOk (fun _ => []) ?_
      intro k hk; simp -dsimp (maxSteps := 2000000) [go_sem, -decide_eq_true_eq, -decide_eq_false_iff_not, hln, hll, hwa, hwb, hwt]
      repeat' (first | refine And.intro ?_ ?_ | (refine Chk.keys ?_; simp only [go_sem, List.map_cons, List.map_nil, List.flatMap_cons, List.flatMap_nil, List.flatMap_append, List.append_nil, List.nil_append, List.cons_append]; decide +kernel) | refine hk _ ?_ | intro hg | omega | exact True.intro)
      all_goals clear hk k
      show ∃ _, _
      refine ⟨(p + (n0 e + 3), acc ++ [lnT e]), ⟨by simp only; omega, ?_⟩, by simp only; omega, Less.of rfl (by simp [go_sem, ← hm, List.drop_drop]) (by simp [go_sem])⟩
      rw [hinv, rd_yes hL, ← he]; simp [List.drop_drop]; omega)

set_option maxHeartbeats 600000 in
set_option linter.unusedSimpArgs false in
set_option maxRecDepth 100000 in
/-- spec.l13Read -/
theorem dc_spec_l13Read (d : List UInt8) (hd2 : d.length ≤ 1048576) : DC Try.prog 37 [.isl 1 (d.map B1)] (.tup [.osl 1 ((rd d).1.map S1), .int .i64 (rd d).2]) [] := by
  refine DC.intro tiOk Try.func37 rfl rfl rfl rfl rfl rfl rfl rfl [1001] ?_
  refine AW.reg tiOk (fun _ => []) [0] ?_
  intro k hk; simp -dsimp [go_sem, -decide_eq_true_eq, -decide_eq_false_iff_not]
  repeat' (first | refine And.intro ?_ ?_ | refine hk _ ?_ | intro hg | omega | exact True.intro)
  all_goals clear hk k
  refine AW.reg tiOk (fun _ => []) [0, 4] ?_
  intro k hk; simp -dsimp [go_sem, -decide_eq_true_eq, -decide_eq_false_iff_not]
  repeat' (first | refine And.intro ?_ ?_ | refine hk _ ?_ | intro hg | omega | exact True.intro)
  all_goals clear hk k
  refine AW.reg tiOk (fun _ => []) [0, 4, 5] ?_
  intro k hk; simp -dsimp [go_sem, -decide_eq_true_eq, -decide_eq_false_iff_not]
  repeat' (first | refine And.intro ?_ ?_ | refine hk _ ?_ | intro hg | omega | exact True.intro)
  all_goals clear hk k
  refine AW.block ?_
  -- live at the loop's head: [0, 4, 5]
  refine AW.rename (nd := ?nd_1) 8 23 ?h1_1 ?h2_1 ?h4_1 ?kk_1
  (case h1_1 => exact rfl)
  (case h2_1 => simp [go_sem])
  (case h4_1 => simp [go_sem])
  refine AW.loopI (fun j : Nat × List (List UInt8) => ⟨27, [(0, .isl 1 (d.map B1)), (4, .sl 23 1 0 j.2.length), (5, .int .i64 j.1)], [(23, some ⟨1, j.2.map S1⟩)]⟩) (fun j => j.1 ≤ d.length ∧ rd d = (j.2 ++ (rd (d.drop j.1)).1, j.1 + (rd (d.drop j.1)).2)) (fun j => d.length - j.1) ((0, [])) (by refine ⟨Nat.zero_le _, ?_⟩; simp) (Less.of rfl (by simp [go_sem]) (by simp [go_sem])) ?_
  rintro ⟨p, acc⟩ ⟨hp, hinv⟩
  simp only at hp hinv
  refine AW.rename (nd := ?nd_2) 23 8 ?h1_2 ?h2_2 ?h4_2 ?kk_2
  (case h1_2 => exact rfl)
  (case h2_2 => simp [go_sem])
  (case h4_2 => simp [go_sem])
  have hal : 4 * acc.length ≤ 1048576 := by have h1 := rd_lines d; have h2 := congrArg (fun z => z.1.length) hinv; simp at h2; omega
  refine AW.block ?_
  refine AW.reg tiOk (fun _ => []) [0, 4, 5, 6, 7] ?_
  intro k hk; simp -dsimp (maxSteps := 2000000) [go_sem, -decide_eq_true_eq, -decide_eq_false_iff_not]
  repeat' (first | refine And.intro ?_ ?_ | refine hk _ ?_ | intro hg | (refine CallK.intro (dc_spec_l13One_d d p (by omega)) ?_; simp -dsimp (maxSteps := 2000000) [go_sem, -decide_eq_true_eq, -decide_eq_false_iff_not]) | omega | exact True.intro)
  all_goals clear hk k
  refine AW.seq ?_
  refine AW.reg tiOk (fun _ => []) [0, 4, 5, 6, 7, 17] ?_
  intro k hk; simp -dsimp [go_sem, -decide_eq_true_eq, -decide_eq_false_iff_not]
  repeat' (first | refine And.intro ?_ ?_ | refine hk _ ?_ | intro hg | omega | exact True.intro)
  all_goals clear hk k
  refine AW.cond rfl ?_ ?_
  · intro hc; try simp at hc
    all_goals (
      refine AW.reg tiOk (fun _ => []) [2, 3] ?_
      intro k hk; simp -dsimp [go_sem, -decide_eq_true_eq, -decide_eq_false_iff_not]
      repeat' (first | refine And.intro ?_ ?_ | refine hk _ ?_ | intro hg | omega | exact True.intro)
      all_goals clear hk k
      refine AW.retF (ow := [1001]) (muts := []) ?_ (fun h => And.intro (.inr rfl) h)
      have hL : isL (d.drop p) = false := by grind
      rw [rd_no hL] at hinv
      rw [hinv]
      simp [go_sem, Try.results37])
  · intro hc; try simp at hc
    all_goals (
      refine AW.skipN (fun _ h => h) ?_
      have hL : isL (d.drop p) = true := by grind
      obtain ⟨hb1, hb2, hb3⟩ := isL_bd hL
      have hdl : (d.drop p).length = d.length - p := by simp
      have hln := n0_lt (d.drop p)
      refine AW.reg tiOk (fun _ => []) [0, 4, 5, 7] ?_
      intro k hk; simp -dsimp [go_sem, -decide_eq_true_eq, -decide_eq_false_iff_not, hL]
      repeat' (first | refine And.intro ?_ ?_ | refine hk _ ?_ | intro hg | omega | exact True.intro)
      all_goals clear hk k
      have hwa : IntKind.wrap .i64 ((p : Int) + ((n0 (d.drop p) : Int) + 3)) = (p : Int) + ((n0 (d.drop p) : Int) + 3) := wrap64 (by omega) (by omega)
      refine AW.regK tiOk (fun _ => []) ?_
      intro k hk; simp -dsimp [go_sem, -decide_eq_true_eq, -decide_eq_false_iff_not, hL, hwa]
      repeat' (first | refine And.intro ?_ ?_ | refine hk _ ?_ | intro hg | omega | exact True.intro)
      all_goals clear hk k
      show ∃ _, _
      refine ⟨(p + (n0 (d.drop p) + 3), acc ++ [lnT (d.drop p)]), ⟨by simp only; omega, ?_⟩, by simp only; omega, Less.of rfl (by simp [go_sem, hwa] <;> omega) (by simp [go_sem])⟩
      rw [hinv, rd_yes hL]; simp [List.drop_drop]; omega)

set_option maxHeartbeats 600000 in
set_option linter.unusedSimpArgs false in
set_option maxRecDepth 100000 in
/-- impl.isWhole -/
theorem dc_impl_isWhole (d : List UInt8) (hd2 : d.length ≤ 1048576) : DC Try.prog 46 [.isl 1 (d.map B1)] (.bool (whole d)) [] := by
  refine DC.intro tiOk Try.func46 rfl rfl rfl rfl rfl rfl rfl rfl [] ?_
  refine AW.reg tiOk (fun _ => []) [0] ?_
  intro k hk; simp -dsimp [go_sem, -decide_eq_true_eq, -decide_eq_false_iff_not]
  repeat' (first | refine And.intro ?_ ?_ | refine hk _ ?_ | intro hg | omega | exact True.intro)
  all_goals clear hk k
  refine AW.reg tiOk (fun _ => []) [4] ?_
  intro k hk; simp -dsimp (maxSteps := 2000000) [go_sem, -decide_eq_true_eq, -decide_eq_false_iff_not]
  repeat' (first | refine And.intro ?_ ?_ | refine hk _ ?_ | intro hg | (refine CallK.intro (dc_impl_readLines d (by omega) hd2) ?_; simp -dsimp (maxSteps := 2000000) [go_sem, -decide_eq_true_eq, -decide_eq_false_iff_not]) | omega | exact True.intro)
  all_goals clear hk k
  refine AW.reg tiOk (fun _ => []) [2] ?_
  intro k hk; simp -dsimp [go_sem, -decide_eq_true_eq, -decide_eq_false_iff_not]
  repeat' (first | refine And.intro ?_ ?_ | refine hk _ ?_ | intro hg | omega | exact True.intro)
  all_goals clear hk k
  refine AW.retF (ow := []) (muts := []) ?_ (fun h => And.intro (.inr rfl) h)
  rw [whole_eq]; simp [go_sem, Try.results46] <;> omega

set_option maxHeartbeats 600000 in
set_option linter.unusedSimpArgs false in
set_option maxRecDepth 100000 in
/-- spec.l13Fault -/
theorem dc_spec_l13Fault (j : TJournal) (hz : j.sz ≤ 1048576) : DC Try.prog 43 [.ip j.ro] (.int .i64 (jouF j)) [] := by
  unfold TJournal.sz at hz
  have hw : IntKind.wrap .i64 ((j.sure.length : Int) + (j.loose.length : Int)) = (j.sure.length : Int) + (j.loose.length : Int) := wrap64 (by omega) (by omega)
  refine DC.intro tiOk Try.func43 rfl rfl rfl rfl rfl rfl rfl rfl [] ?_
  refine AW.reg tiOk (fun _ => []) [0] ?_
  intro k hk; simp -dsimp [go_sem, -decide_eq_true_eq, -decide_eq_false_iff_not, hw]
  repeat' (first | refine And.intro ?_ ?_ | refine hk _ ?_ | intro hg | omega | exact True.intro)
  all_goals clear hk k
  refine AW.seq ?_
  refine AW.reg tiOk (fun _ => []) [0, 18] ?_
  intro k hk; simp -dsimp (maxSteps := 2000000) [go_sem, -decide_eq_true_eq, -decide_eq_false_iff_not, hw]
  repeat' (first | refine And.intro ?_ ?_ | (refine Chk.keys ?_; simp only [go_sem, List.map_cons, List.map_nil, List.flatMap_cons, List.flatMap_nil, List.flatMap_append, List.append_nil, List.nil_append, List.cons_append]; decide +kernel) | refine hk _ ?_ | intro hg | omega | exact True.intro)
  all_goals clear hk k
  refine AW.cond rfl ?_ ?_
  · intro hc; try simp at hc
    all_goals (
      refine AW.reg tiOk (fun _ => []) [2] ?_
      intro k hk; simp -dsimp [go_sem, -decide_eq_true_eq, -decide_eq_false_iff_not, hw]
      repeat' (first | refine And.intro ?_ ?_ | refine hk _ ?_ | intro hg | omega | exact True.intro)
      all_goals clear hk k
      refine AW.retF (ow := []) (muts := []) ?_ (fun h => And.intro (.inr rfl) h)
      simp [go_sem, Try.results43, jouF, whole] at * <;> grind)
  · intro hc; try simp at hc
    all_goals (
      refine AW.skipN (fun _ h => h) ?_
      refine AW.seq ?_
      refine AW.reg tiOk (fun _ => []) [0, 4] ?_
      intro k hk; simp -dsimp (maxSteps := 2000000) [go_sem, -decide_eq_true_eq, -decide_eq_false_iff_not, hw]
      repeat' (first | refine And.intro ?_ ?_ | refine hk _ ?_ | intro hg | (refine CallK.intro (dc_spec_l13Read j.sure (by omega)) ?_; simp -dsimp (maxSteps := 2000000) [go_sem, -decide_eq_true_eq, -decide_eq_false_iff_not, hw]) | (refine CallK.intro (dc_spec_l13Read j.loose (by omega)) ?_; simp -dsimp (maxSteps := 2000000) [go_sem, -decide_eq_true_eq, -decide_eq_false_iff_not, hw]) | omega | exact True.intro)
      all_goals clear hk k
      refine AW.reg tiOk (fun _ => []) [0, 33] ?_
      intro k hk; simp -dsimp (maxSteps := 2000000) [go_sem, -decide_eq_true_eq, -decide_eq_false_iff_not, hw]
      repeat' (first | refine And.intro ?_ ?_ | refine hk _ ?_ | intro hg | omega | exact True.intro)
      all_goals clear hk k
      refine AW.cond rfl ?_ ?_
      · intro hc; try simp at hc
        all_goals (
          refine AW.reg tiOk (fun _ => []) [2] ?_
          intro k hk; simp -dsimp [go_sem, -decide_eq_true_eq, -decide_eq_false_iff_not, hw]
          repeat' (first | refine And.intro ?_ ?_ | refine hk _ ?_ | intro hg | omega | exact True.intro)
          all_goals clear hk k
          refine AW.retF (ow := []) (muts := []) ?_ (fun h => And.intro (.inr rfl) h)
          simp [go_sem, Try.results43, jouF, whole] at * <;> grind)
      · intro hc; try simp at hc
        all_goals (
          refine AW.skipN (fun _ h => h) ?_
          refine AW.seq ?_
          refine AW.reg tiOk (fun _ => []) [0, 6] ?_
          intro k hk; simp -dsimp (maxSteps := 2000000) [go_sem, -decide_eq_true_eq, -decide_eq_false_iff_not, hw]
          repeat' (first | refine And.intro ?_ ?_ | refine hk _ ?_ | intro hg | (refine CallK.intro (dc_spec_l13Read j.sure (by omega)) ?_; simp -dsimp (maxSteps := 2000000) [go_sem, -decide_eq_true_eq, -decide_eq_false_iff_not, hw]) | (refine CallK.intro (dc_spec_l13Read j.loose (by omega)) ?_; simp -dsimp (maxSteps := 2000000) [go_sem, -decide_eq_true_eq, -decide_eq_false_iff_not, hw]) | omega | exact True.intro)
          all_goals clear hk k
          refine AW.reg tiOk (fun _ => []) [48] ?_
          intro k hk; simp -dsimp (maxSteps := 2000000) [go_sem, -decide_eq_true_eq, -decide_eq_false_iff_not, hw]
          repeat' (first | refine And.intro ?_ ?_ | refine hk _ ?_ | intro hg | omega | exact True.intro)
          all_goals clear hk k
          refine AW.cond rfl ?_ ?_
          · intro hc; try simp at hc
            all_goals (
              refine AW.reg tiOk (fun _ => []) [2] ?_
              intro k hk; simp -dsimp [go_sem, -decide_eq_true_eq, -decide_eq_false_iff_not, hw]
              repeat' (first | refine And.intro ?_ ?_ | refine hk _ ?_ | intro hg | omega | exact True.intro)
              all_goals clear hk k
              refine AW.retF (ow := []) (muts := []) ?_ (fun h => And.intro (.inr rfl) h)
              simp [go_sem, Try.results43, jouF, whole] at * <;> grind)
          · intro hc; try simp at hc
            all_goals (
              refine AW.skipN (fun _ h => h) ?_
              refine AW.reg tiOk (fun _ => []) [2] ?_
              intro k hk; simp -dsimp [go_sem, -decide_eq_true_eq, -decide_eq_false_iff_not, hw]
              repeat' (first | refine And.intro ?_ ?_ | refine hk _ ?_ | intro hg | omega | exact True.intro)
              all_goals clear hk k
              refine AW.retF (ow := []) (muts := []) ?_ (fun h => And.intro (.inr rfl) h)
              simp [go_sem, Try.results43, jouF, whole] at * <;> grind)))

set_option maxHeartbeats 600000 in
set_option linter.unusedSimpArgs false in
set_option maxRecDepth 100000 in
/-- impl.JournalFault -/
theorem dc_impl_JournalFault (j : TJournal) (hz : j.sz ≤ 1048576) : DC Try.prog 20 [.agg j.ro] (.int .i64 (jouF j)) [] := by
  unfold TJournal.sz at hz
  have hw : IntKind.wrap .i64 ((j.sure.length : Int) + (j.loose.length : Int)) = (j.sure.length : Int) + (j.loose.length : Int) := wrap64 (by omega) (by omega)
  refine DC.intro tiOk Try.func20 rfl rfl rfl rfl rfl rfl rfl rfl [] ?_
  refine AW.reg tiOk (fun _ => []) [1] ?_
  intro k hk; simp -dsimp [go_sem, -decide_eq_true_eq, -decide_eq_false_iff_not, hw]
  repeat' (first | refine And.intro ?_ ?_ | refine hk _ ?_ | intro hg | omega | exact True.intro)
  all_goals clear hk k
  refine AW.reg tiOk (fun _ => []) [2] ?_
  intro k hk; simp +contextual -dsimp (maxSteps := 2000000) [go_sem, -decide_eq_true_eq, -decide_eq_false_iff_not, hw]
  repeat' (first | refine And.intro ?_ ?_ | (refine Chk.keys ?_; simp only [go_sem, List.map_cons, List.map_nil, List.flatMap_cons, List.flatMap_nil, List.flatMap_append, List.append_nil, List.nil_append, List.cons_append]; decide +kernel) | refine hk _ ?_ | (intro hg; try simp only [decide_eq_true_eq, decide_eq_false_iff_not] at hg) | (refine CallK.intro (dc_impl_codeIf _ _) ?_; simp +contextual -dsimp (maxSteps := 2000000) [go_sem, -decide_eq_true_eq, -decide_eq_false_iff_not, hw]) | (refine CallK.intro (dc_impl_isWhole j.sure (by omega)) ?_; simp +contextual -dsimp (maxSteps := 2000000) [go_sem, -decide_eq_true_eq, -decide_eq_false_iff_not, hw]) | (refine CallK.intro (dc_impl_isWhole j.loose (by omega)) ?_; simp +contextual -dsimp (maxSteps := 2000000) [go_sem, -decide_eq_true_eq, -decide_eq_false_iff_not, hw]) | (refine CallK.intro (dc_impl_firstCode [_, _] (by simp)) ?_; simp +contextual -dsimp (maxSteps := 2000000) [go_sem, -decide_eq_true_eq, -decide_eq_false_iff_not, hw]) | (refine CallK.intro (dc_impl_firstCode [_, _, _] (by simp)) ?_; simp +contextual -dsimp (maxSteps := 2000000) [go_sem, -decide_eq_true_eq, -decide_eq_false_iff_not, hw]) | (refine CallK.intro (dc_impl_firstCode [_, _, _, _] (by simp)) ?_; simp +contextual -dsimp (maxSteps := 2000000) [go_sem, -decide_eq_true_eq, -decide_eq_false_iff_not, hw]) | omega | exact True.intro)
  all_goals clear hk k
  all_goals (
    refine AW.retF (ow := []) (muts := []) ?_ (fun h => And.intro (.inr rfl) h)
    simp [go_sem, Try.results20, jouF, firstC_cons, firstC_nil] at * <;> grind)

end Go.AM

/-! ### J5 -/
set_option linter.unusedVariables false
set_option linter.unusedSimpArgs false
namespace Go.AM
open Go.Proofs

set_option maxHeartbeats 600000 in
set_option linter.unusedSimpArgs false in
set_option maxRecDepth 100000 in
/-- slices.Grow[[]byte,byte] -/
theorem dc_slices_Grow_byte_byte_n (n : Nat) (hn : 0 < n) (hb : n ≤ 4194304) : DC Try.prog 51 [.nils, .int .i64 n] (.osl 1 []) [] := by
  have hw0 : IntKind.wrap .i64 0 = 0 := wrap64 (by omega) (by omega)
  have hwn : IntKind.wrap .i64 (n : Int) = n := wrap64 (by omega) (by omega)
  refine DC.intro tiOk Try.func51 rfl rfl rfl rfl rfl rfl rfl rfl [1000] ?_
  refine AW.reg tiOk (fun _ => []) [0, 1] ?_
  intro k hk; simp -dsimp [go_sem, -decide_eq_true_eq, -decide_eq_false_iff_not, hw0, hwn]
  repeat' (first | refine And.intro ?_ ?_ | refine hk _ ?_ | intro hg | omega | exact True.intro)
  all_goals clear hk k
  refine AW.seq ?_
  refine AW.reg tiOk (fun _ => []) [0, 1, 6] ?_
  intro k hk; simp -dsimp [go_sem, -decide_eq_true_eq, -decide_eq_false_iff_not, hw0, hwn]
  repeat' (first | refine And.intro ?_ ?_ | refine hk _ ?_ | intro hg | omega | exact True.intro)
  all_goals clear hk k
  refine AW.cond rfl ?_ ?_
  · intro hc; try simp at hc
    all_goals try (exfalso; omega; done)
    all_goals (
      refine AW.regN tiOk (fun _ => []) [0, 1] (fun _ h => h) ?_
      intro k hk; simp -dsimp [go_sem, -decide_eq_true_eq, -decide_eq_false_iff_not, hw0, hwn]
      repeat' (first | refine And.intro ?_ ?_ | refine hk _ ?_ | intro hg | omega | exact True.intro)
      all_goals clear hk k
      refine AW.seq ?_
      refine AW.reg tiOk (fun _ => []) [0, 1] ?_
      intro k hk; simp -dsimp (maxSteps := 2000000) [go_sem, -decide_eq_true_eq, -decide_eq_false_iff_not, hw0, hwn]
      repeat' (first | refine And.intro ?_ ?_ | refine hk _ ?_ | intro hg | omega | exact True.intro)
      all_goals clear hk k
      refine AW.reg tiOk (fun _ => []) [0, 1, 16] ?_
      intro k hk; simp -dsimp [go_sem, -decide_eq_true_eq, -decide_eq_false_iff_not, hw0, hwn]
      repeat' (first | refine And.intro ?_ ?_ | refine hk _ ?_ | intro hg | omega | exact True.intro)
      all_goals clear hk k
      refine AW.cond rfl ?_ ?_
      · intro hc; try simp at hc
        all_goals try (exfalso; omega; done)
        all_goals (
          refine AW.regN tiOk (fun _ => []) [0] (fun _ h => h) ?_
          intro k hk; simp -dsimp (maxSteps := 2000000) [go_sem, -decide_eq_true_eq, -decide_eq_false_iff_not, hw0, hwn]
          repeat' (first | refine And.intro ?_ ?_ | refine hk _ ?_ | intro hg | omega | exact True.intro)
          all_goals clear hk k
          refine AW.reg tiOk (fun _ => []) [4] ?_
          intro k hk; simp -dsimp [go_sem, -decide_eq_true_eq, -decide_eq_false_iff_not, hw0, hwn]
          repeat' (first | refine And.intro ?_ ?_ | refine hk _ ?_ | intro hg | omega | exact True.intro)
          all_goals clear hk k
          refine AW.shrink (nd := ?nd_1) 22 (0) ?h1_1 ?kk_1
          (case h1_1 => exact rfl)
          refine AW.retF (ow := [1000]) (muts := []) ?_ (fun h => And.intro (.inr rfl) h)
          simp [go_sem, Try.results51])
      · intro hc; try simp at hc
        all_goals try (exfalso; omega; done)
        all_goals (
          refine AW.skipN (fun _ h => h) ?_
          refine AW.reg tiOk (fun _ => []) [4] ?_
          intro k hk; simp -dsimp [go_sem, -decide_eq_true_eq, -decide_eq_false_iff_not, hw0, hwn]
          repeat' (first | refine And.intro ?_ ?_ | refine hk _ ?_ | intro hg | omega | exact True.intro)
          all_goals clear hk k
          refine AW.shrink (nd := ?nd_2) 22 (0) ?h1_2 ?kk_2
          (case h1_2 => exact rfl)
          refine AW.retF (ow := [1000]) (muts := []) ?_ (fun h => And.intro (.inr rfl) h)
          simp [go_sem, Try.results51]))
  · intro hc; try simp at hc
    all_goals try (exfalso; omega; done)
    all_goals (
      refine AW.skipN (fun _ h => h) ?_
      refine AW.seq ?_
      refine AW.reg tiOk (fun _ => []) [0, 1] ?_
      intro k hk; simp -dsimp (maxSteps := 2000000) [go_sem, -decide_eq_true_eq, -decide_eq_false_iff_not, hw0, hwn]
      repeat' (first | refine And.intro ?_ ?_ | refine hk _ ?_ | intro hg | omega | exact True.intro)
      all_goals clear hk k
      refine AW.reg tiOk (fun _ => []) [0, 1, 16] ?_
      intro k hk; simp -dsimp [go_sem, -decide_eq_true_eq, -decide_eq_false_iff_not, hw0, hwn]
      repeat' (first | refine And.intro ?_ ?_ | refine hk _ ?_ | intro hg | omega | exact True.intro)
      all_goals clear hk k
      refine AW.cond rfl ?_ ?_
      · intro hc; try simp at hc
        all_goals try (exfalso; omega; done)
        all_goals (
          refine AW.regN tiOk (fun _ => []) [0] (fun _ h => h) ?_
          intro k hk; simp -dsimp (maxSteps := 2000000) [go_sem, -decide_eq_true_eq, -decide_eq_false_iff_not, hw0, hwn]
          repeat' (first | refine And.intro ?_ ?_ | refine hk _ ?_ | intro hg | omega | exact True.intro)
          all_goals clear hk k
          refine AW.reg tiOk (fun _ => []) [4] ?_
          intro k hk; simp -dsimp [go_sem, -decide_eq_true_eq, -decide_eq_false_iff_not, hw0, hwn]
          repeat' (first | refine And.intro ?_ ?_ | refine hk _ ?_ | intro hg | omega | exact True.intro)
          all_goals clear hk k
          refine AW.shrink (nd := ?nd_3) 22 (0) ?h1_3 ?kk_3
          (case h1_3 => exact rfl)
          refine AW.retF (ow := [1000]) (muts := []) ?_ (fun h => And.intro (.inr rfl) h)
          simp [go_sem, Try.results51])
      · intro hc; try simp at hc
        all_goals try (exfalso; omega; done)
        all_goals (
          refine AW.skipN (fun _ h => h) ?_
          refine AW.reg tiOk (fun _ => []) [4] ?_
          intro k hk; simp -dsimp [go_sem, -decide_eq_true_eq, -decide_eq_false_iff_not, hw0, hwn]
          repeat' (first | refine And.intro ?_ ?_ | refine hk _ ?_ | intro hg | omega | exact True.intro)
          all_goals clear hk k
          refine AW.shrink (nd := ?nd_4) 22 (0) ?h1_4 ?kk_4
          (case h1_4 => exact rfl)
          refine AW.retF (ow := [1000]) (muts := []) ?_ (fun h => And.intro (.inr rfl) h)
          simp [go_sem, Try.results51]))

set_option maxHeartbeats 600000 in
set_option linter.unusedSimpArgs false in
set_option maxRecDepth 100000 in
/-- slices.Grow[[]byte,byte] -/
theorem dc_slices_Grow_byte_byte_z  : DC Try.prog 51 [.nils, .int .i64 0] (.nils) [] := by
  have hw0 : IntKind.wrap .i64 0 = 0 := wrap64 (by omega) (by omega)
  refine DC.intro tiOk Try.func51 rfl rfl rfl rfl rfl rfl rfl rfl [] ?_
  refine AW.reg tiOk (fun _ => []) [0, 1] ?_
  intro k hk; simp -dsimp [go_sem, -decide_eq_true_eq, -decide_eq_false_iff_not, hw0]
  repeat' (first | refine And.intro ?_ ?_ | refine hk _ ?_ | intro hg | omega | exact True.intro)
  all_goals clear hk k
  refine AW.seq ?_
  refine AW.reg tiOk (fun _ => []) [0, 1, 6] ?_
  intro k hk; simp -dsimp [go_sem, -decide_eq_true_eq, -decide_eq_false_iff_not, hw0]
  repeat' (first | refine And.intro ?_ ?_ | refine hk _ ?_ | intro hg | omega | exact True.intro)
  all_goals clear hk k
  refine AW.cond rfl ?_ ?_
  · intro hc; try simp at hc
    all_goals try (exfalso; omega; done)
    all_goals (
      refine AW.regN tiOk (fun _ => []) [0, 1] (fun _ h => h) ?_
      intro k hk; simp -dsimp [go_sem, -decide_eq_true_eq, -decide_eq_false_iff_not, hw0]
      repeat' (first | refine And.intro ?_ ?_ | refine hk _ ?_ | intro hg | omega | exact True.intro)
      all_goals clear hk k
      refine AW.seq ?_
      refine AW.reg tiOk (fun _ => []) [0, 1] ?_
      intro k hk; simp -dsimp (maxSteps := 2000000) [go_sem, -decide_eq_true_eq, -decide_eq_false_iff_not, hw0]
      repeat' (first | refine And.intro ?_ ?_ | refine hk _ ?_ | intro hg | omega | exact True.intro)
      all_goals clear hk k
      refine AW.reg tiOk (fun _ => []) [0, 1, 16] ?_
      intro k hk; simp -dsimp [go_sem, -decide_eq_true_eq, -decide_eq_false_iff_not, hw0]
      repeat' (first | refine And.intro ?_ ?_ | refine hk _ ?_ | intro hg | omega | exact True.intro)
      all_goals clear hk k
      refine AW.cond rfl ?_ ?_
      · intro hc; try simp at hc
        all_goals try (exfalso; omega; done)
        all_goals (
          refine AW.regN tiOk (fun _ => []) [0] (fun _ h => h) ?_
          intro k hk; simp -dsimp (maxSteps := 2000000) [go_sem, -decide_eq_true_eq, -decide_eq_false_iff_not, hw0]
          repeat' (first | refine And.intro ?_ ?_ | refine hk _ ?_ | intro hg | omega | exact True.intro)
          all_goals clear hk k
          refine AW.reg tiOk (fun _ => []) [4] ?_
          intro k hk; simp -dsimp [go_sem, -decide_eq_true_eq, -decide_eq_false_iff_not, hw0]
          repeat' (first | refine And.intro ?_ ?_ | refine hk _ ?_ | intro hg | omega | exact True.intro)
          all_goals clear hk k
          refine AW.retF (ow := []) (muts := []) ?_ (fun h => And.intro (.inr rfl) h)
          simp [go_sem, Try.results51])
      · intro hc; try simp at hc
        all_goals try (exfalso; omega; done)
        all_goals (
          refine AW.skipN (fun _ h => h) ?_
          refine AW.reg tiOk (fun _ => []) [4] ?_
          intro k hk; simp -dsimp [go_sem, -decide_eq_true_eq, -decide_eq_false_iff_not, hw0]
          repeat' (first | refine And.intro ?_ ?_ | refine hk _ ?_ | intro hg | omega | exact True.intro)
          all_goals clear hk k
          refine AW.retF (ow := []) (muts := []) ?_ (fun h => And.intro (.inr rfl) h)
          simp [go_sem, Try.results51]))
  · intro hc; try simp at hc
    all_goals try (exfalso; omega; done)
    all_goals (
      refine AW.skipN (fun _ h => h) ?_
      refine AW.seq ?_
      refine AW.reg tiOk (fun _ => []) [0, 1] ?_
      intro k hk; simp -dsimp (maxSteps := 2000000) [go_sem, -decide_eq_true_eq, -decide_eq_false_iff_not, hw0]
      repeat' (first | refine And.intro ?_ ?_ | refine hk _ ?_ | intro hg | omega | exact True.intro)
      all_goals clear hk k
      refine AW.reg tiOk (fun _ => []) [0, 1, 16] ?_
      intro k hk; simp -dsimp [go_sem, -decide_eq_true_eq, -decide_eq_false_iff_not, hw0]
      repeat' (first | refine And.intro ?_ ?_ | refine hk _ ?_ | intro hg | omega | exact True.intro)
      all_goals clear hk k
      refine AW.cond rfl ?_ ?_
      · intro hc; try simp at hc
        all_goals try (exfalso; omega; done)
        all_goals (
          refine AW.regN tiOk (fun _ => []) [0] (fun _ h => h) ?_
          intro k hk; simp -dsimp (maxSteps := 2000000) [go_sem, -decide_eq_true_eq, -decide_eq_false_iff_not, hw0]
          repeat' (first | refine And.intro ?_ ?_ | refine hk _ ?_ | intro hg | omega | exact True.intro)
          all_goals clear hk k
          refine AW.reg tiOk (fun _ => []) [4] ?_
          intro k hk; simp -dsimp [go_sem, -decide_eq_true_eq, -decide_eq_false_iff_not, hw0]
          repeat' (first | refine And.intro ?_ ?_ | refine hk _ ?_ | intro hg | omega | exact True.intro)
          all_goals clear hk k
          refine AW.retF (ow := []) (muts := []) ?_ (fun h => And.intro (.inr rfl) h)
          simp [go_sem, Try.results51])
      · intro hc; try simp at hc
        all_goals try (exfalso; omega; done)
        all_goals (
          refine AW.skipN (fun _ h => h) ?_
          refine AW.reg tiOk (fun _ => []) [4] ?_
          intro k hk; simp -dsimp [go_sem, -decide_eq_true_eq, -decide_eq_false_iff_not, hw0]
          repeat' (first | refine And.intro ?_ ?_ | refine hk _ ?_ | intro hg | omega | exact True.intro)
          all_goals clear hk k
          refine AW.retF (ow := []) (muts := []) ?_ (fun h => And.intro (.inr rfl) h)
          simp [go_sem, Try.results51]))

set_option maxHeartbeats 600000 in
set_option linter.unusedSimpArgs false in
set_option maxRecDepth 100000 in
/-- slices.Clone[[]byte,byte] -/
theorem dc_slices_Clone_byte_byte_n  : DC Try.prog 40 [.nils] (.isl 1 []) [] := by
  refine DC.intro tiOk Try.func40 rfl rfl rfl rfl rfl rfl rfl rfl [] ?_
  refine AW.reg tiOk (fun _ => []) [0] ?_
  intro k hk; simp -dsimp [go_sem, -decide_eq_true_eq, -decide_eq_false_iff_not]
  repeat' (first | refine And.intro ?_ ?_ | refine hk _ ?_ | intro hg | omega | exact True.intro)
  all_goals clear hk k
  refine AW.seq ?_
  refine AW.reg tiOk (fun _ => []) [0, 4] ?_
  intro k hk; simp -dsimp [go_sem, -decide_eq_true_eq, -decide_eq_false_iff_not]
  repeat' (first | refine And.intro ?_ ?_ | refine hk _ ?_ | intro hg | omega | exact True.intro)
  all_goals clear hk k
  refine AW.cond rfl ?_ ?_
  · intro hc; try simp at hc
    all_goals try (exfalso; simp at hc; done)
    all_goals (
      refine AW.reg tiOk (fun _ => []) [2] ?_
      intro k hk; simp -dsimp [go_sem, -decide_eq_true_eq, -decide_eq_false_iff_not]
      repeat' (first | refine And.intro ?_ ?_ | refine hk _ ?_ | intro hg | omega | exact True.intro)
      all_goals clear hk k
      refine AW.retF (ow := []) (muts := []) ?_ (fun h => And.intro (.inr rfl) h)
      simp [go_sem, Try.results40])
  · intro hc; try simp at hc
    all_goals try (exfalso; simp at hc; done)
    all_goals (
      refine AW.skipN (fun _ h => h) ?_
      refine AW.reg tiOk (fun _ => []) [2] ?_
      intro k hk; simp -dsimp [go_sem, -decide_eq_true_eq, -decide_eq_false_iff_not]
      repeat' (first | refine And.intro ?_ ?_ | refine hk _ ?_ | intro hg | omega | exact True.intro)
      all_goals clear hk k
      refine AW.retF (ow := []) (muts := []) ?_ (fun h => And.intro (.inr rfl) h)
      simp [go_sem, Try.results40])

set_option maxHeartbeats 600000 in
set_option linter.unusedSimpArgs false in
set_option maxRecDepth 100000 in
/-- slices.Clone[[]byte,byte] -/
theorem dc_slices_Clone_byte_byte_e  : DC Try.prog 40 [.nel] (.isl 1 []) [] := by
  refine DC.intro tiOk Try.func40 rfl rfl rfl rfl rfl rfl rfl rfl [1000] ?_
  refine AW.reg tiOk (fun _ => []) [0] ?_
  intro k hk; simp -dsimp [go_sem, -decide_eq_true_eq, -decide_eq_false_iff_not]
  repeat' (first | refine And.intro ?_ ?_ | refine hk _ ?_ | intro hg | omega | exact True.intro)
  all_goals clear hk k
  refine AW.seq ?_
  refine AW.reg tiOk (fun _ => []) [0, 4] ?_
  intro k hk; simp -dsimp [go_sem, -decide_eq_true_eq, -decide_eq_false_iff_not]
  repeat' (first | refine And.intro ?_ ?_ | refine hk _ ?_ | intro hg | omega | exact True.intro)
  all_goals clear hk k
  refine AW.cond rfl ?_ ?_
  · intro hc; try simp at hc
    all_goals try (exfalso; simp at hc; done)
    all_goals (
      refine AW.reg tiOk (fun _ => []) [2] ?_
      intro k hk; simp -dsimp [go_sem, -decide_eq_true_eq, -decide_eq_false_iff_not]
      repeat' (first | refine And.intro ?_ ?_ | refine hk _ ?_ | intro hg | omega | exact True.intro)
      all_goals clear hk k
      refine AW.retF (ow := [1000]) (muts := []) ?_ (fun h => And.intro (.inr rfl) h)
      simp [go_sem, Try.results40])
  · intro hc; try simp at hc
    all_goals try (exfalso; simp at hc; done)
    all_goals (
      refine AW.skipN (fun _ h => h) ?_
      refine AW.slotLe (x := ?x_1) 0 (.isl 1 []) ?h1_1 ?h2_1 ?kk_1
      (case h1_1 => exact rfl)
      (case h2_1 => simp [go_sem])
      refine AW.reg tiOk (fun _ => []) [2] ?_
      intro k hk; simp -dsimp [go_sem, -decide_eq_true_eq, -decide_eq_false_iff_not]
      repeat' (first | refine And.intro ?_ ?_ | refine hk _ ?_ | intro hg | omega | exact True.intro)
      all_goals clear hk k
      refine AW.retF (ow := [1000]) (muts := []) ?_ (fun h => And.intro (.inr rfl) h)
      simp [go_sem, Try.results40])
theorem dc_Clone_nil : DC Try.prog 40 [.isl 1 []] (.isl 1 []) [] := DC.empty dc_slices_Clone_byte_byte_n dc_slices_Clone_byte_byte_e

set_option maxHeartbeats 600000 in
set_option linter.unusedSimpArgs false in
set_option maxRecDepth 100000 in
/-- slices.Clone[[]byte,byte] -/
theorem dc_slices_Clone_byte_byte_c (x : UInt8) (r : List UInt8) (hb : r.length + 1 ≤ 4194304) : DC Try.prog 40 [.isl 1 ((x :: r).map B1)] (.osl 1 ((x :: r).map B1)) [] := by
  refine DC.intro tiOk Try.func40 rfl rfl rfl rfl rfl rfl rfl rfl [1000] ?_
  refine AW.reg tiOk (fun _ => []) [0] ?_
  intro k hk; simp -dsimp [go_sem, -decide_eq_true_eq, -decide_eq_false_iff_not]
  repeat' (first | refine And.intro ?_ ?_ | refine hk _ ?_ | intro hg | omega | exact True.intro)
  all_goals clear hk k
  refine AW.seq ?_
  refine AW.reg tiOk (fun _ => []) [0, 4] ?_
  intro k hk; simp -dsimp [go_sem, -decide_eq_true_eq, -decide_eq_false_iff_not]
  repeat' (first | refine And.intro ?_ ?_ | refine hk _ ?_ | intro hg | omega | exact True.intro)
  all_goals clear hk k
  refine AW.cond rfl ?_ ?_
  · intro hc; try simp at hc
    all_goals try (exfalso; simp at hc; done)
    all_goals (
      refine AW.reg tiOk (fun _ => []) [2] ?_
      intro k hk; simp -dsimp [go_sem, -decide_eq_true_eq, -decide_eq_false_iff_not]
      repeat' (first | refine And.intro ?_ ?_ | refine hk _ ?_ | intro hg | omega | exact True.intro)
      all_goals clear hk k
      refine AW.retF (ow := [1000]) (muts := []) ?_ (fun h => And.intro (.inr rfl) h)
      simp [go_sem, Try.results40])
  · intro hc; try simp at hc
    all_goals try (exfalso; simp at hc; done)
    all_goals (
      refine AW.skipN (fun _ h => h) ?_
      refine AW.reg tiOk (fun _ => []) [2] ?_
      intro k hk; simp -dsimp [go_sem, -decide_eq_true_eq, -decide_eq_false_iff_not]
      repeat' (first | refine And.intro ?_ ?_ | refine hk _ ?_ | intro hg | omega | exact True.intro)
      all_goals clear hk k
      refine AW.retF (ow := [1000]) (muts := []) ?_ (fun h => And.intro (.inr rfl) h)
      simp [go_sem, Try.results40])
theorem dc_Clone_ne (l : List UInt8) (h : l ≠ []) (hb : l.length ≤ 4194304) : DC Try.prog 40 [.isl 1 (l.map B1)] (.osl 1 (l.map B1)) [] := by
  cases l with
  | nil => exact absurd rfl h
  | cons x r => exact dc_slices_Clone_byte_byte_c x r hb
theorem dc_pack_I (s : List UInt8) (hs : s.length ≤ 1048576) : DC Try.prog 24 [.str s] (.isl 1 ((pk s).map B1)) [] := by
  have := (dc_impl_pack s hs).frz
  rwa [unown, B1_unL] at this

end Go.AM

/-! ### J6 -/
set_option linter.unusedVariables false
set_option linter.unusedSimpArgs false
namespace Go.AM
open Go.Proofs

set_option maxHeartbeats 600000 in
set_option linter.unusedSimpArgs false in
set_option maxRecDepth 100000 in
/-- slices.Concat[[]byte,byte] -/
theorem dc_slices_Concat_byte_byte_p (l : List (List UInt8)) (hl : l.length ≤ 1048576) (h0 : 0 < (cat l).length) (hb : (cat l).length ≤ 4194304) : DC Try.prog 41 [.isl 1 (l.map LB)] (.osl 1 ((cat l).map B1)) [] := by
  refine DC.intro tiOk Try.func41 rfl rfl rfl rfl rfl rfl rfl rfl [1000] ?_
  refine AW.reg tiOk (fun _ => []) [0] ?_
  intro k hk; simp -dsimp [go_sem, -decide_eq_true_eq, -decide_eq_false_iff_not]
  repeat' (first | refine And.intro ?_ ?_ | refine hk _ ?_ | intro hg | omega | exact True.intro)
  all_goals clear hk k
  refine AW.reg tiOk (fun _ => []) [0, 3] ?_
  intro k hk; simp -dsimp [go_sem, -decide_eq_true_eq, -decide_eq_false_iff_not]
  repeat' (first | refine And.intro ?_ ?_ | refine hk _ ?_ | intro hg | omega | exact True.intro)
  all_goals clear hk k
  refine AW.seq ?_
  refine AW.reg tiOk (fun _ => []) [0, 3, 9, 10, 11] ?_
  intro k hk; simp -dsimp [go_sem, -decide_eq_true_eq, -decide_eq_false_iff_not]
  repeat' (first | refine And.intro ?_ ?_ | refine hk _ ?_ | intro hg | omega | exact True.intro)
  all_goals clear hk k
  refine AW.block ?_
  -- live at the loop's head: [0, 3, 9, 10, 11]
  refine AW.loopI (fun i : Nat => ⟨36, [(0, .isl 1 (l.map LB)), (3, .int .i64 ((cat (l.take i)).length : Nat)), (9, .isl 1 (l.map LB)), (10, .int .i64 l.length), (11, .int .i64 i)], []⟩) (fun i => i ≤ l.length) (fun i => l.length - i) (0) (by simp) (Less.of rfl (by simp [go_sem]) (by simp [go_sem])) ?_
  rintro i hi
  refine AW.reg tiOk (fun _ => []) [0, 3, 9, 10, 11, 12] ?_
  intro k hk; simp -dsimp [go_sem, -decide_eq_true_eq, -decide_eq_false_iff_not]
  repeat' (first | refine And.intro ?_ ?_ | refine hk _ ?_ | intro hg | omega | exact True.intro)
  all_goals clear hk k
  refine AW.seq ?_
  refine AW.cond rfl ?_ ?_
  · intro hc; try simp at hc
    all_goals try (exfalso; omega; done)
    all_goals (
      have hlt : i < l.length := by assumption
      obtain ⟨x, hx⟩ := at_some hlt
      have hfs := flat_step hx
      have hfl := flat_stepL hx
      have hwf : IntKind.wrap .i64 ((((cat (l.take i)).length : Nat) : Int) + (x.length : Int)) = (((cat (l.take i)).length : Nat) : Int) + (x.length : Int) := wrap64 (by omega) (by omega)
      refine AW.skipN (fun _ h => h) ?_
      refine AW.seq ?_
      refine AW.block ?_
      refine AW.reg tiOk (fun _ => []) [0, 3, 5, 9, 10, 11] ?_
      intro k hk; simp -dsimp [go_sem, -decide_eq_true_eq, -decide_eq_false_iff_not, hx, hwf]
      repeat' (first | refine And.intro ?_ ?_ | refine hk _ ?_ | intro hg | omega | exact True.intro)
      all_goals clear hk k
      refine AW.reg tiOk (fun _ => []) [0, 3, 9, 10, 11] ?_
      intro k hk; simp -dsimp [go_sem, -decide_eq_true_eq, -decide_eq_false_iff_not, hx, hwf]
      repeat' (first | refine And.intro ?_ ?_ | refine hk _ ?_ | intro hg | omega | exact True.intro)
      all_goals clear hk k
      refine AW.reg tiOk (fun _ => []) [0, 3, 9, 10, 11, 20] ?_
      intro k hk; simp -dsimp [go_sem, -decide_eq_true_eq, -decide_eq_false_iff_not, hx, hwf]
      repeat' (first | refine And.intro ?_ ?_ | refine hk _ ?_ | intro hg | omega | exact True.intro)
      all_goals clear hk k
      refine AW.cond rfl ?_ ?_
      · intro hc; try simp at hc
        all_goals try (exfalso; omega; done)
        all_goals (
          refine AW.regN tiOk (fun _ => []) [0, 3, 9, 10, 11] (fun _ h => h) ?_
          intro k hk; simp -dsimp [go_sem, -decide_eq_true_eq, -decide_eq_false_iff_not, hx, hwf]
          repeat' (first | refine And.intro ?_ ?_ | refine hk _ ?_ | intro hg | omega | exact True.intro)
          all_goals clear hk k
          refine AW.regK tiOk (fun _ => []) ?_
          intro k hk; simp -dsimp [go_sem, -decide_eq_true_eq, -decide_eq_false_iff_not, hx, hwf]
          repeat' (first | refine And.intro ?_ ?_ | refine hk _ ?_ | intro hg | omega | exact True.intro)
          all_goals clear hk k
          show ∃ _, _
          have hw := wrapi hlt (by omega)
          refine ⟨i + 1, by omega, by omega, Less.of rfl (by simp [go_sem, hw, hfs]) (by simp [go_sem, hfs])⟩)
      · intro hc; try simp at hc
        all_goals try (exfalso; omega; done)
        all_goals (
          refine AW.skipN (fun _ h => h) ?_
          refine AW.regK tiOk (fun _ => []) ?_
          intro k hk; simp -dsimp [go_sem, -decide_eq_true_eq, -decide_eq_false_iff_not, hx, hwf]
          repeat' (first | refine And.intro ?_ ?_ | refine hk _ ?_ | intro hg | omega | exact True.intro)
          all_goals clear hk k
          show ∃ _, _
          have hw := wrapi hlt (by omega)
          refine ⟨i + 1, by omega, by omega, Less.of rfl (by simp [go_sem, hw, hfs]) (by simp [go_sem, hfs])⟩))
  · intro hc; try simp at hc
    all_goals try (exfalso; omega; done)
    all_goals (
      refine AW.exitN (fun _ h => h) ?_
      rw [flat_end (by omega)]
      refine AW.reg tiOk (fun _ => []) [0, 6] ?_
      intro k hk; simp -dsimp (maxSteps := 2000000) [go_sem, -decide_eq_true_eq, -decide_eq_false_iff_not]
      repeat' (first | refine And.intro ?_ ?_ | refine hk _ ?_ | intro hg | (refine CallK.intro (dc_slices_Grow_byte_byte_n (cat l).length h0 hb) ?_; simp -dsimp (maxSteps := 2000000) [go_sem, -decide_eq_true_eq, -decide_eq_false_iff_not]) | omega | exact True.intro)
      all_goals clear hk k
      refine AW.seq ?_
      refine AW.reg tiOk (fun _ => []) [6, 25, 26, 27] ?_
      intro k hk; simp -dsimp [go_sem, -decide_eq_true_eq, -decide_eq_false_iff_not]
      repeat' (first | refine And.intro ?_ ?_ | refine hk _ ?_ | intro hg | omega | exact True.intro)
      all_goals clear hk k
      refine AW.block ?_
      -- live at the loop's head: [6, 25, 26, 27]
      refine AW.rename (nd := ?nd_1) 1024 33 ?h1_1 ?h2_1 ?h4_1 ?kk_1
      (case h1_1 => exact rfl)
      (case h2_1 => simp [go_sem])
      (case h4_1 => simp [go_sem])
      refine AW.loopI (fun i : Nat => ⟨36, [(6, .sl 33 1 0 (cat (l.take i)).length), (25, .isl 1 (l.map LB)), (26, .int .i64 l.length), (27, .int .i64 i)], [(33, some ⟨1, (cat (l.take i)).map B1⟩)]⟩) (fun i => i ≤ l.length) (fun i => l.length - i) (0) (by simp) (Less.of rfl (by simp [go_sem]) (by simp [go_sem])) ?_
      rintro i hi
      refine AW.rename (nd := ?nd_2) 33 1024 ?h1_2 ?h2_2 ?h4_2 ?kk_2
      (case h1_2 => exact rfl)
      (case h2_2 => simp [go_sem])
      (case h4_2 => simp [go_sem])
      refine AW.reg tiOk (fun _ => []) [6, 25, 26, 27, 28] ?_
      intro k hk; simp -dsimp [go_sem, -decide_eq_true_eq, -decide_eq_false_iff_not]
      repeat' (first | refine And.intro ?_ ?_ | refine hk _ ?_ | intro hg | omega | exact True.intro)
      all_goals clear hk k
      refine AW.seq ?_
      refine AW.cond rfl ?_ ?_
      · intro hc; try simp at hc
        all_goals try (exfalso; omega; done)
        all_goals (
          have hlt : i < l.length := by assumption
          obtain ⟨x, hx⟩ := at_some hlt
          have hfs := flat_step hx
          have hfl := flat_stepL hx
          refine AW.skipN (fun _ h => h) ?_
          refine AW.seq ?_
          refine AW.block ?_
          refine AW.reg tiOk (fun _ => []) [6, 8, 25, 26, 27] ?_
          intro k hk; simp -dsimp [go_sem, -decide_eq_true_eq, -decide_eq_false_iff_not, hx]
          repeat' (first | refine And.intro ?_ ?_ | refine hk _ ?_ | intro hg | omega | exact True.intro)
          all_goals clear hk k
          refine AW.regN tiOk (fun _ => []) [6, 25, 26, 27] (fun _ h => h) ?_
          intro k hk; simp -dsimp [go_sem, -decide_eq_true_eq, -decide_eq_false_iff_not, hx]
          repeat' (first | refine And.intro ?_ ?_ | refine hk _ ?_ | intro hg | omega | exact True.intro)
          all_goals clear hk k
          refine AW.regK tiOk (fun _ => []) ?_
          intro k hk; simp -dsimp [go_sem, -decide_eq_true_eq, -decide_eq_false_iff_not, hx]
          repeat' (first | refine And.intro ?_ ?_ | refine hk _ ?_ | intro hg | omega | exact True.intro)
          all_goals clear hk k
          show ∃ _, _
          have hw := wrapi hlt (by omega)
          refine ⟨i + 1, by omega, by omega, Less.of rfl (by simp [go_sem, hw, hfs]) (by simp [go_sem, hfs])⟩)
      · intro hc; try simp at hc
        all_goals try (exfalso; omega; done)
        all_goals (
          refine AW.exitN (fun _ h => h) ?_
          refine AW.reg tiOk (fun _ => []) [2] ?_
          intro k hk; simp -dsimp [go_sem, -decide_eq_true_eq, -decide_eq_false_iff_not]
          repeat' (first | refine And.intro ?_ ?_ | refine hk _ ?_ | intro hg | omega | exact True.intro)
          all_goals clear hk k
          refine AW.retF (ow := [1000]) (muts := []) ?_ (fun h => And.intro (.inr rfl) h)
          rw [flat_end (by omega)]; simp [go_sem, Try.results41]))

end Go.AM

/-! ### J7 -/
set_option linter.unusedVariables false
set_option linter.unusedSimpArgs false
namespace Go.AM
open Go.Proofs

set_option maxHeartbeats 600000 in
set_option linter.unusedSimpArgs false in
set_option maxRecDepth 100000 in
/-- slices.Concat[[]byte,byte] -/
theorem dc_slices_Concat_byte_byte_z (l : List (List UInt8)) (hl : l.length ≤ 1048576) (h0 : cat l = []) : DC Try.prog 41 [.isl 1 (l.map LB)] (.isl 1 []) [] := by
  have hb : (cat l).length = 0 := by rw [h0]; rfl
  refine DC.intro tiOk Try.func41 rfl rfl rfl rfl rfl rfl rfl rfl [] ?_
  refine AW.reg tiOk (fun _ => []) [0] ?_
  intro k hk; simp -dsimp [go_sem, -decide_eq_true_eq, -decide_eq_false_iff_not]
  repeat' (first | refine And.intro ?_ ?_ | refine hk _ ?_ | intro hg | omega | exact True.intro)
  all_goals clear hk k
  refine AW.reg tiOk (fun _ => []) [0, 3] ?_
  intro k hk; simp -dsimp [go_sem, -decide_eq_true_eq, -decide_eq_false_iff_not]
  repeat' (first | refine And.intro ?_ ?_ | refine hk _ ?_ | intro hg | omega | exact True.intro)
  all_goals clear hk k
  refine AW.seq ?_
  refine AW.reg tiOk (fun _ => []) [0, 3, 9, 10, 11] ?_
  intro k hk; simp -dsimp [go_sem, -decide_eq_true_eq, -decide_eq_false_iff_not]
  repeat' (first | refine And.intro ?_ ?_ | refine hk _ ?_ | intro hg | omega | exact True.intro)
  all_goals clear hk k
  refine AW.block ?_
  -- live at the loop's head: [0, 3, 9, 10, 11]
  refine AW.loopI (fun i : Nat => ⟨36, [(0, .isl 1 (l.map LB)), (3, .int .i64 ((cat (l.take i)).length : Nat)), (9, .isl 1 (l.map LB)), (10, .int .i64 l.length), (11, .int .i64 i)], []⟩) (fun i => i ≤ l.length) (fun i => l.length - i) (0) (by simp) (Less.of rfl (by simp [go_sem]) (by simp [go_sem])) ?_
  rintro i hi
  refine AW.reg tiOk (fun _ => []) [0, 3, 9, 10, 11, 12] ?_
  intro k hk; simp -dsimp [go_sem, -decide_eq_true_eq, -decide_eq_false_iff_not]
  repeat' (first | refine And.intro ?_ ?_ | refine hk _ ?_ | intro hg | omega | exact True.intro)
  all_goals clear hk k
  refine AW.seq ?_
  refine AW.cond rfl ?_ ?_
  · intro hc; try simp at hc
    all_goals try (exfalso; omega; done)
    all_goals (
      have hlt : i < l.length := by assumption
      obtain ⟨x, hx⟩ := at_some hlt
      have hfs := flat_step hx
      have hfl := flat_stepL hx
      have hwf : IntKind.wrap .i64 ((((cat (l.take i)).length : Nat) : Int) + (x.length : Int)) = (((cat (l.take i)).length : Nat) : Int) + (x.length : Int) := wrap64 (by omega) (by omega)
      refine AW.skipN (fun _ h => h) ?_
      refine AW.seq ?_
      refine AW.block ?_
      refine AW.reg tiOk (fun _ => []) [0, 3, 5, 9, 10, 11] ?_
      intro k hk; simp -dsimp [go_sem, -decide_eq_true_eq, -decide_eq_false_iff_not, hx, hwf]
      repeat' (first | refine And.intro ?_ ?_ | refine hk _ ?_ | intro hg | omega | exact True.intro)
      all_goals clear hk k
      refine AW.reg tiOk (fun _ => []) [0, 3, 9, 10, 11] ?_
      intro k hk; simp -dsimp [go_sem, -decide_eq_true_eq, -decide_eq_false_iff_not, hx, hwf]
      repeat' (first | refine And.intro ?_ ?_ | refine hk _ ?_ | intro hg | omega | exact True.intro)
      all_goals clear hk k
      refine AW.reg tiOk (fun _ => []) [0, 3, 9, 10, 11, 20] ?_
      intro k hk; simp -dsimp [go_sem, -decide_eq_true_eq, -decide_eq_false_iff_not, hx, hwf]
      repeat' (first | refine And.intro ?_ ?_ | refine hk _ ?_ | intro hg | omega | exact True.intro)
      all_goals clear hk k
      refine AW.cond rfl ?_ ?_
      · intro hc; try simp at hc
        all_goals try (exfalso; omega; done)
        all_goals (
          refine AW.regN tiOk (fun _ => []) [0, 3, 9, 10, 11] (fun _ h => h) ?_
          intro k hk; simp -dsimp [go_sem, -decide_eq_true_eq, -decide_eq_false_iff_not, hx, hwf]
          repeat' (first | refine And.intro ?_ ?_ | refine hk _ ?_ | intro hg | omega | exact True.intro)
          all_goals clear hk k
          refine AW.regK tiOk (fun _ => []) ?_
          intro k hk; simp -dsimp [go_sem, -decide_eq_true_eq, -decide_eq_false_iff_not, hx, hwf]
          repeat' (first | refine And.intro ?_ ?_ | refine hk _ ?_ | intro hg | omega | exact True.intro)
          all_goals clear hk k
          show ∃ _, _
          have hw := wrapi hlt (by omega)
          refine ⟨i + 1, by omega, by omega, Less.of rfl (by simp [go_sem, hw, hfs]) (by simp [go_sem, hfs])⟩)
      · intro hc; try simp at hc
        all_goals try (exfalso; omega; done)
        all_goals (
          refine AW.skipN (fun _ h => h) ?_
          refine AW.regK tiOk (fun _ => []) ?_
          intro k hk; simp -dsimp [go_sem, -decide_eq_true_eq, -decide_eq_false_iff_not, hx, hwf]
          repeat' (first | refine And.intro ?_ ?_ | refine hk _ ?_ | intro hg | omega | exact True.intro)
          all_goals clear hk k
          show ∃ _, _
          have hw := wrapi hlt (by omega)
          refine ⟨i + 1, by omega, by omega, Less.of rfl (by simp [go_sem, hw, hfs]) (by simp [go_sem, hfs])⟩))
  · intro hc; try simp at hc
    all_goals try (exfalso; omega; done)
    all_goals (
      refine AW.exitN (fun _ h => h) ?_
      rw [flat_end (by omega), h0]
      refine AW.reg tiOk (fun _ => []) [0, 6] ?_
      intro k hk; simp -dsimp (maxSteps := 2000000) [go_sem, -decide_eq_true_eq, -decide_eq_false_iff_not]
      repeat' (first | refine And.intro ?_ ?_ | refine hk _ ?_ | intro hg | (refine CallK.intro (dc_slices_Grow_byte_byte_z) ?_; simp -dsimp (maxSteps := 2000000) [go_sem, -decide_eq_true_eq, -decide_eq_false_iff_not]) | omega | exact True.intro)
      all_goals clear hk k
      refine AW.seq ?_
      refine AW.reg tiOk (fun _ => []) [6, 25, 26, 27] ?_
      intro k hk; simp -dsimp [go_sem, -decide_eq_true_eq, -decide_eq_false_iff_not]
      repeat' (first | refine And.intro ?_ ?_ | refine hk _ ?_ | intro hg | omega | exact True.intro)
      all_goals clear hk k
      refine AW.block ?_
      -- live at the loop's head: [6, 25, 26, 27]
      refine AW.loopI (fun i : Nat => ⟨36, [(6, .nils), (25, .isl 1 (l.map LB)), (26, .int .i64 l.length), (27, .int .i64 i)], []⟩) (fun i => i ≤ l.length) (fun i => l.length - i) (0) (by simp) (Less.of rfl (by simp [go_sem]) (by simp [go_sem])) ?_
      rintro i hi
      refine AW.reg tiOk (fun _ => []) [6, 25, 26, 27, 28] ?_
      intro k hk; simp -dsimp [go_sem, -decide_eq_true_eq, -decide_eq_false_iff_not]
      repeat' (first | refine And.intro ?_ ?_ | refine hk _ ?_ | intro hg | omega | exact True.intro)
      all_goals clear hk k
      refine AW.seq ?_
      refine AW.cond rfl ?_ ?_
      · intro hc; try simp at hc
        all_goals try (exfalso; omega; done)
        all_goals (
          have hlt : i < l.length := by assumption
          obtain ⟨x, hx⟩ := at_some hlt
          have hfs := flat_step hx
          have hfl := flat_stepL hx
          obtain rfl : x = [] := flat_nil hx hb
          refine AW.skipN (fun _ h => h) ?_
          refine AW.seq ?_
          refine AW.block ?_
          refine AW.reg tiOk (fun _ => []) [6, 8, 25, 26, 27] ?_
          intro k hk; simp -dsimp [go_sem, -decide_eq_true_eq, -decide_eq_false_iff_not, hx]
          repeat' (first | refine And.intro ?_ ?_ | refine hk _ ?_ | intro hg | omega | exact True.intro)
          all_goals clear hk k
          refine AW.regN tiOk (fun _ => []) [6, 25, 26, 27] (fun _ h => h) ?_
          intro k hk; simp -dsimp [go_sem, -decide_eq_true_eq, -decide_eq_false_iff_not, hx]
          repeat' (first | refine And.intro ?_ ?_ | refine hk _ ?_ | intro hg | omega | exact True.intro)
          all_goals clear hk k
          refine AW.regK tiOk (fun _ => []) ?_
          intro k hk; simp -dsimp [go_sem, -decide_eq_true_eq, -decide_eq_false_iff_not, hx]
          repeat' (first | refine And.intro ?_ ?_ | refine hk _ ?_ | intro hg | omega | exact True.intro)
          all_goals clear hk k
          show ∃ _, _
          have hw := wrapi hlt (by omega)
          refine ⟨i + 1, by omega, by omega, Less.of rfl (by simp [go_sem, hw, hfs]) (by simp [go_sem, hfs])⟩)
      · intro hc; try simp at hc
        all_goals try (exfalso; omega; done)
        all_goals (
          refine AW.exitN (fun _ h => h) ?_
          refine AW.reg tiOk (fun _ => []) [2] ?_
          intro k hk; simp -dsimp [go_sem, -decide_eq_true_eq, -decide_eq_false_iff_not]
          repeat' (first | refine And.intro ?_ ?_ | refine hk _ ?_ | intro hg | omega | exact True.intro)
          all_goals clear hk k
          refine AW.retF (ow := []) (muts := []) ?_ (fun h => And.intro (.inr rfl) h)
          simp [go_sem, Try.results41]))
theorem dc_Concat_I (l : List (List UInt8)) (hl : l.length ≤ 1048576) (hb : (cat l).length ≤ 4194304) : DC Try.prog 41 [.isl 1 (l.map LB)] (.isl 1 ((cat l).map B1)) [] := by
  rcases Nat.eq_zero_or_pos (cat l).length with h | h
  · have e := List.eq_nil_of_length_eq_zero h
    rw [e]
    exact dc_slices_Concat_byte_byte_z l hl e
  · have := (dc_slices_Concat_byte_byte_p l hl h hb).frz
    rwa [unown, B1_unL] at this

set_option maxHeartbeats 600000 in
set_option linter.unusedSimpArgs false in
set_option maxRecDepth 100000 in
/-- (impl.Journal).lines -/
theorem dc_impl_Journal_lines_p (s l : List UInt8) (hz : s.length + l.length ≤ 1048576) (h0 : 0 < (cat [s, l]).length) : DC Try.prog 52 [.agg [.isl 1 (s.map B1), .isl 1 (l.map B1)]] (.osl 1 ((rd (cat [s, l])).1.map S1)) [] := by
  have hcl : (cat [s, l]).length = s.length + l.length := by rw [cat_two, List.length_append]
  refine DC.intro tiOk Try.func52 rfl rfl rfl rfl rfl rfl rfl rfl [1000] ?_
  refine AW.reg tiOk (fun _ => []) [1] ?_
  intro k hk; simp -dsimp [go_sem, -decide_eq_true_eq, -decide_eq_false_iff_not]
  repeat' (first | refine And.intro ?_ ?_ | refine hk _ ?_ | intro hg | omega | exact True.intro)
  all_goals clear hk k
  refine AW.reg tiOk (fun _ => []) [3] ?_
  intro k hk; simp -dsimp (maxSteps := 2000000) [go_sem, -decide_eq_true_eq, -decide_eq_false_iff_not]
  repeat' (first | refine And.intro ?_ ?_ | refine hk _ ?_ | intro hg | (refine CallK.intro (dc_slices_Concat_byte_byte_p [s, l] (by simp) h0 (by omega)) ?_; simp -dsimp (maxSteps := 2000000) [go_sem, -decide_eq_true_eq, -decide_eq_false_iff_not]) | (refine CallK.intro ((dc_impl_readLines (cat [s, l]) (by omega) (by omega)).any2) ?_; simp -dsimp (maxSteps := 2000000) [go_sem, -decide_eq_true_eq, -decide_eq_false_iff_not]) | omega | exact True.intro)
  all_goals clear hk k
  refine AW.reg tiOk (fun _ => []) [2] ?_
  intro k hk; simp -dsimp [go_sem, -decide_eq_true_eq, -decide_eq_false_iff_not]
  repeat' (first | refine And.intro ?_ ?_ | refine hk _ ?_ | intro hg | omega | exact True.intro)
  all_goals clear hk k
  refine AW.retF (ow := [1000]) (muts := []) ?_ (fun h => And.intro (.inr rfl) h)
  simp [go_sem, Try.results52]

set_option maxHeartbeats 600000 in
set_option linter.unusedSimpArgs false in
set_option maxRecDepth 100000 in
/-- (impl.Journal).lines -/
theorem dc_impl_Journal_lines_z (s l : List UInt8) (hz : s.length + l.length ≤ 1048576) (h0 : cat [s, l] = []) : DC Try.prog 52 [.agg [.isl 1 (s.map B1), .isl 1 (l.map B1)]] (.osl 1 ((rd (cat [s, l])).1.map S1)) [] := by
  have hcl : (cat [s, l]).length = s.length + l.length := by rw [cat_two, List.length_append]
  refine DC.intro tiOk Try.func52 rfl rfl rfl rfl rfl rfl rfl rfl [1000] ?_
  refine AW.reg tiOk (fun _ => []) [1] ?_
  intro k hk; simp -dsimp [go_sem, -decide_eq_true_eq, -decide_eq_false_iff_not]
  repeat' (first | refine And.intro ?_ ?_ | refine hk _ ?_ | intro hg | omega | exact True.intro)
  all_goals clear hk k
  refine AW.reg tiOk (fun _ => []) [3] ?_
  intro k hk; simp -dsimp (maxSteps := 2000000) [go_sem, -decide_eq_true_eq, -decide_eq_false_iff_not]
  repeat' (first | refine And.intro ?_ ?_ | refine hk _ ?_ | intro hg | (refine CallK.intro (dc_slices_Concat_byte_byte_z [s, l] (by simp) h0) ?_; simp -dsimp (maxSteps := 2000000) [go_sem, -decide_eq_true_eq, -decide_eq_false_iff_not]) | (refine CallK.intro ((dc_impl_readLines [] (by simp) (by simp)).any2) ?_; simp -dsimp (maxSteps := 2000000) [go_sem, -decide_eq_true_eq, -decide_eq_false_iff_not]) | omega | exact True.intro)
  all_goals clear hk k
  refine AW.reg tiOk (fun _ => []) [2] ?_
  intro k hk; simp -dsimp [go_sem, -decide_eq_true_eq, -decide_eq_false_iff_not]
  repeat' (first | refine And.intro ?_ ?_ | refine hk _ ?_ | intro hg | omega | exact True.intro)
  all_goals clear hk k
  refine AW.retF (ow := [1000]) (muts := []) ?_ (fun h => And.intro (.inr rfl) h)
  simp [go_sem, Try.results52, h0]
theorem dc_impl_Journal_lines (s l : List UInt8) (hz : s.length + l.length ≤ 1048576) : DC Try.prog 52 [.agg [.isl 1 (s.map B1), .isl 1 (l.map B1)]] (.osl 1 ((rd (cat [s, l])).1.map S1)) [] := by
  rcases Nat.eq_zero_or_pos (cat [s, l]).length with h | h
  · exact dc_impl_Journal_lines_z s l hz (List.eq_nil_of_length_eq_zero h)
  · exact dc_impl_Journal_lines_p s l hz h

end Go.AM

/-! ### J8 -/
set_option linter.unusedVariables false
set_option linter.unusedSimpArgs false
namespace Go.AM
open Go.Proofs

set_option maxHeartbeats 600000 in
set_option linter.unusedSimpArgs false in
set_option maxRecDepth 100000 in
/-- impl.told -/
theorem dc_impl_told_oo (s : List UInt8) (l : List UInt8) (hz : s.length + l.length ≤ 1048576) : DC Try.prog 42 [.agg [.osl 1 (s.map B1), .osl 1 (l.map B1)]] (.agg [.int .i64 0, .int .i64 ((rd (cat [s, l])).1.length : Nat), .osl 1 (s.map B1), .osl 1 (l.map B1)]) [] := by
  have hr0 : rd [] = ([], 0) := rd_no isL_nil
  refine DC.intro tiOk Try.func42 rfl rfl rfl rfl rfl rfl rfl rfl [1000] ?_
  refine AW.reg tiOk (fun _ => []) [1, 2] ?_
  intro k hk; simp -dsimp [go_sem, -decide_eq_true_eq, -decide_eq_false_iff_not]
  repeat' (first | refine And.intro ?_ ?_ | refine hk _ ?_ | intro hg | omega | exact True.intro)
  all_goals clear hk k
  refine AW.reg tiOk (fun _ => []) [2] ?_
  intro k hk; simp -dsimp (maxSteps := 2000000) [go_sem, -decide_eq_true_eq, -decide_eq_false_iff_not]
  repeat' (first | refine And.intro ?_ ?_ | (refine Chk.keys ?_; simp only [go_sem, List.map_cons, List.map_nil, List.flatMap_cons, List.flatMap_nil, List.flatMap_append, List.append_nil, List.nil_append, List.cons_append]; decide +kernel) | refine hk _ ?_ | intro hg | (refine CallK.intro (dc_impl_Journal_lines s l (by first | omega | (simp; omega) | simp)) ?_; simp -dsimp (maxSteps := 2000000) [go_sem, -decide_eq_true_eq, -decide_eq_false_iff_not]) | omega | exact True.intro)
  all_goals clear hk k
  refine AW.retF (ow := [1000]) (muts := []) ?_ (fun h => And.intro (.inr rfl) h)
  simp [go_sem, Try.results42, hr0]

set_option maxHeartbeats 600000 in
set_option linter.unusedSimpArgs false in
set_option maxRecDepth 100000 in
/-- impl.told -/
theorem dc_impl_told_on (s : List UInt8) (hz : s.length ≤ 1048576) : DC Try.prog 42 [.agg [.osl 1 (s.map B1), .nils]] (.agg [.int .i64 0, .int .i64 ((rd s).1.length : Nat), .osl 1 (s.map B1), .isl 1 []]) [] := by
  have hr0 : rd [] = ([], 0) := rd_no isL_nil
  refine DC.intro tiOk Try.func42 rfl rfl rfl rfl rfl rfl rfl rfl [1000] ?_
  refine AW.reg tiOk (fun _ => []) [1, 2] ?_
  intro k hk; simp -dsimp [go_sem, -decide_eq_true_eq, -decide_eq_false_iff_not]
  repeat' (first | refine And.intro ?_ ?_ | refine hk _ ?_ | intro hg | omega | exact True.intro)
  all_goals clear hk k
  refine AW.cellLe (nd := ?nd_1) (c := ?c_1) (x := ?x_1) 1 0 1 (.isl 1 []) ?h1_1 ?h2_1 ?h3_1 ?h4_1 ?kk_1
  (case h1_1 => exact rfl)
  (case h2_1 => exact rfl)
  (case h3_1 => exact rfl)
  (case h4_1 => simp [go_sem])
  refine AW.reg tiOk (fun _ => []) [2] ?_
  intro k hk; simp -dsimp (maxSteps := 2000000) [go_sem, -decide_eq_true_eq, -decide_eq_false_iff_not]
  repeat' (first | refine And.intro ?_ ?_ | (refine Chk.keys ?_; simp only [go_sem, List.map_cons, List.map_nil, List.flatMap_cons, List.flatMap_nil, List.flatMap_append, List.append_nil, List.nil_append, List.cons_append]; decide +kernel) | refine hk _ ?_ | intro hg | (refine CallK.intro (dc_impl_Journal_lines s [] (by first | omega | (simp; omega) | simp)) ?_; simp -dsimp (maxSteps := 2000000) [go_sem, -decide_eq_true_eq, -decide_eq_false_iff_not]) | omega | exact True.intro)
  all_goals clear hk k
  refine AW.retF (ow := [1000]) (muts := []) ?_ (fun h => And.intro (.inr rfl) h)
  simp [go_sem, Try.results42, hr0]

set_option maxHeartbeats 600000 in
set_option linter.unusedSimpArgs false in
set_option maxRecDepth 100000 in
/-- impl.told -/
theorem dc_impl_told_no (l : List UInt8) (hz : l.length ≤ 1048576) : DC Try.prog 42 [.agg [.isl 1 [], .osl 1 (l.map B1)]] (.agg [.int .i64 0, .int .i64 ((rd l).1.length : Nat), .isl 1 [], .osl 1 (l.map B1)]) [] := by
  have hr0 : rd [] = ([], 0) := rd_no isL_nil
  refine DC.intro tiOk Try.func42 rfl rfl rfl rfl rfl rfl rfl rfl [1000] ?_
  refine AW.reg tiOk (fun _ => []) [1, 2] ?_
  intro k hk; simp -dsimp [go_sem, -decide_eq_true_eq, -decide_eq_false_iff_not]
  repeat' (first | refine And.intro ?_ ?_ | refine hk _ ?_ | intro hg | omega | exact True.intro)
  all_goals clear hk k
  refine AW.reg tiOk (fun _ => []) [2] ?_
  intro k hk; simp -dsimp (maxSteps := 2000000) [go_sem, -decide_eq_true_eq, -decide_eq_false_iff_not]
  repeat' (first | refine And.intro ?_ ?_ | (refine Chk.keys ?_; simp only [go_sem, List.map_cons, List.map_nil, List.flatMap_cons, List.flatMap_nil, List.flatMap_append, List.append_nil, List.nil_append, List.cons_append]; decide +kernel) | refine hk _ ?_ | intro hg | (refine CallK.intro (dc_impl_Journal_lines [] l (by first | omega | (simp; omega) | simp)) ?_; simp -dsimp (maxSteps := 2000000) [go_sem, -decide_eq_true_eq, -decide_eq_false_iff_not]) | omega | exact True.intro)
  all_goals clear hk k
  refine AW.retF (ow := [1000]) (muts := []) ?_ (fun h => And.intro (.inr rfl) h)
  simp [go_sem, Try.results42, hr0]

set_option maxHeartbeats 600000 in
set_option linter.unusedSimpArgs false in
set_option maxRecDepth 100000 in
/-- impl.told -/
theorem dc_impl_told_nn   : DC Try.prog 42 [.agg [.isl 1 [], .nils]] (.agg [.int .i64 0, .int .i64 0, .isl 1 [], .isl 1 []]) [] := by
  have hr0 : rd [] = ([], 0) := rd_no isL_nil
  refine DC.intro tiOk Try.func42 rfl rfl rfl rfl rfl rfl rfl rfl [1000] ?_
  refine AW.reg tiOk (fun _ => []) [1, 2] ?_
  intro k hk; simp -dsimp [go_sem, -decide_eq_true_eq, -decide_eq_false_iff_not]
  repeat' (first | refine And.intro ?_ ?_ | refine hk _ ?_ | intro hg | omega | exact True.intro)
  all_goals clear hk k
  refine AW.cellLe (nd := ?nd_1) (c := ?c_1) (x := ?x_1) 1 0 1 (.isl 1 []) ?h1_1 ?h2_1 ?h3_1 ?h4_1 ?kk_1
  (case h1_1 => exact rfl)
  (case h2_1 => exact rfl)
  (case h3_1 => exact rfl)
  (case h4_1 => simp [go_sem])
  refine AW.reg tiOk (fun _ => []) [2] ?_
  intro k hk; simp -dsimp (maxSteps := 2000000) [go_sem, -decide_eq_true_eq, -decide_eq_false_iff_not]
  repeat' (first | refine And.intro ?_ ?_ | (refine Chk.keys ?_; simp only [go_sem, List.map_cons, List.map_nil, List.flatMap_cons, List.flatMap_nil, List.flatMap_append, List.append_nil, List.nil_append, List.cons_append]; decide +kernel) | refine hk _ ?_ | intro hg | (refine CallK.intro (dc_impl_Journal_lines [] [] (by first | omega | (simp; omega) | simp)) ?_; simp -dsimp (maxSteps := 2000000) [go_sem, -decide_eq_true_eq, -decide_eq_false_iff_not]) | omega | exact True.intro)
  all_goals clear hk k
  refine AW.retF (ow := [1000]) (muts := []) ?_ (fun h => And.intro (.inr rfl) h)
  simp [go_sem, Try.results42, hr0]

end Go.AM

/-! ### J9 -/
set_option linter.unusedVariables false
set_option linter.unusedSimpArgs false
namespace Go.AM
open Go.Proofs

set_option maxHeartbeats 600000 in
set_option linter.unusedSimpArgs false in
set_option maxRecDepth 100000 in
/-- spec.l13Of -/
theorem dc_spec_l13Of_oo (s : List UInt8) (l : List UInt8) (hz : s.length + l.length ≤ 1048576) : DC Try.prog 45 [.isl 1 (s.map B1), .isl 1 (l.map B1)] (.agg [.int .i64 0, .int .i64 (((rd s).1.length : Nat) + ((rd l).1.length : Nat)), .osl 1 (s.map B1), .osl 1 (l.map B1)]) [] := by
  have hrs := rd_lines s
  have hrl := rd_lines l
  have hr0 : rd [] = ([], 0) := rd_no isL_nil
  have hwc : IntKind.wrap .i64 (((rd s).1.length : Int) + ((rd l).1.length : Int)) = ((rd s).1.length : Int) + ((rd l).1.length : Int) := wrap64 (by omega) (by omega)
  refine DC.intro tiOk Try.func45 rfl rfl rfl rfl rfl rfl rfl rfl [1000] ?_
  refine AW.reg tiOk (fun _ => []) [0, 1, 4] ?_
  intro k hk; simp -dsimp [go_sem, -decide_eq_true_eq, -decide_eq_false_iff_not, hwc, hr0]
  repeat' (first | refine And.intro ?_ ?_ | refine hk _ ?_ | intro hg | omega | exact True.intro)
  all_goals clear hk k
  refine AW.reg tiOk (fun _ => []) [0, 1, 4, 5] ?_
  intro k hk; simp -dsimp (maxSteps := 2000000) [go_sem, -decide_eq_true_eq, -decide_eq_false_iff_not, hwc, hr0]
  repeat' (first | refine And.intro ?_ ?_ | refine hk _ ?_ | intro hg | (refine CallK.intro (dc_spec_l13Read s (by first | omega | simp)) ?_; simp -dsimp (maxSteps := 2000000) [go_sem, -decide_eq_true_eq, -decide_eq_false_iff_not, hwc, hr0]) | (refine CallK.intro (dc_spec_l13Read l (by first | omega | simp)) ?_; simp -dsimp (maxSteps := 2000000) [go_sem, -decide_eq_true_eq, -decide_eq_false_iff_not, hwc, hr0]) | omega | exact True.intro)
  all_goals clear hk k
  refine AW.reg tiOk (fun _ => []) [0, 1, 4, 5, 7] ?_
  intro k hk; simp -dsimp (maxSteps := 2000000) [go_sem, -decide_eq_true_eq, -decide_eq_false_iff_not, hwc, hr0]
  repeat' (first | refine And.intro ?_ ?_ | refine hk _ ?_ | intro hg | (refine CallK.intro (dc_spec_l13Read s (by first | omega | simp)) ?_; simp -dsimp (maxSteps := 2000000) [go_sem, -decide_eq_true_eq, -decide_eq_false_iff_not, hwc, hr0]) | (refine CallK.intro (dc_spec_l13Read l (by first | omega | simp)) ?_; simp -dsimp (maxSteps := 2000000) [go_sem, -decide_eq_true_eq, -decide_eq_false_iff_not, hwc, hr0]) | omega | exact True.intro)
  all_goals clear hk k
  refine AW.reg tiOk (fun _ => []) [4] ?_
  intro k hk; simp -dsimp (maxSteps := 2000000) [go_sem, -decide_eq_true_eq, -decide_eq_false_iff_not, hwc, hr0]
  repeat' (first | refine And.intro ?_ ?_ | refine hk _ ?_ | intro hg | omega | exact True.intro)
  all_goals clear hk k
  refine AW.retF (ow := [1000]) (muts := []) ?_ (fun h => And.intro (.inr rfl) h)
  simp [go_sem, Try.results45, hr0]

set_option maxHeartbeats 600000 in
set_option linter.unusedSimpArgs false in
set_option maxRecDepth 100000 in
/-- spec.l13Of -/
theorem dc_spec_l13Of_on (s : List UInt8) (hz : s.length ≤ 1048576) : DC Try.prog 45 [.isl 1 (s.map B1), .nils] (.agg [.int .i64 0, .int .i64 (((rd s).1.length : Nat)), .osl 1 (s.map B1), .isl 1 []]) [] := by
  have hrs := rd_lines s
  have hrl := rd_lines []
  have hr0 : rd [] = ([], 0) := rd_no isL_nil
  have hwc : IntKind.wrap .i64 (((rd s).1.length : Int)) = ((rd s).1.length : Int) := wrap64 (by omega) (by omega)
  refine DC.intro tiOk Try.func45 rfl rfl rfl rfl rfl rfl rfl rfl [1000] ?_
  refine AW.reg tiOk (fun _ => []) [0, 1, 4] ?_
  intro k hk; simp -dsimp [go_sem, -decide_eq_true_eq, -decide_eq_false_iff_not, hwc, hr0]
  repeat' (first | refine And.intro ?_ ?_ | refine hk _ ?_ | intro hg | omega | exact True.intro)
  all_goals clear hk k
  refine AW.slotLe (x := ?x_1) 1 (.isl 1 []) ?h1_1 ?h2_1 ?kk_1
  (case h1_1 => exact rfl)
  (case h2_1 => simp [go_sem])
  refine AW.reg tiOk (fun _ => []) [0, 1, 4, 5] ?_
  intro k hk; simp -dsimp (maxSteps := 2000000) [go_sem, -decide_eq_true_eq, -decide_eq_false_iff_not, hwc, hr0]
  repeat' (first | refine And.intro ?_ ?_ | refine hk _ ?_ | intro hg | (refine CallK.intro (dc_spec_l13Read s (by first | omega | simp)) ?_; simp -dsimp (maxSteps := 2000000) [go_sem, -decide_eq_true_eq, -decide_eq_false_iff_not, hwc, hr0]) | (refine CallK.intro (dc_spec_l13Read [] (by first | omega | simp)) ?_; simp -dsimp (maxSteps := 2000000) [go_sem, -decide_eq_true_eq, -decide_eq_false_iff_not, hwc, hr0]) | omega | exact True.intro)
  all_goals clear hk k
  refine AW.reg tiOk (fun _ => []) [0, 1, 4, 5, 7] ?_
  intro k hk; simp -dsimp (maxSteps := 2000000) [go_sem, -decide_eq_true_eq, -decide_eq_false_iff_not, hwc, hr0]
  repeat' (first | refine And.intro ?_ ?_ | refine hk _ ?_ | intro hg | (refine CallK.intro (dc_spec_l13Read s (by first | omega | simp)) ?_; simp -dsimp (maxSteps := 2000000) [go_sem, -decide_eq_true_eq, -decide_eq_false_iff_not, hwc, hr0]) | (refine CallK.intro (dc_spec_l13Read [] (by first | omega | simp)) ?_; simp -dsimp (maxSteps := 2000000) [go_sem, -decide_eq_true_eq, -decide_eq_false_iff_not, hwc, hr0]) | omega | exact True.intro)
  all_goals clear hk k
  refine AW.reg tiOk (fun _ => []) [4] ?_
  intro k hk; simp -dsimp (maxSteps := 2000000) [go_sem, -decide_eq_true_eq, -decide_eq_false_iff_not, hwc, hr0]
  repeat' (first | refine And.intro ?_ ?_ | refine hk _ ?_ | intro hg | omega | exact True.intro)
  all_goals clear hk k
  refine AW.retF (ow := [1000]) (muts := []) ?_ (fun h => And.intro (.inr rfl) h)
  simp [go_sem, Try.results45, hr0]

set_option maxHeartbeats 600000 in
set_option linter.unusedSimpArgs false in
set_option maxRecDepth 100000 in
/-- spec.l13Of -/
theorem dc_spec_l13Of_no (l : List UInt8) (hz : l.length ≤ 1048576) : DC Try.prog 45 [.isl 1 [], .isl 1 (l.map B1)] (.agg [.int .i64 0, .int .i64 (((rd l).1.length : Nat)), .isl 1 [], .osl 1 (l.map B1)]) [] := by
  have hrs := rd_lines []
  have hrl := rd_lines l
  have hr0 : rd [] = ([], 0) := rd_no isL_nil
  have hwc : IntKind.wrap .i64 (((rd l).1.length : Int)) = ((rd l).1.length : Int) := wrap64 (by omega) (by omega)
  refine DC.intro tiOk Try.func45 rfl rfl rfl rfl rfl rfl rfl rfl [1000] ?_
  refine AW.reg tiOk (fun _ => []) [0, 1, 4] ?_
  intro k hk; simp -dsimp [go_sem, -decide_eq_true_eq, -decide_eq_false_iff_not, hwc, hr0]
  repeat' (first | refine And.intro ?_ ?_ | refine hk _ ?_ | intro hg | omega | exact True.intro)
  all_goals clear hk k
  refine AW.reg tiOk (fun _ => []) [0, 1, 4, 5] ?_
  intro k hk; simp -dsimp (maxSteps := 2000000) [go_sem, -decide_eq_true_eq, -decide_eq_false_iff_not, hwc, hr0]
  repeat' (first | refine And.intro ?_ ?_ | refine hk _ ?_ | intro hg | (refine CallK.intro (dc_spec_l13Read [] (by first | omega | simp)) ?_; simp -dsimp (maxSteps := 2000000) [go_sem, -decide_eq_true_eq, -decide_eq_false_iff_not, hwc, hr0]) | (refine CallK.intro (dc_spec_l13Read l (by first | omega | simp)) ?_; simp -dsimp (maxSteps := 2000000) [go_sem, -decide_eq_true_eq, -decide_eq_false_iff_not, hwc, hr0]) | omega | exact True.intro)
  all_goals clear hk k
  refine AW.reg tiOk (fun _ => []) [0, 1, 4, 5, 7] ?_
  intro k hk; simp -dsimp (maxSteps := 2000000) [go_sem, -decide_eq_true_eq, -decide_eq_false_iff_not, hwc, hr0]
  repeat' (first | refine And.intro ?_ ?_ | refine hk _ ?_ | intro hg | (refine CallK.intro (dc_spec_l13Read [] (by first | omega | simp)) ?_; simp -dsimp (maxSteps := 2000000) [go_sem, -decide_eq_true_eq, -decide_eq_false_iff_not, hwc, hr0]) | (refine CallK.intro (dc_spec_l13Read l (by first | omega | simp)) ?_; simp -dsimp (maxSteps := 2000000) [go_sem, -decide_eq_true_eq, -decide_eq_false_iff_not, hwc, hr0]) | omega | exact True.intro)
  all_goals clear hk k
  refine AW.reg tiOk (fun _ => []) [4] ?_
  intro k hk; simp -dsimp (maxSteps := 2000000) [go_sem, -decide_eq_true_eq, -decide_eq_false_iff_not, hwc, hr0]
  repeat' (first | refine And.intro ?_ ?_ | refine hk _ ?_ | intro hg | omega | exact True.intro)
  all_goals clear hk k
  refine AW.retF (ow := [1000]) (muts := []) ?_ (fun h => And.intro (.inr rfl) h)
  simp [go_sem, Try.results45, hr0]

set_option maxHeartbeats 600000 in
set_option linter.unusedSimpArgs false in
set_option maxRecDepth 100000 in
/-- spec.l13Of -/
theorem dc_spec_l13Of_nn   : DC Try.prog 45 [.isl 1 [], .nils] (.agg [.int .i64 0, .int .i64 (0), .isl 1 [], .isl 1 []]) [] := by
  have hrs := rd_lines []
  have hrl := rd_lines []
  have hr0 : rd [] = ([], 0) := rd_no isL_nil
  have hwc : IntKind.wrap .i64 (0) = 0 := wrap64 (by omega) (by omega)
  refine DC.intro tiOk Try.func45 rfl rfl rfl rfl rfl rfl rfl rfl [1000] ?_
  refine AW.reg tiOk (fun _ => []) [0, 1, 4] ?_
  intro k hk; simp -dsimp [go_sem, -decide_eq_true_eq, -decide_eq_false_iff_not, hwc, hr0]
  repeat' (first | refine And.intro ?_ ?_ | refine hk _ ?_ | intro hg | omega | exact True.intro)
  all_goals clear hk k
  refine AW.slotLe (x := ?x_1) 1 (.isl 1 []) ?h1_1 ?h2_1 ?kk_1
  (case h1_1 => exact rfl)
  (case h2_1 => simp [go_sem])
  refine AW.reg tiOk (fun _ => []) [0, 1, 4, 5] ?_
  intro k hk; simp -dsimp (maxSteps := 2000000) [go_sem, -decide_eq_true_eq, -decide_eq_false_iff_not, hwc, hr0]
  repeat' (first | refine And.intro ?_ ?_ | refine hk _ ?_ | intro hg | (refine CallK.intro (dc_spec_l13Read [] (by first | omega | simp)) ?_; simp -dsimp (maxSteps := 2000000) [go_sem, -decide_eq_true_eq, -decide_eq_false_iff_not, hwc, hr0]) | omega | exact True.intro)
  all_goals clear hk k
  refine AW.reg tiOk (fun _ => []) [0, 1, 4, 5, 7] ?_
  intro k hk; simp -dsimp (maxSteps := 2000000) [go_sem, -decide_eq_true_eq, -decide_eq_false_iff_not, hwc, hr0]
  repeat' (first | refine And.intro ?_ ?_ | refine hk _ ?_ | intro hg | (refine CallK.intro (dc_spec_l13Read [] (by first | omega | simp)) ?_; simp -dsimp (maxSteps := 2000000) [go_sem, -decide_eq_true_eq, -decide_eq_false_iff_not, hwc, hr0]) | omega | exact True.intro)
  all_goals clear hk k
  refine AW.reg tiOk (fun _ => []) [4] ?_
  intro k hk; simp -dsimp (maxSteps := 2000000) [go_sem, -decide_eq_true_eq, -decide_eq_false_iff_not, hwc, hr0]
  repeat' (first | refine And.intro ?_ ?_ | refine hk _ ?_ | intro hg | omega | exact True.intro)
  all_goals clear hk k
  refine AW.retF (ow := [1000]) (muts := []) ?_ (fun h => And.intro (.inr rfl) h)
  simp [go_sem, Try.results45, hr0]

end Go.AM

/-! ### W7 -/
set_option linter.unusedVariables false
set_option linter.unusedSimpArgs false
namespace Go.AM
open Go.Proofs

set_option maxHeartbeats 600000 in
set_option linter.unusedSimpArgs false in
set_option maxRecDepth 100000 in
/-- spec.l13Of -/
theorem dc_spec_l13Of_u (s l : List UInt8) (hz : s.length ≤ 1048576 ∧ l.length ≤ 1048576) : DC Try.prog 45 [.isl 1 (s.map B1), .isl 1 (l.map B1)] (.agg [.int .i64 0, .int .i64 (((rd s).1.length : Int) + ((rd l).1.length : Int)), .osl 1 (s.map B1), .osl 1 (l.map B1)]) [] := by
  have hrs := rd_lines s
  have hrl := rd_lines l
  have hwc : IntKind.wrap .i64 (((rd s).1.length : Int) + ((rd l).1.length : Int)) = ((rd s).1.length : Int) + ((rd l).1.length : Int) := wrap64 (by omega) (by omega)
  refine DC.intro tiOk Try.func45 rfl rfl rfl rfl rfl rfl rfl rfl [1000] ?_
  refine AW.reg tiOk (fun _ => []) [0, 1, 4] ?_
  intro k hk; simp -dsimp [go_sem, -decide_eq_true_eq, -decide_eq_false_iff_not, hwc]
  repeat' (first | refine And.intro ?_ ?_ | refine hk _ ?_ | intro hg | omega | exact True.intro)
  all_goals clear hk k
  refine AW.reg tiOk (fun _ => []) [0, 1, 4, 5] ?_
  intro k hk; simp -dsimp (maxSteps := 2000000) [go_sem, -decide_eq_true_eq, -decide_eq_false_iff_not, hwc]
  repeat' (first | refine And.intro ?_ ?_ | refine hk _ ?_ | intro hg | (refine CallK.intro (dc_spec_l13Read s hz.1) ?_; simp -dsimp (maxSteps := 2000000) [go_sem, -decide_eq_true_eq, -decide_eq_false_iff_not, hwc]) | (refine CallK.intro (dc_spec_l13Read l hz.2) ?_; simp -dsimp (maxSteps := 2000000) [go_sem, -decide_eq_true_eq, -decide_eq_false_iff_not, hwc]) | omega | exact True.intro)
  all_goals clear hk k
  refine AW.reg tiOk (fun _ => []) [0, 1, 4, 5, 7] ?_
  intro k hk; simp -dsimp (maxSteps := 2000000) [go_sem, -decide_eq_true_eq, -decide_eq_false_iff_not, hwc]
  repeat' (first | refine And.intro ?_ ?_ | refine hk _ ?_ | intro hg | (refine CallK.intro (dc_spec_l13Read s hz.1) ?_; simp -dsimp (maxSteps := 2000000) [go_sem, -decide_eq_true_eq, -decide_eq_false_iff_not, hwc]) | (refine CallK.intro (dc_spec_l13Read l hz.2) ?_; simp -dsimp (maxSteps := 2000000) [go_sem, -decide_eq_true_eq, -decide_eq_false_iff_not, hwc]) | omega | exact True.intro)
  all_goals clear hk k
  refine AW.reg tiOk (fun _ => []) [4] ?_
  intro k hk; simp -dsimp (maxSteps := 2000000) [go_sem, -decide_eq_true_eq, -decide_eq_false_iff_not, hwc]
  repeat' (first | refine And.intro ?_ ?_ | refine hk _ ?_ | intro hg | omega | exact True.intro)
  all_goals clear hk k
  refine AW.retF (ow := [1000]) (muts := []) ?_ (fun h => And.intro (.inr rfl) h)
  simp [go_sem, Try.results45]

set_option maxHeartbeats 600000 in
set_option linter.unusedSimpArgs false in
set_option maxRecDepth 100000 in
/-- spec.l13Of -/
theorem dc_spec_l13Of_v (s : List UInt8) (hz : s.length ≤ 1048576) : DC Try.prog 45 [.isl 1 (s.map B1), .nils] (.agg [.int .i64 0, .int .i64 ((rd s).1.length : Int), .osl 1 (s.map B1), .osl 1 []]) [] := by
  have hrs := rd_lines s
  have hr0 : rd [] = ([], 0) := rd_no isL_nil
  have hwc : IntKind.wrap .i64 ((rd s).1.length : Int) = ((rd s).1.length : Int) := wrap64 (by omega) (by omega)
  refine DC.intro tiOk Try.func45 rfl rfl rfl rfl rfl rfl rfl rfl [1000] ?_
  refine AW.reg tiOk (fun _ => []) [0, 1, 4] ?_
  intro k hk; simp -dsimp [go_sem, -decide_eq_true_eq, -decide_eq_false_iff_not, hwc, hr0]
  repeat' (first | refine And.intro ?_ ?_ | refine hk _ ?_ | intro hg | omega | exact True.intro)
  all_goals clear hk k
  refine AW.slotLe (x := ?x_1) 1 (.isl 1 []) ?h1_1 ?h2_1 ?kk_1
  (case h1_1 => exact rfl)
  (case h2_1 => simp [go_sem])
  refine AW.reg tiOk (fun _ => []) [0, 1, 4, 5] ?_
  intro k hk; simp -dsimp (maxSteps := 2000000) [go_sem, -decide_eq_true_eq, -decide_eq_false_iff_not, hwc, hr0]
  repeat' (first | refine And.intro ?_ ?_ | refine hk _ ?_ | intro hg | (refine CallK.intro (dc_spec_l13Read s hz) ?_; simp -dsimp (maxSteps := 2000000) [go_sem, -decide_eq_true_eq, -decide_eq_false_iff_not, hwc, hr0]) | (refine CallK.intro (dc_spec_l13Read [] (by simp)) ?_; simp -dsimp (maxSteps := 2000000) [go_sem, -decide_eq_true_eq, -decide_eq_false_iff_not, hwc, hr0]) | omega | exact True.intro)
  all_goals clear hk k
  refine AW.reg tiOk (fun _ => []) [0, 1, 4, 5, 7] ?_
  intro k hk; simp -dsimp (maxSteps := 2000000) [go_sem, -decide_eq_true_eq, -decide_eq_false_iff_not, hwc, hr0]
  repeat' (first | refine And.intro ?_ ?_ | refine hk _ ?_ | intro hg | (refine CallK.intro (dc_spec_l13Read s hz) ?_; simp -dsimp (maxSteps := 2000000) [go_sem, -decide_eq_true_eq, -decide_eq_false_iff_not, hwc, hr0]) | (refine CallK.intro (dc_spec_l13Read [] (by simp)) ?_; simp -dsimp (maxSteps := 2000000) [go_sem, -decide_eq_true_eq, -decide_eq_false_iff_not, hwc, hr0]) | omega | exact True.intro)
  all_goals clear hk k
  refine AW.reg tiOk (fun _ => []) [4] ?_
  intro k hk; simp -dsimp (maxSteps := 2000000) [go_sem, -decide_eq_true_eq, -decide_eq_false_iff_not, hwc, hr0]
  repeat' (first | refine And.intro ?_ ?_ | refine hk _ ?_ | intro hg | omega | exact True.intro)
  all_goals clear hk k
  refine AW.retF (ow := [1000]) (muts := []) ?_ (fun h => And.intro (.inr rfl) h)
  simp [go_sem, Try.results45, hr0]

set_option maxHeartbeats 600000 in
set_option linter.unusedSimpArgs false in
set_option maxRecDepth 100000 in
/-- spec.AppendLine -/
theorem dc_spec_AppendLine_u (j : TJournal) (s : List UInt8) (hz : j.sz ≤ 1048576) (hs : s.length ≤ 1048576) (h : appC j s = 0) : DC Try.prog 17 [.agg j.ro, .str s] (.agg [.int .i64 0, .int .i64 (((rd j.sure).1.length : Int) + ((rd (cat [j.loose, pk s])).1.length : Int)), .osl 1 (j.sure.map B1), .osl 1 ((cat [j.loose, pk s]).map B1)]) [] := by
  have hz2 := hz
  unfold TJournal.sz at hz2
  have hpl := pk_len s
  have hcl : (cat [j.loose, pk s]).length = j.loose.length + (s.length + 3) := by rw [cat_two, List.length_append, hpl]
  have mapB2 : j.loose.map B1 ++ (pk s).map B1 = (cat [j.loose, pk s]).map B1 := by rw [cat_two, List.map_append]
  have htk : List.take (j.loose.length + (pk s).length) ((cat [j.loose, pk s]).map B1) = (cat [j.loose, pk s]).map B1 := by rw [show j.loose.length + (pk s).length = (cat [j.loose, pk s]).length by omega]; exact take_len_map _ _
  have hwb : IntKind.wrap .i64 ((j.sure.length : Int) + ((j.loose.length : Int) + ((pk s).length : Int))) = (j.sure.length : Int) + ((j.loose.length : Int) + ((pk s).length : Int)) := wrap64 (by omega) (by omega)
  obtain ⟨hj, hl, hb⟩ := appC_ok h
  refine DC.intro tiOk Try.func17 rfl rfl rfl rfl rfl rfl rfl rfl [1000] ?_
  refine AW.reg tiOk (fun _ => []) [1, 2, 4] ?_
  intro k hk; simp -dsimp [go_sem, -decide_eq_true_eq, -decide_eq_false_iff_not, hj, hl, mapB2, htk, hwb]
  repeat' (first | refine And.intro ?_ ?_ | refine hk _ ?_ | intro hg | omega | exact True.intro)
  all_goals clear hk k
  refine AW.seq ?_
  refine AW.reg tiOk (fun _ => []) [1, 2, 4, 5] ?_
  intro k hk; simp -dsimp (maxSteps := 2000000) [go_sem, -decide_eq_true_eq, -decide_eq_false_iff_not, hj, hl, mapB2, htk, hwb]
  repeat' (first | refine And.intro ?_ ?_ | refine hk _ ?_ | intro hg | (refine CallK.intro (dc_spec_l13Fault j hz) ?_; simp -dsimp (maxSteps := 2000000) [go_sem, -decide_eq_true_eq, -decide_eq_false_iff_not, hj, hl, mapB2, htk, hwb]) | omega | exact True.intro)
  all_goals clear hk k
  refine AW.reg tiOk (fun _ => []) [1, 2, 4, 5, 10] ?_
  intro k hk; simp -dsimp [go_sem, -decide_eq_true_eq, -decide_eq_false_iff_not, hj, hl, mapB2, htk, hwb]
  repeat' (first | refine And.intro ?_ ?_ | refine hk _ ?_ | intro hg | omega | exact True.intro)
  all_goals clear hk k
  refine AW.cond rfl ?_ ?_
  · intro hc; try simp at hc
    all_goals try (exfalso; first | contradiction | omega; done)
    all_goals (
      refine AW.reg tiOk (fun _ => []) [4] ?_
      intro k hk; simp -dsimp [go_sem, -decide_eq_true_eq, -decide_eq_false_iff_not, hj, hl, mapB2, htk, hwb]
      repeat' (first | refine And.intro ?_ ?_ | refine hk _ ?_ | intro hg | omega | exact True.intro)
      all_goals clear hk k
      refine AW.retF (ow := [1000]) (muts := []) ?_ (fun h => And.intro (.inr rfl) h)
      simp [go_sem, Try.results17])
  · intro hc; try simp at hc
    all_goals try (exfalso; first | contradiction | omega; done)
    all_goals (
      refine AW.skipN (fun _ h => h) ?_
      refine AW.seq ?_
      refine AW.reg tiOk (fun _ => []) [1, 2, 4, 6] ?_
      intro k hk; simp -dsimp (maxSteps := 2000000) [go_sem, -decide_eq_true_eq, -decide_eq_false_iff_not, hj, hl, mapB2, htk, hwb]
      repeat' (first | refine And.intro ?_ ?_ | refine hk _ ?_ | intro hg | (refine CallK.intro (dc_spec_LineFault s (by omega)) ?_; simp -dsimp (maxSteps := 2000000) [go_sem, -decide_eq_true_eq, -decide_eq_false_iff_not, hj, hl, mapB2, htk, hwb]) | omega | exact True.intro)
      all_goals clear hk k
      refine AW.reg tiOk (fun _ => []) [1, 2, 4, 6, 16] ?_
      intro k hk; simp -dsimp [go_sem, -decide_eq_true_eq, -decide_eq_false_iff_not, hj, hl, mapB2, htk, hwb]
      repeat' (first | refine And.intro ?_ ?_ | refine hk _ ?_ | intro hg | omega | exact True.intro)
      all_goals clear hk k
      refine AW.cond rfl ?_ ?_
      · intro hc; try simp at hc
        all_goals try (exfalso; first | contradiction | omega; done)
        all_goals (
          refine AW.reg tiOk (fun _ => []) [4] ?_
          intro k hk; simp -dsimp [go_sem, -decide_eq_true_eq, -decide_eq_false_iff_not, hj, hl, mapB2, htk, hwb]
          repeat' (first | refine And.intro ?_ ?_ | refine hk _ ?_ | intro hg | omega | exact True.intro)
          all_goals clear hk k
          refine AW.retF (ow := [1000]) (muts := []) ?_ (fun h => And.intro (.inr rfl) h)
          simp [go_sem, Try.results17])
      · intro hc; try simp at hc
        all_goals try (exfalso; first | contradiction | omega; done)
        all_goals (
          refine AW.skipN (fun _ h => h) ?_
          refine AW.reg tiOk (fun _ => []) [2, 4, 7] ?_
          intro k hk; simp -dsimp (maxSteps := 2000000) [go_sem, -decide_eq_true_eq, -decide_eq_false_iff_not, hj, hl, mapB2, htk, hwb]
          repeat' (first | refine And.intro ?_ ?_ | refine hk _ ?_ | intro hg | (refine CallK.intro (dc_spec_l13Pack s hs) ?_; simp -dsimp (maxSteps := 2000000) [go_sem, -decide_eq_true_eq, -decide_eq_false_iff_not, hj, hl, mapB2, htk, hwb]) | omega | exact True.intro)
          all_goals clear hk k
          refine AW.seq ?_
          refine AW.reg tiOk (fun _ => []) [2, 4, 7, 32] ?_
          intro k hk; simp -dsimp (maxSteps := 2000000) [go_sem, -decide_eq_true_eq, -decide_eq_false_iff_not, hj, hl, mapB2, htk, hwb]
          repeat' (first | refine And.intro ?_ ?_ | refine hk _ ?_ | intro hg | omega | exact True.intro)
          all_goals clear hk k
          refine AW.cond rfl ?_ ?_
          · intro hc; try simp at hc
            all_goals try (exfalso; first | contradiction | omega; done)
            all_goals (
              refine AW.reg tiOk (fun _ => []) [4] ?_
              intro k hk; simp -dsimp [go_sem, -decide_eq_true_eq, -decide_eq_false_iff_not, hj, hl, mapB2, htk, hwb]
              repeat' (first | refine And.intro ?_ ?_ | refine hk _ ?_ | intro hg | omega | exact True.intro)
              all_goals clear hk k
              refine AW.retF (ow := [1000]) (muts := []) ?_ (fun h => And.intro (.inr rfl) h)
              simp [go_sem, Try.results17])
          · intro hc; try simp at hc
            all_goals try (exfalso; first | contradiction | omega; done)
            all_goals (
              refine AW.skipN (fun _ h => h) ?_
              refine AW.reg tiOk (fun _ => []) [4] ?_
              intro k hk; simp -dsimp (maxSteps := 2000000) [go_sem, -decide_eq_true_eq, -decide_eq_false_iff_not, hj, hl, mapB2, htk, hwb]
              repeat' (first | refine And.intro ?_ ?_ | refine hk _ ?_ | intro hg | (refine CallK.intro (dc_spec_l13Of_u j.sure (cat [j.loose, pk s]) (by constructor <;> omega)) ?_; simp -dsimp (maxSteps := 2000000) [go_sem, -decide_eq_true_eq, -decide_eq_false_iff_not, hj, hl, mapB2, htk, hwb]) | omega | exact True.intro)
              all_goals clear hk k
              refine AW.retF (ow := [1000]) (muts := []) ?_ (fun h => And.intro (.inr rfl) h)
              simp [go_sem, Try.results17])))

set_option maxHeartbeats 600000 in
set_option linter.unusedSimpArgs false in
set_option maxRecDepth 100000 in
/-- spec.SyncJournal -/
theorem dc_spec_SyncJournal_u (j : TJournal) (hz : j.sz ≤ 1048576) (hj : jouF j = 0) : DC Try.prog 50 [.agg j.ro] (.agg [.int .i64 0, .int .i64 ((rd (cat [j.sure, j.loose])).1.length : Int), .osl 1 ((cat [j.sure, j.loose]).map B1), .osl 1 []]) [] := by
  have hz2 := hz
  unfold TJournal.sz at hz2
  have hcl : (cat [j.sure, j.loose]).length = j.sure.length + j.loose.length := by rw [cat_two, List.length_append]
  have mapB2 : j.sure.map B1 ++ j.loose.map B1 = (cat [j.sure, j.loose]).map B1 := by rw [cat_two, List.map_append]
  have htk : List.take (j.sure.length + j.loose.length) ((cat [j.sure, j.loose]).map B1) = (cat [j.sure, j.loose]).map B1 := by rw [← hcl]; exact take_len_map _ _
  refine DC.intro tiOk Try.func50 rfl rfl rfl rfl rfl rfl rfl rfl [1000] ?_
  refine AW.reg tiOk (fun _ => []) [1, 2] ?_
  intro k hk; simp -dsimp [go_sem, -decide_eq_true_eq, -decide_eq_false_iff_not, hj, mapB2, htk]
  repeat' (first | refine And.intro ?_ ?_ | refine hk _ ?_ | intro hg | omega | exact True.intro)
  all_goals clear hk k
  refine AW.seq ?_
  refine AW.reg tiOk (fun _ => []) [1, 2, 3] ?_
  intro k hk; simp -dsimp (maxSteps := 2000000) [go_sem, -decide_eq_true_eq, -decide_eq_false_iff_not, hj, mapB2, htk]
  repeat' (first | refine And.intro ?_ ?_ | refine hk _ ?_ | intro hg | (refine CallK.intro (dc_spec_l13Fault j hz) ?_; simp -dsimp (maxSteps := 2000000) [go_sem, -decide_eq_true_eq, -decide_eq_false_iff_not, hj, mapB2, htk]) | omega | exact True.intro)
  all_goals clear hk k
  refine AW.reg tiOk (fun _ => []) [1, 2, 3, 6] ?_
  intro k hk; simp -dsimp [go_sem, -decide_eq_true_eq, -decide_eq_false_iff_not, hj, mapB2, htk]
  repeat' (first | refine And.intro ?_ ?_ | refine hk _ ?_ | intro hg | omega | exact True.intro)
  all_goals clear hk k
  refine AW.cond rfl ?_ ?_
  · intro hc; try simp at hc
    all_goals try (exfalso; contradiction; done)
    all_goals (
      refine AW.reg tiOk (fun _ => []) [2] ?_
      intro k hk; simp -dsimp [go_sem, -decide_eq_true_eq, -decide_eq_false_iff_not, hj, mapB2, htk]
      repeat' (first | refine And.intro ?_ ?_ | refine hk _ ?_ | intro hg | omega | exact True.intro)
      all_goals clear hk k
      refine AW.retF (ow := [1000]) (muts := []) ?_ (fun h => And.intro (.inr rfl) h)
      simp [go_sem, Try.results50])
  · intro hc; try simp at hc
    all_goals try (exfalso; contradiction; done)
    all_goals (
      refine AW.skipN (fun _ h => h) ?_
      refine AW.reg tiOk (fun _ => []) [2] ?_
      intro k hk; simp -dsimp (maxSteps := 2000000) [go_sem, -decide_eq_true_eq, -decide_eq_false_iff_not, hj, mapB2, htk]
      repeat' (first | refine And.intro ?_ ?_ | (refine Chk.keys ?_; simp only [go_sem, List.map_cons, List.map_nil, List.flatMap_cons, List.flatMap_nil, List.flatMap_append, List.append_nil, List.nil_append, List.cons_append]; decide +kernel) | refine hk _ ?_ | intro hg | (refine CallK.intro (dc_spec_l13Of_v (cat [j.sure, j.loose]) (by omega)) ?_; simp -dsimp (maxSteps := 2000000) [go_sem, -decide_eq_true_eq, -decide_eq_false_iff_not, hj, mapB2, htk]) | omega | exact True.intro)
      all_goals clear hk k
      refine AW.retF (ow := [1000]) (muts := []) ?_ (fun h => And.intro (.inr rfl) h)
      simp [go_sem, Try.results50])

end Go.AM

/-! ### W8 -/
set_option linter.unusedVariables false
set_option linter.unusedSimpArgs false
namespace Go.AM
open Go.Proofs

set_option maxHeartbeats 4000000 in
set_option linter.unusedSimpArgs false in
set_option maxRecDepth 100000 in
/-- spec.l13Journal -/
theorem dc_spec_l13Journal (c : List UInt8) (hcl : c.length ≤ 1048576) (a : Int) (ha : 0 ≤ a ∧ a ≤ 1000) : DC Try.prog 34 [.op [.isl 1 (c.map B1), .int .i64 a]] (.agg [owc 1 ((jD c a).sure.map B1), owc 1 ((jD c a).loose.map B1)]) [(0, .op [.isl 1 (c.map B1), .int .i64 (jA c a)])] := by
  have hK7 := jK_lt c ha.1
  have hkv : nx c a 7 = (jK c a : Int) := (Int.toNat_of_nonneg (nx_bd c (n := 7) ha.1).1).symm
  refine DC.intro tiOk Try.func34 rfl rfl rfl rfl rfl rfl rfl (by simp [noW, noWo]) [1000] ?_
  refine AW.reg tiOk (fun _ => []) [0, 2] ?_
  intro k hk; simp -dsimp [go_sem, -decide_eq_true_eq, -decide_eq_false_iff_not]
  repeat' (first | refine And.intro ?_ ?_ | refine hk _ ?_ | intro hg | omega | exact True.intro)
  all_goals clear hk k
  refine AW.reg tiOk (fun _ => []) [0, 2, 3] ?_
  intro k hk; simp -dsimp [go_sem, -decide_eq_true_eq, -decide_eq_false_iff_not]
  repeat' (first | refine And.intro ?_ ?_ | refine hk _ ?_ | intro hg | omega | exact True.intro)
  all_goals clear hk k
  refine AW.seq ?_
  refine AW.reg tiOk (fun _ => [0]) [0, 2, 3, 4] ?_
  intro k hk; simp -dsimp (maxSteps := 2000000) [go_sem, -decide_eq_true_eq, -decide_eq_false_iff_not]
  repeat' (first | refine And.intro ?_ ?_ | refine hk _ ?_ | intro hg | (refine CallK.intro (dc_spec_l1Next c hcl a (by omega) 7 (by omega)) ?_; simp -dsimp (maxSteps := 2000000) [go_sem, -decide_eq_true_eq, -decide_eq_false_iff_not]) | (refine CallK.intro (dc_spec_l1Next c hcl b (by omega) 18 (by omega)) ?_; simp -dsimp (maxSteps := 2000000) [go_sem, -decide_eq_true_eq, -decide_eq_false_iff_not]) | omega | exact True.intro)
  all_goals clear hk k
  refine AW.block ?_
  -- live at the loop's head: [0, 2, 3, 4]
  refine AW.loopI (fun i : Nat × Int × Option TJournal => ⟨48, [(0, .ptr 1900 2 0 0), (2, .ptr 2 2 0 0), (3, .ptr 3 2 0 0), (4, .int .i64 (i.1 : Nat))], [(1900, some ⟨2, [[.isl 1 (c.map B1), .int .i64 i.2.1]]⟩), (2, some ⟨2, [[.nils, .nils]]⟩), (3, some ⟨2, [jrow i.2.2]⟩)]⟩) (fun i => i.1 ≤ jK c a ∧ i.2.1 = a + 1 + 2 * ((jK c a : Int) - i.1) ∧ jLoop c i.1 i.2.1 (jval i.2.2) = jB c a ∧ jInv (jval i.2.2) (15 * (jK c a - i.1))) (fun i => i.1) ((jK c a, a + 1, none)) (by refine ⟨Nat.le_refl _, by simp only; omega, rfl, ⟨jouF_nil, by simp [jval]⟩⟩) (Less.of rfl (by simp [go_sem, hkv]) (by simp [go_sem, jrow])) ?_
  rintro ⟨k, b, o⟩ ⟨hk6, hb, hjl, hin⟩
  simp only at hk6 hb hjl hin
  refine AW.seq ?_
  refine AW.reg tiOk (fun _ => []) [0, 2, 3, 4, 10] ?_
  intro k hk; simp -dsimp [go_sem, -decide_eq_true_eq, -decide_eq_false_iff_not]
  repeat' (first | refine And.intro ?_ ?_ | refine hk _ ?_ | intro hg | omega | exact True.intro)
  all_goals clear hk k
  refine AW.cond rfl ?_ ?_
  · intro hc; try simp at hc
    all_goals try (exfalso; first | contradiction | omega | (simp at hc; done); done)
    all_goals (
      have hlt : 0 < k := by first | assumption | omega
      obtain ⟨k', rfl⟩ : ∃ k', k = k' + 1 := ⟨k - 1, by omega⟩
      have hjz : (jval o).sz ≤ 1048576 := by have := hin.2; unfold TJournal.sz; omega
      obtain ⟨hap, hap2⟩ := jInv_app (k := nx c b 6) hin (by omega)
      have hjz1 : (⟨(jval o).sure, cat [(jval o).loose, pk (lnD (nx c b 6))]⟩ : TJournal).sz ≤ 1048576 := by have := hap2.2; unfold TJournal.sz; omega
      have hll := lnD_len (nx c b 6)
      refine AW.skipN (fun _ h => h) ?_
      refine AW.seq ?_
      refine AW.block ?_
      refine AW.seq ?_
      rcases jcases o with ⟨hr, hs0, hl0⟩ | hr
      all_goals (
        rw [hr]
        first | (refine AW.thaw 3 0 0 7001 rfl rfl rfl (by simp [go_sem]) ?_; refine AW.thaw 3 0 1 7002 rfl rfl rfl (by simp [go_sem]) ?_) | (refine AW.cellLe 3 0 0 (.isl 1 ((jval o).sure.map B1)) rfl rfl rfl (by simp [go_sem, hs0]) ?_; refine AW.cellLe 3 0 1 (.isl 1 ((jval o).loose.map B1)) rfl rfl rfl (by simp [go_sem, hl0]) ?_)
        refine AW.reg tiOk (fun i => if i = 2 then [0] else []) [0, 2, 3, 4, 5] ?_
        intro k hk; simp -dsimp (maxSteps := 2000000) [go_sem, -decide_eq_true_eq, -decide_eq_false_iff_not]
        repeat' (first | refine And.intro ?_ ?_ | (refine Chk.keys ?_; simp only [go_sem, List.map_cons, List.map_nil, List.flatMap_cons, List.flatMap_nil, List.flatMap_append, List.append_nil, List.nil_append, List.cons_append]; decide +kernel) | refine hk _ ?_ | intro hg | (refine CallK.intro (dc_spec_l13Line c hcl b (by omega)) ?_; simp -dsimp (maxSteps := 2000000) [go_sem, -decide_eq_true_eq, -decide_eq_false_iff_not]) | (refine CallK.intro (dc_spec_AppendLine_u (jval o) (lnD (nx c b 6)) hjz (by omega) hap) ?_; simp -dsimp (maxSteps := 2000000) [go_sem, -decide_eq_true_eq, -decide_eq_false_iff_not]) | omega | exact True.intro)
        all_goals clear hk k
        refine AW.reg tiOk (fun _ => []) [0, 2, 3, 4, 5, 19] ?_
        intro k hk; simp -dsimp [go_sem, -decide_eq_true_eq, -decide_eq_false_iff_not]
        repeat' (first | refine And.intro ?_ ?_ | refine hk _ ?_ | intro hg | omega | exact True.intro)
        all_goals clear hk k
        refine AW.cond rfl ?_ ?_
        · intro hc; try simp at hc
          all_goals try (exfalso; first | contradiction | omega | (simp at hc; done); done)
          all_goals (
            refine AW.regN tiOk (fun _ => []) [0, 2, 3, 4] (fun _ h => h) ?_
            intro k hk; simp -dsimp [go_sem, -decide_eq_true_eq, -decide_eq_false_iff_not]
            repeat' (first | refine And.intro ?_ ?_ | refine hk _ ?_ | intro hg | omega | exact True.intro)
            all_goals clear hk k
            refine AW.reg tiOk (fun _ => [0]) [0, 2, 3, 4, 23] ?_
            intro k hk; simp -dsimp (maxSteps := 2000000) [go_sem, -decide_eq_true_eq, -decide_eq_false_iff_not]
            repeat' (first | refine And.intro ?_ ?_ | refine hk _ ?_ | intro hg | (refine CallK.intro (dc_spec_l1Chance c hcl (b + 1) (by omega) 3 (by omega)) ?_; simp -dsimp (maxSteps := 2000000) [go_sem, -decide_eq_true_eq, -decide_eq_false_iff_not]) | omega | exact True.intro)
            all_goals clear hk k
            refine AW.cond rfl ?_ ?_
            · intro hc; try simp at hc
              all_goals try (exfalso; first | contradiction | omega | (simp at hc; done); done)
              all_goals (
                refine AW.regN tiOk (fun _ => []) [0, 2, 3, 4] (fun _ h => h) ?_
                intro k hk; simp -dsimp (maxSteps := 2000000) [go_sem, -decide_eq_true_eq, -decide_eq_false_iff_not]
                repeat' (first | refine And.intro ?_ ?_ | refine hk _ ?_ | intro hg | (refine CallK.intro (dc_spec_SyncJournal_u ⟨(jval o).sure, cat [(jval o).loose, pk (lnD (nx c b 6))]⟩ hjz1 hap2.1) ?_; simp -dsimp (maxSteps := 2000000) [go_sem, -decide_eq_true_eq, -decide_eq_false_iff_not]) | omega | exact True.intro)
                all_goals clear hk k
                first | refine AW.fold 3 0 0 1016 rfl rfl rfl rfl (by simp) (by decide) (by simp [go_sem]) ?_ | refine AW.fold 3 0 0 1025 rfl rfl rfl rfl (by simp) (by decide) (by simp [go_sem]) ?_
                first | refine AW.fold 3 0 1 2016 rfl rfl rfl rfl (by simp) (by decide) (by simp [go_sem]) ?_ | refine AW.fold 3 0 1 2025 rfl rfl rfl rfl (by simp) (by decide) (by simp [go_sem]) ?_
                refine AW.regK tiOk (fun _ => []) ?_
                intro k hk; simp -dsimp [go_sem, -decide_eq_true_eq, -decide_eq_false_iff_not]
                repeat' (first | refine And.intro ?_ ?_ | refine hk _ ?_ | intro hg | omega | exact True.intro)
                all_goals clear hk k
                show ∃ _, _
                have hw : IntKind.wrap .i64 (((k' + 1 : Nat) : Int) - 1) = (k' : Int) := (wrap64 (by omega) (by omega)).trans (by omega)
                have hwa : IntKind.wrap .i64 (k' : Int) = (k' : Int) := wrap64 (by omega) (by omega)
                have hwb : IntKind.wrap .i64 ((k' : Int) + 1 - 1) = (k' : Int) := (wrap64 (by omega) (by omega)).trans (by omega)
                have hjs := jInv_st (c := c) (a := b) hin (by omega)
                refine ⟨(k', b + 2, some (jst c (jval o) b)), ⟨by simp only; omega, by simp only; omega, hjl, ?_⟩, by simp, Less.of rfl (by simp [go_sem, hw, hwa, hwb]) (by simp [go_sem, jrow, jst, hc] <;> omega)⟩
                simp only [jval]
                rw [show 15 * (jK c a - k') = 15 * (jK c a - (k' + 1)) + 15 by omega]
                exact hjs)
            · intro hc; try simp at hc
              all_goals try (exfalso; first | contradiction | omega | (simp at hc; done); done)
              all_goals (
                refine AW.skipN (fun _ h => h) ?_
                first | refine AW.fold 3 0 0 1016 rfl rfl rfl rfl (by simp) (by decide) (by simp [go_sem]) ?_ | refine AW.fold 3 0 0 1025 rfl rfl rfl rfl (by simp) (by decide) (by simp [go_sem]) ?_
                first | refine AW.fold 3 0 1 2016 rfl rfl rfl rfl (by simp) (by decide) (by simp [go_sem]) ?_ | refine AW.fold 3 0 1 2025 rfl rfl rfl rfl (by simp) (by decide) (by simp [go_sem]) ?_
                refine AW.regK tiOk (fun _ => []) ?_
                intro k hk; simp -dsimp [go_sem, -decide_eq_true_eq, -decide_eq_false_iff_not]
                repeat' (first | refine And.intro ?_ ?_ | refine hk _ ?_ | intro hg | omega | exact True.intro)
                all_goals clear hk k
                show ∃ _, _
                have hw : IntKind.wrap .i64 (((k' + 1 : Nat) : Int) - 1) = (k' : Int) := (wrap64 (by omega) (by omega)).trans (by omega)
                have hwa : IntKind.wrap .i64 (k' : Int) = (k' : Int) := wrap64 (by omega) (by omega)
                have hwb : IntKind.wrap .i64 ((k' : Int) + 1 - 1) = (k' : Int) := (wrap64 (by omega) (by omega)).trans (by omega)
                have hjs := jInv_st (c := c) (a := b) hin (by omega)
                refine ⟨(k', b + 2, some (jst c (jval o) b)), ⟨by simp only; omega, by simp only; omega, hjl, ?_⟩, by simp, Less.of rfl (by simp [go_sem, hw, hwa, hwb]) (by simp [go_sem, jrow, jst, hc] <;> omega)⟩
                simp only [jval]
                rw [show 15 * (jK c a - k') = 15 * (jK c a - (k' + 1)) + 15 by omega]
                exact hjs))
        · intro hc; try simp at hc
          all_goals try (exfalso; first | contradiction | omega | (simp at hc; done); done)
          all_goals (
            refine AW.skipN (fun _ h => h) ?_
            refine AW.reg tiOk (fun _ => [0]) [0, 2, 3, 4, 23] ?_
            intro k hk; simp -dsimp (maxSteps := 2000000) [go_sem, -decide_eq_true_eq, -decide_eq_false_iff_not]
            repeat' (first | refine And.intro ?_ ?_ | refine hk _ ?_ | intro hg | (refine CallK.intro (dc_spec_l1Chance c hcl (b + 1) (by omega) 3 (by omega)) ?_; simp -dsimp (maxSteps := 2000000) [go_sem, -decide_eq_true_eq, -decide_eq_false_iff_not]) | omega | exact True.intro)
            all_goals clear hk k
            refine AW.cond rfl ?_ ?_
            · intro hc; try simp at hc
              all_goals try (exfalso; first | contradiction | omega | (simp at hc; done); done)
              all_goals (
                refine AW.regN tiOk (fun _ => []) [0, 2, 3, 4] (fun _ h => h) ?_
                intro k hk; simp -dsimp (maxSteps := 2000000) [go_sem, -decide_eq_true_eq, -decide_eq_false_iff_not]
                repeat' (first | refine And.intro ?_ ?_ | refine hk _ ?_ | intro hg | (refine CallK.intro (dc_spec_SyncJournal_u ⟨(jval o).sure, cat [(jval o).loose, pk (lnD (nx c b 6))]⟩ hjz1 hap2.1) ?_; simp -dsimp (maxSteps := 2000000) [go_sem, -decide_eq_true_eq, -decide_eq_false_iff_not]) | omega | exact True.intro)
                all_goals clear hk k
                first | refine AW.fold 3 0 0 1016 rfl rfl rfl rfl (by simp) (by decide) (by simp [go_sem]) ?_ | refine AW.fold 3 0 0 1025 rfl rfl rfl rfl (by simp) (by decide) (by simp [go_sem]) ?_
                first | refine AW.fold 3 0 1 2016 rfl rfl rfl rfl (by simp) (by decide) (by simp [go_sem]) ?_ | refine AW.fold 3 0 1 2025 rfl rfl rfl rfl (by simp) (by decide) (by simp [go_sem]) ?_
                refine AW.regK tiOk (fun _ => []) ?_
                intro k hk; simp -dsimp [go_sem, -decide_eq_true_eq, -decide_eq_false_iff_not]
                repeat' (first | refine And.intro ?_ ?_ | refine hk _ ?_ | intro hg | omega | exact True.intro)
                all_goals clear hk k
                show ∃ _, _
                have hw : IntKind.wrap .i64 (((k' + 1 : Nat) : Int) - 1) = (k' : Int) := (wrap64 (by omega) (by omega)).trans (by omega)
                have hwa : IntKind.wrap .i64 (k' : Int) = (k' : Int) := wrap64 (by omega) (by omega)
                have hwb : IntKind.wrap .i64 ((k' : Int) + 1 - 1) = (k' : Int) := (wrap64 (by omega) (by omega)).trans (by omega)
                have hjs := jInv_st (c := c) (a := b) hin (by omega)
                refine ⟨(k', b + 2, some (jst c (jval o) b)), ⟨by simp only; omega, by simp only; omega, hjl, ?_⟩, by simp, Less.of rfl (by simp [go_sem, hw, hwa, hwb]) (by simp [go_sem, jrow, jst, hc] <;> omega)⟩
                simp only [jval]
                rw [show 15 * (jK c a - k') = 15 * (jK c a - (k' + 1)) + 15 by omega]
                exact hjs)
            · intro hc; try simp at hc
              all_goals try (exfalso; first | contradiction | omega | (simp at hc; done); done)
              all_goals (
                refine AW.skipN (fun _ h => h) ?_
                first | refine AW.fold 3 0 0 1016 rfl rfl rfl rfl (by simp) (by decide) (by simp [go_sem]) ?_ | refine AW.fold 3 0 0 1025 rfl rfl rfl rfl (by simp) (by decide) (by simp [go_sem]) ?_
                first | refine AW.fold 3 0 1 2016 rfl rfl rfl rfl (by simp) (by decide) (by simp [go_sem]) ?_ | refine AW.fold 3 0 1 2025 rfl rfl rfl rfl (by simp) (by decide) (by simp [go_sem]) ?_
                refine AW.regK tiOk (fun _ => []) ?_
                intro k hk; simp -dsimp [go_sem, -decide_eq_true_eq, -decide_eq_false_iff_not]
                repeat' (first | refine And.intro ?_ ?_ | refine hk _ ?_ | intro hg | omega | exact True.intro)
                all_goals clear hk k
                show ∃ _, _
                have hw : IntKind.wrap .i64 (((k' + 1 : Nat) : Int) - 1) = (k' : Int) := (wrap64 (by omega) (by omega)).trans (by omega)
                have hwa : IntKind.wrap .i64 (k' : Int) = (k' : Int) := wrap64 (by omega) (by omega)
                have hwb : IntKind.wrap .i64 ((k' : Int) + 1 - 1) = (k' : Int) := (wrap64 (by omega) (by omega)).trans (by omega)
                have hjs := jInv_st (c := c) (a := b) hin (by omega)
                refine ⟨(k', b + 2, some (jst c (jval o) b)), ⟨by simp only; omega, by simp only; omega, hjl, ?_⟩, by simp, Less.of rfl (by simp [go_sem, hw, hwa, hwb]) (by simp [go_sem, jrow, jst, hc] <;> omega)⟩
                simp only [jval]
                rw [show 15 * (jK c a - k') = 15 * (jK c a - (k' + 1)) + 15 by omega]
                exact hjs))))
  · intro hc; try simp at hc
    all_goals try (exfalso; first | contradiction | omega | (simp at hc; done); done)
    all_goals (
      refine AW.exitN (fun _ h => h) ?_
      refine AW.seq ?_
      obtain rfl : k = 0 := (by omega)
      rcases jcases o with ⟨hr, hs0, hl0⟩ | hr
      all_goals (
        rw [hr]
        have hB : jB c a = jval o := hjl.symm
        have hR : jR c a = nx c b 18 := by unfold jR; rw [hb]; congr 1; try omega
        have hjb := hin.2
        try (refine AW.thaw 3 0 0 7001 rfl rfl rfl (by simp [go_sem]) ?_; refine AW.thaw 3 0 1 7002 rfl rfl rfl (by simp [go_sem]) ?_)
        refine AW.reg tiOk (fun _ => [0]) [0, 2, 3, 28] ?_
        intro k hk; simp -dsimp (maxSteps := 2000000) [go_sem, -decide_eq_true_eq, -decide_eq_false_iff_not]
        repeat' (first | refine And.intro ?_ ?_ | refine hk _ ?_ | intro hg | (refine CallK.intro (dc_spec_l1Next c hcl a (by omega) 7 (by omega)) ?_; simp -dsimp (maxSteps := 2000000) [go_sem, -decide_eq_true_eq, -decide_eq_false_iff_not]) | (refine CallK.intro (dc_spec_l1Next c hcl b (by omega) 18 (by omega)) ?_; simp -dsimp (maxSteps := 2000000) [go_sem, -decide_eq_true_eq, -decide_eq_false_iff_not]) | omega | exact True.intro)
        all_goals clear hk k
        refine AW.block ?_
        refine AW.reg tiOk (fun _ => []) [0, 2, 3, 28, 29] ?_
        intro k hk; simp -dsimp [go_sem, -decide_eq_true_eq, -decide_eq_false_iff_not]
        repeat' (first | refine And.intro ?_ ?_ | refine hk _ ?_ | intro hg | omega | exact True.intro)
        all_goals clear hk k
        refine AW.cond rfl ?_ ?_
        · intro hc; try simp at hc
          all_goals try (exfalso; first | contradiction | omega | (simp at hc; done); done)
          all_goals (
            refine AW.regN tiOk (fun _ => []) [0, 2, 3] (fun _ h => h) ?_
            intro k hk; simp -dsimp [go_sem, -decide_eq_true_eq, -decide_eq_false_iff_not]
            repeat' (first | refine And.intro ?_ ?_ | refine hk _ ?_ | intro hg | omega | exact True.intro)
            all_goals clear hk k
            refine AW.reg tiOk (fun _ => []) [0, 2] ?_
            intro k hk; simp -dsimp [go_sem, -decide_eq_true_eq, -decide_eq_false_iff_not]
            repeat' (first | refine And.intro ?_ ?_ | refine hk _ ?_ | intro hg | omega | exact True.intro)
            all_goals clear hk k
            refine AW.retF (ow := [1000]) (muts := [(0, .op [.isl 1 (c.map B1), .int .i64 (jA c a)])]) ?_ (fun h => And.intro (.inr rfl) h)
            first | (rw [jD_0 hB (by rw [hR]; assumption)]; simp [go_sem, Try.results34, jA, *] <;> omega) | (rw [jD_1 hB (by rw [hR]; assumption)]; simp [go_sem, Try.results34, jA, *] <;> omega) | (rw [jD_2 hB (by rw [hR]; assumption)]; simp [go_sem, Try.results34, jA, *] <;> omega) | (rw [jD_3 hB (by rw [hR]; assumption) (by rw [hR]; assumption) (by rw [hR]; assumption)]; simp [go_sem, Try.results34, jA, *] <;> omega))
        · intro hc; try simp at hc
          all_goals try (exfalso; first | contradiction | omega | (simp at hc; done); done)
          all_goals (
            refine AW.reg tiOk (fun _ => []) [0, 2, 3, 28, 36] ?_
            intro k hk; simp -dsimp [go_sem, -decide_eq_true_eq, -decide_eq_false_iff_not]
            repeat' (first | refine And.intro ?_ ?_ | refine hk _ ?_ | intro hg | omega | exact True.intro)
            all_goals clear hk k
            refine AW.cond rfl ?_ ?_
            · intro hc; try simp at hc
              all_goals try (exfalso; first | contradiction | omega | (simp at hc; done); done)
              all_goals (
                refine AW.regN tiOk (fun _ => []) [0, 2, 3] (fun _ h => h) ?_
                intro k hk; simp -dsimp [go_sem, -decide_eq_true_eq, -decide_eq_false_iff_not]
                repeat' (first | refine And.intro ?_ ?_ | refine hk _ ?_ | intro hg | omega | exact True.intro)
                all_goals clear hk k
                refine AW.reg tiOk (fun _ => []) [0, 2] ?_
                intro k hk; simp -dsimp [go_sem, -decide_eq_true_eq, -decide_eq_false_iff_not]
                repeat' (first | refine And.intro ?_ ?_ | refine hk _ ?_ | intro hg | omega | exact True.intro)
                all_goals clear hk k
                refine AW.retF (ow := [1000]) (muts := [(0, .op [.isl 1 (c.map B1), .int .i64 (jA c a)])]) ?_ (fun h => And.intro (.inr rfl) h)
                first | (rw [jD_0 hB (by rw [hR]; assumption)]; simp [go_sem, Try.results34, jA, *] <;> omega) | (rw [jD_1 hB (by rw [hR]; assumption)]; simp [go_sem, Try.results34, jA, *] <;> omega) | (rw [jD_2 hB (by rw [hR]; assumption)]; simp [go_sem, Try.results34, jA, *] <;> omega) | (rw [jD_3 hB (by rw [hR]; assumption) (by rw [hR]; assumption) (by rw [hR]; assumption)]; simp [go_sem, Try.results34, jA, *] <;> omega))
            · intro hc; try simp at hc
              all_goals try (exfalso; first | contradiction | omega | (simp at hc; done); done)
              all_goals (
                refine AW.reg tiOk (fun _ => []) [0, 2, 3, 43] ?_
                intro k hk; simp -dsimp [go_sem, -decide_eq_true_eq, -decide_eq_false_iff_not]
                repeat' (first | refine And.intro ?_ ?_ | refine hk _ ?_ | intro hg | omega | exact True.intro)
                all_goals clear hk k
                refine AW.cond rfl ?_ ?_
                · intro hc; try simp at hc
                  all_goals try (exfalso; first | contradiction | omega | (simp at hc; done); done)
                  all_goals (
                    refine AW.regN tiOk (fun _ => []) [0, 2, 3] (fun _ h => h) ?_
                    intro k hk; simp -dsimp [go_sem, -decide_eq_true_eq, -decide_eq_false_iff_not]
                    repeat' (first | refine And.intro ?_ ?_ | refine hk _ ?_ | intro hg | omega | exact True.intro)
                    all_goals clear hk k
                    refine AW.reg tiOk (fun _ => []) [0, 2] ?_
                    intro k hk; simp -dsimp [go_sem, -decide_eq_true_eq, -decide_eq_false_iff_not]
                    repeat' (first | refine And.intro ?_ ?_ | refine hk _ ?_ | intro hg | omega | exact True.intro)
                    all_goals clear hk k
                    refine AW.retF (ow := [1000]) (muts := [(0, .op [.isl 1 (c.map B1), .int .i64 (jA c a)])]) ?_ (fun h => And.intro (.inr rfl) h)
                    first | (rw [jD_0 hB (by rw [hR]; assumption)]; simp [go_sem, Try.results34, jA, *] <;> omega) | (rw [jD_1 hB (by rw [hR]; assumption)]; simp [go_sem, Try.results34, jA, *] <;> omega) | (rw [jD_2 hB (by rw [hR]; assumption)]; simp [go_sem, Try.results34, jA, *] <;> omega) | (rw [jD_3 hB (by rw [hR]; assumption) (by rw [hR]; assumption) (by rw [hR]; assumption)]; simp [go_sem, Try.results34, jA, *] <;> omega))
                · intro hc; try simp at hc
                  all_goals try (exfalso; first | contradiction | omega | (simp at hc; done); done)
                  all_goals (
                    refine AW.skipN (fun _ h => h) ?_
                    refine AW.reg tiOk (fun _ => []) [0, 2] ?_
                    intro k hk; simp -dsimp [go_sem, -decide_eq_true_eq, -decide_eq_false_iff_not]
                    repeat' (first | refine And.intro ?_ ?_ | refine hk _ ?_ | intro hg | omega | exact True.intro)
                    all_goals clear hk k
                    refine AW.retF (ow := [1000]) (muts := [(0, .op [.isl 1 (c.map B1), .int .i64 (jA c a)])]) ?_ (fun h => And.intro (.inr rfl) h)
                    first | (rw [jD_0 hB (by rw [hR]; assumption)]; simp [go_sem, Try.results34, jA, *] <;> omega) | (rw [jD_1 hB (by rw [hR]; assumption)]; simp [go_sem, Try.results34, jA, *] <;> omega) | (rw [jD_2 hB (by rw [hR]; assumption)]; simp [go_sem, Try.results34, jA, *] <;> omega) | (rw [jD_3 hB (by rw [hR]; assumption) (by rw [hR]; assumption) (by rw [hR]; assumption)]; simp [go_sem, Try.results34, jA, *] <;> omega))))))

end Go.AM

/-! ### Pd2 -/
set_option linter.unusedVariables false
set_option linter.unusedSimpArgs false
namespace Go.AM
/-- a line is told by its bytes alone -/
theorem isL_app {a b : List UInt8} (h : isL a = true) : isL (a ++ b) = true ∧ n0 (a ++ b) = n0 a ∧ lnT (a ++ b) = lnT a := by
  have hb := isL_bd h
  have e0 : n0 (a ++ b) = n0 a := by
    cases a with
    | nil => simp at hb
    | cons x r => rfl
  have e1 : (a ++ b).take (n0 a + 3) = a.take (n0 a + 3) := List.take_append_of_le_length hb.1
  have e2 : lnT (a ++ b) = lnT a := by
    unfold lnT; rw [e0, List.take_append_of_le_length (by omega)]
  refine ⟨?_, e0, e2⟩
  have hq := h
  simp only [isL, Bool.and_eq_true, decide_eq_true_eq] at hq ⊢
  rw [e0, e1, e2]
  exact ⟨⟨by simp; omega, hq.1.2⟩, hq.2⟩
theorem isL_take {d : List UInt8} {k : Nat} (h : isL (d.take k) = true) : isL d = true ∧ n0 d = n0 (d.take k) ∧ lnT d = lnT (d.take k) := by
  have := isL_app (b := d.drop k) h
  rwa [List.take_append_drop] at this
theorem isL_takeN {d : List UInt8} (h : isL d = true) {k : Nat} (hk : n0 d + 3 ≤ k) : isL (d.take k) = true := by
  have hb := isL_bd h
  have e0 : n0 (d.take k) = n0 d := by
    cases d with
    | nil => simp at hb
    | cons x r =>
      cases k with
      | zero => omega
      | succ k => rfl
  have e2 : lnT (d.take k) = lnT d := by
    unfold lnT; rw [e0, List.take_take, Nat.min_eq_left (by omega)]
  have hq := h
  simp only [isL, Bool.and_eq_true, decide_eq_true_eq] at hq ⊢
  rw [e0, e2, List.take_take, Nat.min_eq_left (by omega), List.length_take]
  exact ⟨⟨by omega, hq.1.2⟩, hq.2⟩
/-- what is read is read again of the bytes that it took -/
theorem rd_take : ∀ (n : Nat) (d : List UInt8), d.length ≤ n → rd (d.take (rd d).2) = rd d := by
  intro n
  induction n with
  | zero =>
    intro d h
    have : d = [] := List.eq_nil_of_length_eq_zero (by omega)
    subst this; simp
  | succ n ih =>
    intro d h
    by_cases hl : isL d = true
    · have hb := isL_bd hl
      have ihd := ih (d.drop (n0 d + 3)) (by simp; omega)
      have hr := rd_yes hl
      have h2 : (rd d).2 = n0 d + 3 + (rd (d.drop (n0 d + 3))).2 := by rw [hr]
      have hl2 := isL_takeN hl (k := (rd d).2) (by omega)
      obtain ⟨_, q2, q3⟩ := isL_take hl2
      rw [rd_yes hl2, ← q2, ← q3, hr]
      have e : (d.take (n0 d + 3 + (rd (d.drop (n0 d + 3))).2)).drop (n0 d + 3) = (d.drop (n0 d + 3)).take (rd (d.drop (n0 d + 3))).2 := by
        rw [List.drop_take]; congr 1; omega
      rw [e, ihd]
    · have hf : isL d = false := by simpa using hl
      rw [rd_no hf]; simp [rd_no isL_nil]
/-- of a beginning a beginning is read -/
theorem rd_pre : ∀ (n : Nat) (d : List UInt8) (k : Nat), d.length ≤ n → (rd (d.take k)).1 <+: (rd d).1 := by
  intro n
  induction n with
  | zero =>
    intro d k h
    have : d = [] := List.eq_nil_of_length_eq_zero (by omega)
    subst this; simp
  | succ n ih =>
    intro d k h
    by_cases hl : isL (d.take k) = true
    · obtain ⟨q1, q2, q3⟩ := isL_take hl
      have hb := isL_bd hl
      have hb2 := isL_bd q1
      have hk : n0 d + 3 ≤ k := by have := hb.1; rw [List.length_take] at this; omega
      rw [rd_yes hl, rd_yes q1, ← q2, ← q3]
      simp only
      have e : (d.take k).drop (n0 d + 3) = (d.drop (n0 d + 3)).take (k - (n0 d + 3)) := List.drop_take ..
      rw [e]
      exact List.prefix_cons_inj .. |>.2 (ih (d.drop (n0 d + 3)) _ (by simp; omega))
    · rw [rd_no (by simpa using hl)]; exact List.nil_prefix
def packB (s : List UInt8) : List UInt8 := if lineF s = 0 then pk s else []
def PR (s : List UInt8) : AV := .agg [.int .i64 (lineF s), .isl 1 ((packB s).map B1)]
@[go_sem] theorem PR_eq (s : List UInt8) : PR s = .agg [.int .i64 (lineF s), .isl 1 ((packB s).map B1)] := rfl
/-! FnAppends -/
theorem app_facts {j : TJournal} {s : List UInt8} (h : appC j s = 0) :
    jouF (appJ j s) = 0 ∧ synN j = ((rd (cat [j.sure, j.loose])).1.length : Int) ∧ appN j s = ((rd (cat [j.sure, j.loose])).1.length : Int) + 1 ∧ synN (appJ j s) = ((rd (cat [j.sure, j.loose])).1.length : Int) + 1 ∧
    (rd (synJ (appJ j s)).sure).1 = (rd (cat [j.sure, j.loose])).1 ++ [s] ∧ crN ⟨(synJ (appJ j s)).sure, []⟩ 0 = ((rd (cat [j.sure, j.loose])).1.length : Int) + 1 ∧ (synJ (appJ j s)).sure.length ≤ 2400 ∧ 4 * (rd (cat [j.sure, j.loose])).1.length ≤ 2400 := by
  obtain ⟨h1, h2, h3⟩ := appC_ok h
  obtain ⟨k1, k2, k3⟩ := jou_ok h1
  have hj := jouF_app h
  have hJ := appJ_eq h
  have hx : rd (cat [j.loose, pk s]) = ((rd j.loose).1 ++ [s], j.loose.length + (s.length + 3)) := by rw [rd_cat k3, rd_one h2]
  have hL : (rd (cat [j.sure, cat [j.loose, pk s]])).1 = (rd (cat [j.sure, j.loose])).1 ++ [s] := by rw [rd_cat k2, rd_cat k2, hx]; simp
  have hS : (synJ (appJ j s)).sure = cat [j.sure, cat [j.loose, pk s]] := by rw [hJ, synJ, if_pos hj]
  have hlen : (cat [j.sure, cat [j.loose, pk s]]).length ≤ 2400 := by rw [cat_two, cat_two, List.length_append, List.length_append, pk_len]; omega
  have hw : (rd (cat [j.sure, cat [j.loose, pk s]])).2 = (cat [j.sure, cat [j.loose, pk s]]).length := by
    rw [rd_cat k2, hx, cat_two, cat_two, List.length_append, List.length_append, pk_len]
  have hj2 : jouF ⟨cat [j.sure, cat [j.loose, pk s]], []⟩ = 0 := jouF_syn hj
  refine ⟨by rw [hJ]; exact hj, by rw [synN, if_pos h1], by rw [appN, if_pos h, hL]; simp, by rw [synN, hJ, if_pos hj, hL]; simp, by rw [hS]; exact hL, ?_, by rw [hS]; exact hlen, ?_⟩
  · rw [hS]
    have hc : crC ⟨cat [j.sure, cat [j.loose, pk s]], []⟩ 0 = 0 := by rw [crC, if_neg (by simp [hj2]), if_neg (by simp [inR])]
    have hd : crD ⟨cat [j.sure, cat [j.loose, pk s]], []⟩ 0 = cat [j.sure, cat [j.loose, pk s]] := by unfold crD; simp [cat_r]
    rw [crN, if_pos hc, crS, if_pos hc, hd, rd_take _ _ (Nat.le_refl _), hL]; simp
  · have := rd_lines (cat [j.sure, j.loose])
    rw [cat_two, List.length_append] at this
    rw [cat_two]; omega
/-! FnTorn -/
theorem crash_facts {j : TJournal} {k : Int} (h : crC j k = 0) :
    jouF j = 0 ∧ 0 ≤ k ∧ k ≤ j.loose.length ∧ crN j k = ((rd (crS j k)).1.length : Int) ∧ (rd j.sure).1.length ≤ (rd (crS j k)).1.length ∧ (rd (crS j k)).1.length ≤ (rd (cat [j.sure, j.loose])).1.length ∧
    (rd (crS j k)).1 = (rd (cat [j.sure, j.loose])).1.take (rd (crS j k)).1.length ∧ jouF ⟨crS j k, []⟩ = 0 ∧ (¬ k < j.loose.length → (rd (crS j k)).1.length = (rd (cat [j.sure, j.loose])).1.length) ∧ (crS j k).length ≤ 2400 ∧ 4 * (rd (cat [j.sure, j.loose])).1.length ≤ 2400 := by
  have hj : jouF j = 0 := by
    unfold crC at h; split at h
    · contradiction
    · rename_i h1; simpa using h1
  have hr : 0 ≤ k ∧ k ≤ j.loose.length := by
    unfold crC at h; rw [if_neg (by simp [hj])] at h
    split at h
    · cases h
    · rename_i h1; exact inR_iff.1 (by simpa using h1)
  obtain ⟨k1, k2, k3⟩ := jou_ok hj
  have hS : crS j k = (crD j k).take (rd (crD j k)).2 := by rw [crS, if_pos h]
  have hR : rd (crS j k) = rd (crD j k) := by rw [hS]; exact rd_take _ _ (Nat.le_refl _)
  have hD : rd (crD j k) = ((rd j.sure).1 ++ (rd (j.loose.take k.toNat)).1, j.sure.length + (rd (j.loose.take k.toNat)).2) := rd_cat k2
  have hA : rd (cat [j.sure, j.loose]) = ((rd j.sure).1 ++ (rd j.loose).1, j.sure.length + (rd j.loose).2) := rd_cat k2
  have hp : (rd (crS j k)).1 <+: (rd (cat [j.sure, j.loose])).1 := by
    rw [hR, hD, hA]; exact (List.prefix_append_right_inj _).2 (rd_pre _ j.loose _ (Nat.le_refl _))
  have hl : (crS j k).length = (rd (crD j k)).2 := by
    rw [hS, List.length_take]; have := rd_le (crD j k); omega
  have hdl : (crD j k).length ≤ 2400 := by unfold crD; rw [cat_two, List.length_append, List.length_take]; omega
  refine ⟨hj, hr.1, hr.2, by rw [crN, if_pos h], by rw [hR, hD, List.length_append]; omega, hp.length_le, List.prefix_iff_eq_take.1 hp, ?_, ?_, ?_, ?_⟩
  · apply ok_jou
    refine ⟨?_, ?_, by simp only; rw [rd_no isL_nil]; rfl⟩
    · simp only [List.length_nil]; have := rd_le (crD j k); omega
    · simp only; rw [hR, hl]
  · intro hk
    have : j.loose.take k.toNat = j.loose := List.take_of_length_le (by omega)
    rw [hR, hD, hA, this]
  · have := rd_le (crD j k); omega
  · have := rd_lines (cat [j.sure, j.loose])
    rw [cat_two, List.length_append] at this
    rw [cat_two]; omega
end Go.AM

/-! ### Ja -/
set_option linter.unusedVariables false
set_option linter.unusedSimpArgs false
namespace Go.AM
open Go.Proofs

set_option maxHeartbeats 600000 in
set_option linter.unusedSimpArgs false in
set_option maxRecDepth 100000 in
/-- impl.SyncJournal -/
theorem dc_impl_SyncJournal_bad (j : TJournal) (hz : j.sz ≤ 1048576) (hl : jouF j ≠ 0) : DC Try.prog 18 [.agg j.ro] (.agg [.int .i64 (jouF j), .int .i64 0, .isl 1 [], .isl 1 []]) [] := by
  refine DC.intro tiOk Try.func18 rfl rfl rfl rfl rfl rfl rfl rfl [1000] ?_
  refine AW.reg tiOk (fun _ => []) [1, 2] ?_
  intro k hk; simp -dsimp [go_sem, -decide_eq_true_eq, -decide_eq_false_iff_not, hl]
  repeat' (first | refine And.intro ?_ ?_ | refine hk _ ?_ | intro hg | omega | exact True.intro)
  all_goals clear hk k
  refine AW.seq ?_
  refine AW.reg tiOk (fun _ => []) [1, 2, 3] ?_
  intro k hk; simp -dsimp (maxSteps := 2000000) [go_sem, -decide_eq_true_eq, -decide_eq_false_iff_not, hl]
  repeat' (first | refine And.intro ?_ ?_ | refine hk _ ?_ | intro hg | (refine CallK.intro (dc_impl_JournalFault j hz) ?_; simp -dsimp (maxSteps := 2000000) [go_sem, -decide_eq_true_eq, -decide_eq_false_iff_not, hl]) | omega | exact True.intro)
  all_goals clear hk k
  refine AW.reg tiOk (fun _ => []) [1, 2, 3, 7] ?_
  intro k hk; simp -dsimp [go_sem, -decide_eq_true_eq, -decide_eq_false_iff_not, hl]
  repeat' (first | refine And.intro ?_ ?_ | refine hk _ ?_ | intro hg | omega | exact True.intro)
  all_goals clear hk k
  refine AW.cond rfl ?_ ?_
  · intro hc; try simp at hc
    all_goals try (exfalso; contradiction; done)
    all_goals (
      refine AW.reg tiOk (fun _ => []) [2] ?_
      intro k hk; simp -dsimp [go_sem, -decide_eq_true_eq, -decide_eq_false_iff_not, hl]
      repeat' (first | refine And.intro ?_ ?_ | refine hk _ ?_ | intro hg | omega | exact True.intro)
      all_goals clear hk k
      refine AW.retF (ow := [1000]) (muts := []) ?_ (fun h => And.intro (.inr rfl) h)
      simp [go_sem, Try.results18])
  · intro hc; try simp at hc
    all_goals try (exfalso; contradiction; done)
    all_goals (
      refine AW.skipN (fun _ h => h) ?_
      refine AW.reg tiOk (fun _ => []) [2] ?_
      intro k hk; simp -dsimp (maxSteps := 2000000) [go_sem, -decide_eq_true_eq, -decide_eq_false_iff_not, hl]
      repeat' (first | refine And.intro ?_ ?_ | refine hk _ ?_ | intro hg | (refine CallK.intro (dc_slices_Concat_byte_byte _) ?_; simp -dsimp (maxSteps := 2000000) [go_sem, -decide_eq_true_eq, -decide_eq_false_iff_not, hl]) | (refine CallK.intro (dc_impl_told _) ?_; simp -dsimp (maxSteps := 2000000) [go_sem, -decide_eq_true_eq, -decide_eq_false_iff_not, hl]) | omega | exact True.intro)
      all_goals clear hk k
      refine AW.retF (ow := [1000]) (muts := []) ?_ (fun h => And.intro (.inr rfl) h)
      simp [go_sem, Try.results18])

set_option maxHeartbeats 600000 in
set_option linter.unusedSimpArgs false in
set_option maxRecDepth 100000 in
/-- impl.SyncJournal -/
theorem dc_impl_SyncJournal_p (j : TJournal) (hz : j.sz ≤ 1048576) (hl : jouF j = 0) (h0 : 0 < (cat [j.sure, j.loose]).length) : DC Try.prog 18 [.agg j.ro] (.agg [.int .i64 0, .int .i64 ((rd (cat [j.sure, j.loose])).1.length : Nat), .osl 1 ((cat [j.sure, j.loose]).map B1), .isl 1 []]) [] := by
  have hz2 := hz
  unfold TJournal.sz at hz2
  have hcl : (cat [j.sure, j.loose]).length = j.sure.length + j.loose.length := by rw [cat_two, List.length_append]
  refine DC.intro tiOk Try.func18 rfl rfl rfl rfl rfl rfl rfl rfl [1000] ?_
  refine AW.reg tiOk (fun _ => []) [1, 2] ?_
  intro k hk; simp -dsimp [go_sem, -decide_eq_true_eq, -decide_eq_false_iff_not, hl]
  repeat' (first | refine And.intro ?_ ?_ | refine hk _ ?_ | intro hg | omega | exact True.intro)
  all_goals clear hk k
  refine AW.seq ?_
  refine AW.reg tiOk (fun _ => []) [1, 2, 3] ?_
  intro k hk; simp -dsimp (maxSteps := 2000000) [go_sem, -decide_eq_true_eq, -decide_eq_false_iff_not, hl]
  repeat' (first | refine And.intro ?_ ?_ | refine hk _ ?_ | intro hg | (refine CallK.intro (dc_impl_JournalFault j hz) ?_; simp -dsimp (maxSteps := 2000000) [go_sem, -decide_eq_true_eq, -decide_eq_false_iff_not, hl]) | omega | exact True.intro)
  all_goals clear hk k
  refine AW.reg tiOk (fun _ => []) [1, 2, 3, 7] ?_
  intro k hk; simp -dsimp [go_sem, -decide_eq_true_eq, -decide_eq_false_iff_not, hl]
  repeat' (first | refine And.intro ?_ ?_ | refine hk _ ?_ | intro hg | omega | exact True.intro)
  all_goals clear hk k
  refine AW.cond rfl ?_ ?_
  · intro hc; try simp at hc
    all_goals try (exfalso; contradiction; done)
    all_goals (
      refine AW.reg tiOk (fun _ => []) [2] ?_
      intro k hk; simp -dsimp [go_sem, -decide_eq_true_eq, -decide_eq_false_iff_not, hl]
      repeat' (first | refine And.intro ?_ ?_ | refine hk _ ?_ | intro hg | omega | exact True.intro)
      all_goals clear hk k
      refine AW.retF (ow := [1000]) (muts := []) ?_ (fun h => And.intro (.inr rfl) h)
      simp [go_sem, Try.results18])
  · intro hc; try simp at hc
    all_goals try (exfalso; contradiction; done)
    all_goals (
      refine AW.skipN (fun _ h => h) ?_
      refine AW.reg tiOk (fun i => if i = 7 then [0] else []) [2] ?_
      intro k hk; simp -dsimp (maxSteps := 2000000) [go_sem, -decide_eq_true_eq, -decide_eq_false_iff_not, hl]
      repeat' (first | refine And.intro ?_ ?_ | refine hk _ ?_ | intro hg | (refine CallK.intro (dc_slices_Concat_byte_byte_p [j.sure, j.loose] (by simp) h0 (by omega)) ?_; simp -dsimp (maxSteps := 2000000) [go_sem, -decide_eq_true_eq, -decide_eq_false_iff_not, hl]) | (refine CallK.intro (dc_impl_told_on (cat [j.sure, j.loose]) (by omega)) ?_; simp -dsimp (maxSteps := 2000000) [go_sem, -decide_eq_true_eq, -decide_eq_false_iff_not, hl]) | omega | exact True.intro)
      all_goals clear hk k
      refine AW.retF (ow := [1000]) (muts := []) ?_ (fun h => And.intro (.inr rfl) h)
      simp [go_sem, Try.results18])

set_option maxHeartbeats 600000 in
set_option linter.unusedSimpArgs false in
set_option maxRecDepth 100000 in
/-- impl.SyncJournal -/
theorem dc_impl_SyncJournal_z (j : TJournal) (hz : j.sz ≤ 1048576) (hl : jouF j = 0) (h0 : (cat [j.sure, j.loose]) = []) : DC Try.prog 18 [.agg j.ro] (.agg [.int .i64 0, .int .i64 0, .isl 1 [], .isl 1 []]) [] := by
  have hz2 := hz
  unfold TJournal.sz at hz2
  have hcl : (cat [j.sure, j.loose]).length = j.sure.length + j.loose.length := by rw [cat_two, List.length_append]
  refine DC.intro tiOk Try.func18 rfl rfl rfl rfl rfl rfl rfl rfl [1000] ?_
  refine AW.reg tiOk (fun _ => []) [1, 2] ?_
  intro k hk; simp -dsimp [go_sem, -decide_eq_true_eq, -decide_eq_false_iff_not, hl]
  repeat' (first | refine And.intro ?_ ?_ | refine hk _ ?_ | intro hg | omega | exact True.intro)
  all_goals clear hk k
  refine AW.seq ?_
  refine AW.reg tiOk (fun _ => []) [1, 2, 3] ?_
  intro k hk; simp -dsimp (maxSteps := 2000000) [go_sem, -decide_eq_true_eq, -decide_eq_false_iff_not, hl]
  repeat' (first | refine And.intro ?_ ?_ | refine hk _ ?_ | intro hg | (refine CallK.intro (dc_impl_JournalFault j hz) ?_; simp -dsimp (maxSteps := 2000000) [go_sem, -decide_eq_true_eq, -decide_eq_false_iff_not, hl]) | omega | exact True.intro)
  all_goals clear hk k
  refine AW.reg tiOk (fun _ => []) [1, 2, 3, 7] ?_
  intro k hk; simp -dsimp [go_sem, -decide_eq_true_eq, -decide_eq_false_iff_not, hl]
  repeat' (first | refine And.intro ?_ ?_ | refine hk _ ?_ | intro hg | omega | exact True.intro)
  all_goals clear hk k
  refine AW.cond rfl ?_ ?_
  · intro hc; try simp at hc
    all_goals try (exfalso; contradiction; done)
    all_goals (
      refine AW.reg tiOk (fun _ => []) [2] ?_
      intro k hk; simp -dsimp [go_sem, -decide_eq_true_eq, -decide_eq_false_iff_not, hl]
      repeat' (first | refine And.intro ?_ ?_ | refine hk _ ?_ | intro hg | omega | exact True.intro)
      all_goals clear hk k
      refine AW.retF (ow := [1000]) (muts := []) ?_ (fun h => And.intro (.inr rfl) h)
      simp [go_sem, Try.results18])
  · intro hc; try simp at hc
    all_goals try (exfalso; contradiction; done)
    all_goals (
      refine AW.skipN (fun _ h => h) ?_
      refine AW.reg tiOk (fun _ => []) [2] ?_
      intro k hk; simp -dsimp (maxSteps := 2000000) [go_sem, -decide_eq_true_eq, -decide_eq_false_iff_not, hl]
      repeat' (first | refine And.intro ?_ ?_ | refine hk _ ?_ | intro hg | (refine CallK.intro (dc_slices_Concat_byte_byte_z [j.sure, j.loose] (by simp) h0) ?_; simp -dsimp (maxSteps := 2000000) [go_sem, -decide_eq_true_eq, -decide_eq_false_iff_not, hl]) | (refine CallK.intro (dc_impl_told_nn) ?_; simp -dsimp (maxSteps := 2000000) [go_sem, -decide_eq_true_eq, -decide_eq_false_iff_not, hl]) | omega | exact True.intro)
      all_goals clear hk k
      refine AW.retF (ow := [1000]) (muts := []) ?_ (fun h => And.intro (.inr rfl) h)
      simp [go_sem, Try.results18])

end Go.AM

/-! ### Jb -/
set_option linter.unusedVariables false
set_option linter.unusedSimpArgs false
namespace Go.AM
open Go.Proofs

end Go.AM

/-! ### Jc -/
set_option linter.unusedVariables false
set_option linter.unusedSimpArgs false
namespace Go.AM
open Go.Proofs

set_option maxHeartbeats 600000 in
set_option linter.unusedSimpArgs false in
set_option maxRecDepth 100000 in
/-- impl.AppendLine -/
theorem dc_impl_AppendLine_bad (j : TJournal) (s : List UInt8) (hz : j.sz ≤ 1048576) (hs : s.length ≤ 1048576) (hl : firstC [jouF j, lineF s] ≠ 0) : DC Try.prog 16 [.agg j.ro, .str s] (.agg [.int .i64 (firstC [jouF j, lineF s]), .int .i64 0, .isl 1 [], .isl 1 []]) [] := by
  refine DC.intro tiOk Try.func16 rfl rfl rfl rfl rfl rfl rfl rfl [1000] ?_
  refine AW.reg tiOk (fun _ => []) [1, 2, 4] ?_
  intro k hk; simp -dsimp [go_sem, -decide_eq_true_eq, -decide_eq_false_iff_not, hl]
  repeat' (first | refine And.intro ?_ ?_ | refine hk _ ?_ | intro hg | omega | exact True.intro)
  all_goals clear hk k
  refine AW.seq ?_
  refine AW.reg tiOk (fun _ => []) [1, 2, 4, 5] ?_
  intro k hk; simp -dsimp (maxSteps := 2000000) [go_sem, -decide_eq_true_eq, -decide_eq_false_iff_not, hl]
  repeat' (first | refine And.intro ?_ ?_ | refine hk _ ?_ | intro hg | (refine CallK.intro (dc_impl_JournalFault j hz) ?_; simp -dsimp (maxSteps := 2000000) [go_sem, -decide_eq_true_eq, -decide_eq_false_iff_not, hl]) | (refine CallK.intro (dc_impl_LineFault s (by omega)) ?_; simp -dsimp (maxSteps := 2000000) [go_sem, -decide_eq_true_eq, -decide_eq_false_iff_not, hl]) | (refine CallK.intro (dc_impl_firstCode [_, _] (by simp)) ?_; simp -dsimp (maxSteps := 2000000) [go_sem, -decide_eq_true_eq, -decide_eq_false_iff_not, hl]) | (refine CallK.intro (dc_impl_firstCode [_, _, _] (by simp)) ?_; simp -dsimp (maxSteps := 2000000) [go_sem, -decide_eq_true_eq, -decide_eq_false_iff_not, hl]) | (refine CallK.intro (dc_impl_firstCode [_, _, _, _] (by simp)) ?_; simp -dsimp (maxSteps := 2000000) [go_sem, -decide_eq_true_eq, -decide_eq_false_iff_not, hl]) | omega | exact True.intro)
  all_goals clear hk k
  refine AW.reg tiOk (fun _ => []) [1, 2, 4, 5, 14] ?_
  intro k hk; simp -dsimp [go_sem, -decide_eq_true_eq, -decide_eq_false_iff_not, hl]
  repeat' (first | refine And.intro ?_ ?_ | refine hk _ ?_ | intro hg | omega | exact True.intro)
  all_goals clear hk k
  refine AW.cond rfl ?_ ?_
  · intro hc; try simp at hc
    all_goals try (exfalso; contradiction; done)
    all_goals (
      refine AW.reg tiOk (fun _ => []) [4] ?_
      intro k hk; simp -dsimp [go_sem, -decide_eq_true_eq, -decide_eq_false_iff_not, hl]
      repeat' (first | refine And.intro ?_ ?_ | refine hk _ ?_ | intro hg | omega | exact True.intro)
      all_goals clear hk k
      refine AW.retF (ow := [1000]) (muts := []) ?_ (fun h => And.intro (.inr rfl) h)
      simp [go_sem, Try.results16])
  · intro hc; try simp at hc
    all_goals try (exfalso; contradiction; done)
    all_goals (
      refine AW.skipN (fun _ h => h) ?_
      refine AW.reg tiOk (fun _ => []) [4, 6] ?_
      intro k hk; simp -dsimp (maxSteps := 2000000) [go_sem, -decide_eq_true_eq, -decide_eq_false_iff_not, hl]
      repeat' (first | refine And.intro ?_ ?_ | (refine Chk.keys ?_; simp only [go_sem, List.map_cons, List.map_nil, List.flatMap_cons, List.flatMap_nil, List.flatMap_append, List.append_nil, List.nil_append, List.cons_append]; decide +kernel) | refine hk _ ?_ | intro hg | (refine CallK.intro (dc_slices_Clone_byte_byte _) ?_; simp -dsimp (maxSteps := 2000000) [go_sem, -decide_eq_true_eq, -decide_eq_false_iff_not, hl]) | (refine CallK.intro (dc_impl_pack _ (by omega)) ?_; simp -dsimp (maxSteps := 2000000) [go_sem, -decide_eq_true_eq, -decide_eq_false_iff_not, hl]) | (refine CallK.intro (dc_slices_Concat_byte_byte _) ?_; simp -dsimp (maxSteps := 2000000) [go_sem, -decide_eq_true_eq, -decide_eq_false_iff_not, hl]) | omega | exact True.intro)
      all_goals clear hk k
      refine AW.seq ?_
      refine AW.reg tiOk (fun _ => []) [4, 6, 34] ?_
      intro k hk; simp -dsimp (maxSteps := 2000000) [go_sem, -decide_eq_true_eq, -decide_eq_false_iff_not, hl]
      repeat' (first | refine And.intro ?_ ?_ | refine hk _ ?_ | intro hg | omega | exact True.intro)
      all_goals clear hk k
      refine AW.cond rfl ?_ ?_
      · intro hc; try simp at hc
        all_goals try (exfalso; contradiction; done)
        all_goals (
          refine AW.reg tiOk (fun _ => []) [4] ?_
          intro k hk; simp -dsimp [go_sem, -decide_eq_true_eq, -decide_eq_false_iff_not, hl]
          repeat' (first | refine And.intro ?_ ?_ | refine hk _ ?_ | intro hg | omega | exact True.intro)
          all_goals clear hk k
          refine AW.retF (ow := [1000]) (muts := []) ?_ (fun h => And.intro (.inr rfl) h)
          simp [go_sem, Try.results16])
      · intro hc; try simp at hc
        all_goals try (exfalso; contradiction; done)
        all_goals (
          refine AW.skipN (fun _ h => h) ?_
          refine AW.reg tiOk (fun _ => []) [4] ?_
          intro k hk; simp -dsimp (maxSteps := 2000000) [go_sem, -decide_eq_true_eq, -decide_eq_false_iff_not, hl]
          repeat' (first | refine And.intro ?_ ?_ | refine hk _ ?_ | intro hg | (refine CallK.intro (dc_impl_told _) ?_; simp -dsimp (maxSteps := 2000000) [go_sem, -decide_eq_true_eq, -decide_eq_false_iff_not, hl]) | omega | exact True.intro)
          all_goals clear hk k
          refine AW.retF (ow := [1000]) (muts := []) ?_ (fun h => And.intro (.inr rfl) h)
          simp [go_sem, Try.results16]))

set_option maxHeartbeats 600000 in
set_option linter.unusedSimpArgs false in
set_option maxRecDepth 100000 in
/-- impl.AppendLine -/
theorem dc_impl_AppendLine_bign (j : TJournal) (s : List UInt8) (hz : j.sz ≤ 1048576) (hs : s.length ≤ 1048576) (hl : firstC [jouF j, lineF s] = 0) (h1 : j.sure = []) (hb : 2400 < j.sure.length + (cat [j.loose, pk s]).length) : DC Try.prog 16 [.agg j.ro, .str s] (.agg [.int .i64 2, .int .i64 0, .isl 1 [], .isl 1 []]) [] := by
  have hz2 := hz
  unfold TJournal.sz at hz2
  have hpl := pk_len s
  have hcl : (cat [j.loose, pk s]).length = j.loose.length + (s.length + 3) := by rw [cat_two, List.length_append, hpl]
  have hwa : IntKind.wrap .i64 ((j.sure.length : Int) + ((cat [j.loose, pk s]).length : Int)) = (j.sure.length : Int) + ((cat [j.loose, pk s]).length : Int) := wrap64 (by omega) (by omega)
  have h0p : 0 < (cat [j.loose, pk s]).length := by omega
  have h1l : j.sure.length = 0 := by rw [h1]; rfl
  have hwn : IntKind.wrap .i64 ((cat [j.loose, pk s]).length : Int) = ((cat [j.loose, pk s]).length : Int) := wrap64 (by omega) (by omega)
  refine DC.intro tiOk Try.func16 rfl rfl rfl rfl rfl rfl rfl rfl [1000] ?_
  refine AW.reg tiOk (fun _ => []) [1, 2, 4] ?_
  intro k hk; simp -dsimp [go_sem, -decide_eq_true_eq, -decide_eq_false_iff_not, hl, hwa, hwn]
  repeat' (first | refine And.intro ?_ ?_ | refine hk _ ?_ | intro hg | omega | exact True.intro)
  all_goals clear hk k
  refine AW.seq ?_
  refine AW.reg tiOk (fun _ => []) [1, 2, 4, 5] ?_
  intro k hk; simp -dsimp (maxSteps := 2000000) [go_sem, -decide_eq_true_eq, -decide_eq_false_iff_not, hl, hwa, hwn]
  repeat' (first | refine And.intro ?_ ?_ | refine hk _ ?_ | intro hg | (refine CallK.intro (dc_impl_JournalFault j hz) ?_; simp -dsimp (maxSteps := 2000000) [go_sem, -decide_eq_true_eq, -decide_eq_false_iff_not, hl, hwa, hwn]) | (refine CallK.intro (dc_impl_LineFault s (by omega)) ?_; simp -dsimp (maxSteps := 2000000) [go_sem, -decide_eq_true_eq, -decide_eq_false_iff_not, hl, hwa, hwn]) | (refine CallK.intro (dc_impl_firstCode [_, _] (by simp)) ?_; simp -dsimp (maxSteps := 2000000) [go_sem, -decide_eq_true_eq, -decide_eq_false_iff_not, hl, hwa, hwn]) | (refine CallK.intro (dc_impl_firstCode [_, _, _] (by simp)) ?_; simp -dsimp (maxSteps := 2000000) [go_sem, -decide_eq_true_eq, -decide_eq_false_iff_not, hl, hwa, hwn]) | (refine CallK.intro (dc_impl_firstCode [_, _, _, _] (by simp)) ?_; simp -dsimp (maxSteps := 2000000) [go_sem, -decide_eq_true_eq, -decide_eq_false_iff_not, hl, hwa, hwn]) | omega | exact True.intro)
  all_goals clear hk k
  refine AW.reg tiOk (fun _ => []) [1, 2, 4, 5, 14] ?_
  intro k hk; simp -dsimp [go_sem, -decide_eq_true_eq, -decide_eq_false_iff_not, hl, hwa, hwn]
  repeat' (first | refine And.intro ?_ ?_ | refine hk _ ?_ | intro hg | omega | exact True.intro)
  all_goals clear hk k
  refine AW.cond rfl ?_ ?_
  · intro hc; try simp at hc
    all_goals try (exfalso; first | contradiction | omega; done)
    all_goals (
      refine AW.reg tiOk (fun _ => []) [4] ?_
      intro k hk; simp -dsimp [go_sem, -decide_eq_true_eq, -decide_eq_false_iff_not, hl, hwa, hwn]
      repeat' (first | refine And.intro ?_ ?_ | refine hk _ ?_ | intro hg | omega | exact True.intro)
      all_goals clear hk k
      refine AW.retF (ow := [1000]) (muts := []) ?_ (fun h => And.intro (.inr rfl) h)
      simp [go_sem, Try.results16, h1])
  · intro hc; try simp at hc
    all_goals try (exfalso; first | contradiction | omega; done)
    all_goals (
      refine AW.skipN (fun _ h => h) ?_
      refine AW.reg tiOk (fun _ => []) [4, 6] ?_
      intro k hk; simp -dsimp (maxSteps := 2000000) [go_sem, -decide_eq_true_eq, -decide_eq_false_iff_not, hl, hwa, hwn, h1]
      repeat' (first | refine And.intro ?_ ?_ | (refine Chk.keys ?_; simp only [go_sem, List.map_cons, List.map_nil, List.flatMap_cons, List.flatMap_nil, List.flatMap_append, List.append_nil, List.nil_append, List.cons_append]; decide +kernel) | refine hk _ ?_ | intro hg | (refine CallK.intro (dc_Clone_nil) ?_; simp -dsimp (maxSteps := 2000000) [go_sem, -decide_eq_true_eq, -decide_eq_false_iff_not, hl, hwa, hwn, h1]) | (refine CallK.intro (dc_pack_I s hs) ?_; simp -dsimp (maxSteps := 2000000) [go_sem, -decide_eq_true_eq, -decide_eq_false_iff_not, hl, hwa, hwn, h1]) | (refine CallK.intro (dc_slices_Concat_byte_byte_p [j.loose, pk s] (by simp) h0p (by omega)) ?_; simp -dsimp (maxSteps := 2000000) [go_sem, -decide_eq_true_eq, -decide_eq_false_iff_not, hl, hwa, hwn, h1]) | omega | exact True.intro)
      all_goals clear hk k
      refine AW.seq ?_
      refine AW.reg tiOk (fun _ => []) [4, 6, 34] ?_
      intro k hk; simp -dsimp (maxSteps := 2000000) [go_sem, -decide_eq_true_eq, -decide_eq_false_iff_not, hl, hwa, hwn]
      repeat' (first | refine And.intro ?_ ?_ | refine hk _ ?_ | intro hg | omega | exact True.intro)
      all_goals clear hk k
      refine AW.cond rfl ?_ ?_
      · intro hc; try simp at hc
        all_goals try (exfalso; first | contradiction | omega; done)
        all_goals (
          refine AW.reg tiOk (fun _ => []) [4] ?_
          intro k hk; simp -dsimp [go_sem, -decide_eq_true_eq, -decide_eq_false_iff_not, hl, hwa, hwn]
          repeat' (first | refine And.intro ?_ ?_ | refine hk _ ?_ | intro hg | omega | exact True.intro)
          all_goals clear hk k
          refine AW.retF (ow := [1000]) (muts := []) ?_ (fun h => And.intro (.inr rfl) h)
          simp [go_sem, Try.results16, h1])
      · intro hc; try simp at hc
        all_goals try (exfalso; first | contradiction | omega; done)
        all_goals (
          refine AW.skipN (fun _ h => h) ?_
          refine AW.reg tiOk (fun i => if i = 1 then [0] else []) [4] ?_
          intro k hk; simp -dsimp (maxSteps := 2000000) [go_sem, -decide_eq_true_eq, -decide_eq_false_iff_not, hl, hwa, hwn]
          repeat' (first | refine And.intro ?_ ?_ | refine hk _ ?_ | intro hg | (refine CallK.intro (dc_impl_told_no _ (by omega)) ?_; simp -dsimp (maxSteps := 2000000) [go_sem, -decide_eq_true_eq, -decide_eq_false_iff_not, hl, hwa, hwn]) | omega | exact True.intro)
          all_goals clear hk k
          refine AW.retF (ow := [1000]) (muts := []) ?_ (fun h => And.intro (.inr rfl) h)
          simp [go_sem, Try.results16, h1]))

set_option maxHeartbeats 600000 in
set_option linter.unusedSimpArgs false in
set_option maxRecDepth 100000 in
/-- impl.AppendLine -/
theorem dc_impl_AppendLine_bigo (j : TJournal) (s : List UInt8) (hz : j.sz ≤ 1048576) (hs : s.length ≤ 1048576) (hl : firstC [jouF j, lineF s] = 0) (h1 : j.sure ≠ []) (hb : 2400 < j.sure.length + (cat [j.loose, pk s]).length) : DC Try.prog 16 [.agg j.ro, .str s] (.agg [.int .i64 2, .int .i64 0, .isl 1 [], .isl 1 []]) [] := by
  have hz2 := hz
  unfold TJournal.sz at hz2
  have hpl := pk_len s
  have hcl : (cat [j.loose, pk s]).length = j.loose.length + (s.length + 3) := by rw [cat_two, List.length_append, hpl]
  have hwa : IntKind.wrap .i64 ((j.sure.length : Int) + ((cat [j.loose, pk s]).length : Int)) = (j.sure.length : Int) + ((cat [j.loose, pk s]).length : Int) := wrap64 (by omega) (by omega)
  have h0p : 0 < (cat [j.loose, pk s]).length := by omega
  refine DC.intro tiOk Try.func16 rfl rfl rfl rfl rfl rfl rfl rfl [1000] ?_
  refine AW.reg tiOk (fun _ => []) [1, 2, 4] ?_
  intro k hk; simp -dsimp [go_sem, -decide_eq_true_eq, -decide_eq_false_iff_not, hl, hwa]
  repeat' (first | refine And.intro ?_ ?_ | refine hk _ ?_ | intro hg | omega | exact True.intro)
  all_goals clear hk k
  refine AW.seq ?_
  refine AW.reg tiOk (fun _ => []) [1, 2, 4, 5] ?_
  intro k hk; simp -dsimp (maxSteps := 2000000) [go_sem, -decide_eq_true_eq, -decide_eq_false_iff_not, hl, hwa]
  repeat' (first | refine And.intro ?_ ?_ | refine hk _ ?_ | intro hg | (refine CallK.intro (dc_impl_JournalFault j hz) ?_; simp -dsimp (maxSteps := 2000000) [go_sem, -decide_eq_true_eq, -decide_eq_false_iff_not, hl, hwa]) | (refine CallK.intro (dc_impl_LineFault s (by omega)) ?_; simp -dsimp (maxSteps := 2000000) [go_sem, -decide_eq_true_eq, -decide_eq_false_iff_not, hl, hwa]) | (refine CallK.intro (dc_impl_firstCode [_, _] (by simp)) ?_; simp -dsimp (maxSteps := 2000000) [go_sem, -decide_eq_true_eq, -decide_eq_false_iff_not, hl, hwa]) | (refine CallK.intro (dc_impl_firstCode [_, _, _] (by simp)) ?_; simp -dsimp (maxSteps := 2000000) [go_sem, -decide_eq_true_eq, -decide_eq_false_iff_not, hl, hwa]) | (refine CallK.intro (dc_impl_firstCode [_, _, _, _] (by simp)) ?_; simp -dsimp (maxSteps := 2000000) [go_sem, -decide_eq_true_eq, -decide_eq_false_iff_not, hl, hwa]) | omega | exact True.intro)
  all_goals clear hk k
  refine AW.reg tiOk (fun _ => []) [1, 2, 4, 5, 14] ?_
  intro k hk; simp -dsimp [go_sem, -decide_eq_true_eq, -decide_eq_false_iff_not, hl, hwa]
  repeat' (first | refine And.intro ?_ ?_ | refine hk _ ?_ | intro hg | omega | exact True.intro)
  all_goals clear hk k
  refine AW.cond rfl ?_ ?_
  · intro hc; try simp at hc
    all_goals try (exfalso; first | contradiction | omega; done)
    all_goals (
      refine AW.reg tiOk (fun _ => []) [4] ?_
      intro k hk; simp -dsimp [go_sem, -decide_eq_true_eq, -decide_eq_false_iff_not, hl, hwa]
      repeat' (first | refine And.intro ?_ ?_ | refine hk _ ?_ | intro hg | omega | exact True.intro)
      all_goals clear hk k
      refine AW.retF (ow := [1000]) (muts := []) ?_ (fun h => And.intro (.inr rfl) h)
      simp [go_sem, Try.results16])
  · intro hc; try simp at hc
    all_goals try (exfalso; first | contradiction | omega; done)
    all_goals (
      refine AW.skipN (fun _ h => h) ?_
      refine AW.reg tiOk (fun _ => []) [4, 6] ?_
      intro k hk; simp -dsimp (maxSteps := 2000000) [go_sem, -decide_eq_true_eq, -decide_eq_false_iff_not, hl, hwa]
      repeat' (first | refine And.intro ?_ ?_ | (refine Chk.keys ?_; simp only [go_sem, List.map_cons, List.map_nil, List.flatMap_cons, List.flatMap_nil, List.flatMap_append, List.append_nil, List.nil_append, List.cons_append]; decide +kernel) | refine hk _ ?_ | intro hg | (refine CallK.intro (dc_Clone_ne j.sure h1 (by omega)) ?_; simp -dsimp (maxSteps := 2000000) [go_sem, -decide_eq_true_eq, -decide_eq_false_iff_not, hl, hwa]) | (refine CallK.intro (dc_pack_I s hs) ?_; simp -dsimp (maxSteps := 2000000) [go_sem, -decide_eq_true_eq, -decide_eq_false_iff_not, hl, hwa]) | (refine CallK.intro (dc_slices_Concat_byte_byte_p [j.loose, pk s] (by simp) h0p (by omega)) ?_; simp -dsimp (maxSteps := 2000000) [go_sem, -decide_eq_true_eq, -decide_eq_false_iff_not, hl, hwa]) | omega | exact True.intro)
      all_goals clear hk k
      refine AW.seq ?_
      refine AW.reg tiOk (fun _ => []) [4, 6, 34] ?_
      intro k hk; simp -dsimp (maxSteps := 2000000) [go_sem, -decide_eq_true_eq, -decide_eq_false_iff_not, hl, hwa]
      repeat' (first | refine And.intro ?_ ?_ | refine hk _ ?_ | intro hg | omega | exact True.intro)
      all_goals clear hk k
      refine AW.cond rfl ?_ ?_
      · intro hc; try simp at hc
        all_goals try (exfalso; first | contradiction | omega; done)
        all_goals (
          refine AW.reg tiOk (fun _ => []) [4] ?_
          intro k hk; simp -dsimp [go_sem, -decide_eq_true_eq, -decide_eq_false_iff_not, hl, hwa]
          repeat' (first | refine And.intro ?_ ?_ | refine hk _ ?_ | intro hg | omega | exact True.intro)
          all_goals clear hk k
          refine AW.retF (ow := [1000]) (muts := []) ?_ (fun h => And.intro (.inr rfl) h)
          simp [go_sem, Try.results16])
      · intro hc; try simp at hc
        all_goals try (exfalso; first | contradiction | omega; done)
        all_goals (
          refine AW.skipN (fun _ h => h) ?_
          refine AW.reg tiOk (fun i => if i = 1 then [0] else []) [4] ?_
          intro k hk; simp -dsimp (maxSteps := 2000000) [go_sem, -decide_eq_true_eq, -decide_eq_false_iff_not, hl, hwa]
          repeat' (first | refine And.intro ?_ ?_ | refine hk _ ?_ | intro hg | (refine CallK.intro (dc_impl_told_oo _ _ (by omega)) ?_; simp -dsimp (maxSteps := 2000000) [go_sem, -decide_eq_true_eq, -decide_eq_false_iff_not, hl, hwa]) | omega | exact True.intro)
          all_goals clear hk k
          refine AW.retF (ow := [1000]) (muts := []) ?_ (fun h => And.intro (.inr rfl) h)
          simp [go_sem, Try.results16]))

set_option maxHeartbeats 600000 in
set_option linter.unusedSimpArgs false in
set_option maxRecDepth 100000 in
/-- impl.AppendLine -/
theorem dc_impl_AppendLine_okn (j : TJournal) (s : List UInt8) (hz : j.sz ≤ 1048576) (hs : s.length ≤ 1048576) (hl : firstC [jouF j, lineF s] = 0) (h1 : j.sure = []) (hb : j.sure.length + (cat [j.loose, pk s]).length ≤ 2400) : DC Try.prog 16 [.agg j.ro, .str s] (.agg [.int .i64 0, .int .i64 ((rd (cat [j.sure, (cat [j.loose, pk s])])).1.length : Nat), .isl 1 [], .osl 1 ((cat [j.loose, pk s]).map B1)]) [] := by
  have hz2 := hz
  unfold TJournal.sz at hz2
  have hpl := pk_len s
  have hcl : (cat [j.loose, pk s]).length = j.loose.length + (s.length + 3) := by rw [cat_two, List.length_append, hpl]
  have hwa : IntKind.wrap .i64 ((j.sure.length : Int) + ((cat [j.loose, pk s]).length : Int)) = (j.sure.length : Int) + ((cat [j.loose, pk s]).length : Int) := wrap64 (by omega) (by omega)
  have h0p : 0 < (cat [j.loose, pk s]).length := by omega
  have h1l : j.sure.length = 0 := by rw [h1]; rfl
  have hwn : IntKind.wrap .i64 ((cat [j.loose, pk s]).length : Int) = ((cat [j.loose, pk s]).length : Int) := wrap64 (by omega) (by omega)
  refine DC.intro tiOk Try.func16 rfl rfl rfl rfl rfl rfl rfl rfl [1000] ?_
  refine AW.reg tiOk (fun _ => []) [1, 2, 4] ?_
  intro k hk; simp -dsimp [go_sem, -decide_eq_true_eq, -decide_eq_false_iff_not, hl, hwa, hwn]
  repeat' (first | refine And.intro ?_ ?_ | refine hk _ ?_ | intro hg | omega | exact True.intro)
  all_goals clear hk k
  refine AW.seq ?_
  refine AW.reg tiOk (fun _ => []) [1, 2, 4, 5] ?_
  intro k hk; simp -dsimp (maxSteps := 2000000) [go_sem, -decide_eq_true_eq, -decide_eq_false_iff_not, hl, hwa, hwn]
  repeat' (first | refine And.intro ?_ ?_ | refine hk _ ?_ | intro hg | (refine CallK.intro (dc_impl_JournalFault j hz) ?_; simp -dsimp (maxSteps := 2000000) [go_sem, -decide_eq_true_eq, -decide_eq_false_iff_not, hl, hwa, hwn]) | (refine CallK.intro (dc_impl_LineFault s (by omega)) ?_; simp -dsimp (maxSteps := 2000000) [go_sem, -decide_eq_true_eq, -decide_eq_false_iff_not, hl, hwa, hwn]) | (refine CallK.intro (dc_impl_firstCode [_, _] (by simp)) ?_; simp -dsimp (maxSteps := 2000000) [go_sem, -decide_eq_true_eq, -decide_eq_false_iff_not, hl, hwa, hwn]) | (refine CallK.intro (dc_impl_firstCode [_, _, _] (by simp)) ?_; simp -dsimp (maxSteps := 2000000) [go_sem, -decide_eq_true_eq, -decide_eq_false_iff_not, hl, hwa, hwn]) | (refine CallK.intro (dc_impl_firstCode [_, _, _, _] (by simp)) ?_; simp -dsimp (maxSteps := 2000000) [go_sem, -decide_eq_true_eq, -decide_eq_false_iff_not, hl, hwa, hwn]) | omega | exact True.intro)
  all_goals clear hk k
  refine AW.reg tiOk (fun _ => []) [1, 2, 4, 5, 14] ?_
  intro k hk; simp -dsimp [go_sem, -decide_eq_true_eq, -decide_eq_false_iff_not, hl, hwa, hwn]
  repeat' (first | refine And.intro ?_ ?_ | refine hk _ ?_ | intro hg | omega | exact True.intro)
  all_goals clear hk k
  refine AW.cond rfl ?_ ?_
  · intro hc; try simp at hc
    all_goals try (exfalso; first | contradiction | omega; done)
    all_goals (
      refine AW.reg tiOk (fun _ => []) [4] ?_
      intro k hk; simp -dsimp [go_sem, -decide_eq_true_eq, -decide_eq_false_iff_not, hl, hwa, hwn]
      repeat' (first | refine And.intro ?_ ?_ | refine hk _ ?_ | intro hg | omega | exact True.intro)
      all_goals clear hk k
      refine AW.retF (ow := [1000]) (muts := []) ?_ (fun h => And.intro (.inr rfl) h)
      simp [go_sem, Try.results16, h1])
  · intro hc; try simp at hc
    all_goals try (exfalso; first | contradiction | omega; done)
    all_goals (
      refine AW.skipN (fun _ h => h) ?_
      refine AW.reg tiOk (fun _ => []) [4, 6] ?_
      intro k hk; simp -dsimp (maxSteps := 2000000) [go_sem, -decide_eq_true_eq, -decide_eq_false_iff_not, hl, hwa, hwn, h1]
      repeat' (first | refine And.intro ?_ ?_ | (refine Chk.keys ?_; simp only [go_sem, List.map_cons, List.map_nil, List.flatMap_cons, List.flatMap_nil, List.flatMap_append, List.append_nil, List.nil_append, List.cons_append]; decide +kernel) | refine hk _ ?_ | intro hg | (refine CallK.intro (dc_Clone_nil) ?_; simp -dsimp (maxSteps := 2000000) [go_sem, -decide_eq_true_eq, -decide_eq_false_iff_not, hl, hwa, hwn, h1]) | (refine CallK.intro (dc_pack_I s hs) ?_; simp -dsimp (maxSteps := 2000000) [go_sem, -decide_eq_true_eq, -decide_eq_false_iff_not, hl, hwa, hwn, h1]) | (refine CallK.intro (dc_slices_Concat_byte_byte_p [j.loose, pk s] (by simp) h0p (by omega)) ?_; simp -dsimp (maxSteps := 2000000) [go_sem, -decide_eq_true_eq, -decide_eq_false_iff_not, hl, hwa, hwn, h1]) | omega | exact True.intro)
      all_goals clear hk k
      refine AW.seq ?_
      refine AW.reg tiOk (fun _ => []) [4, 6, 34] ?_
      intro k hk; simp -dsimp (maxSteps := 2000000) [go_sem, -decide_eq_true_eq, -decide_eq_false_iff_not, hl, hwa, hwn]
      repeat' (first | refine And.intro ?_ ?_ | refine hk _ ?_ | intro hg | omega | exact True.intro)
      all_goals clear hk k
      refine AW.cond rfl ?_ ?_
      · intro hc; try simp at hc
        all_goals try (exfalso; first | contradiction | omega; done)
        all_goals (
          refine AW.reg tiOk (fun _ => []) [4] ?_
          intro k hk; simp -dsimp [go_sem, -decide_eq_true_eq, -decide_eq_false_iff_not, hl, hwa, hwn]
          repeat' (first | refine And.intro ?_ ?_ | refine hk _ ?_ | intro hg | omega | exact True.intro)
          all_goals clear hk k
          refine AW.retF (ow := [1000]) (muts := []) ?_ (fun h => And.intro (.inr rfl) h)
          simp [go_sem, Try.results16, h1])
      · intro hc; try simp at hc
        all_goals try (exfalso; first | contradiction | omega; done)
        all_goals (
          refine AW.skipN (fun _ h => h) ?_
          refine AW.reg tiOk (fun i => if i = 1 then [0] else []) [4] ?_
          intro k hk; simp -dsimp (maxSteps := 2000000) [go_sem, -decide_eq_true_eq, -decide_eq_false_iff_not, hl, hwa, hwn]
          repeat' (first | refine And.intro ?_ ?_ | refine hk _ ?_ | intro hg | (refine CallK.intro (dc_impl_told_no _ (by omega)) ?_; simp -dsimp (maxSteps := 2000000) [go_sem, -decide_eq_true_eq, -decide_eq_false_iff_not, hl, hwa, hwn]) | omega | exact True.intro)
          all_goals clear hk k
          refine AW.retF (ow := [1000]) (muts := []) ?_ (fun h => And.intro (.inr rfl) h)
          simp [go_sem, Try.results16, h1]))

set_option maxHeartbeats 600000 in
set_option linter.unusedSimpArgs false in
set_option maxRecDepth 100000 in
/-- impl.AppendLine -/
theorem dc_impl_AppendLine_oko (j : TJournal) (s : List UInt8) (hz : j.sz ≤ 1048576) (hs : s.length ≤ 1048576) (hl : firstC [jouF j, lineF s] = 0) (h1 : j.sure ≠ []) (hb : j.sure.length + (cat [j.loose, pk s]).length ≤ 2400) : DC Try.prog 16 [.agg j.ro, .str s] (.agg [.int .i64 0, .int .i64 ((rd (cat [j.sure, (cat [j.loose, pk s])])).1.length : Nat), .osl 1 (j.sure.map B1), .osl 1 ((cat [j.loose, pk s]).map B1)]) [] := by
  have hz2 := hz
  unfold TJournal.sz at hz2
  have hpl := pk_len s
  have hcl : (cat [j.loose, pk s]).length = j.loose.length + (s.length + 3) := by rw [cat_two, List.length_append, hpl]
  have hwa : IntKind.wrap .i64 ((j.sure.length : Int) + ((cat [j.loose, pk s]).length : Int)) = (j.sure.length : Int) + ((cat [j.loose, pk s]).length : Int) := wrap64 (by omega) (by omega)
  have h0p : 0 < (cat [j.loose, pk s]).length := by omega
  refine DC.intro tiOk Try.func16 rfl rfl rfl rfl rfl rfl rfl rfl [1000] ?_
  refine AW.reg tiOk (fun _ => []) [1, 2, 4] ?_
  intro k hk; simp -dsimp [go_sem, -decide_eq_true_eq, -decide_eq_false_iff_not, hl, hwa]
  repeat' (first | refine And.intro ?_ ?_ | refine hk _ ?_ | intro hg | omega | exact True.intro)
  all_goals clear hk k
  refine AW.seq ?_
  refine AW.reg tiOk (fun _ => []) [1, 2, 4, 5] ?_
  intro k hk; simp -dsimp (maxSteps := 2000000) [go_sem, -decide_eq_true_eq, -decide_eq_false_iff_not, hl, hwa]
  repeat' (first | refine And.intro ?_ ?_ | refine hk _ ?_ | intro hg | (refine CallK.intro (dc_impl_JournalFault j hz) ?_; simp -dsimp (maxSteps := 2000000) [go_sem, -decide_eq_true_eq, -decide_eq_false_iff_not, hl, hwa]) | (refine CallK.intro (dc_impl_LineFault s (by omega)) ?_; simp -dsimp (maxSteps := 2000000) [go_sem, -decide_eq_true_eq, -decide_eq_false_iff_not, hl, hwa]) | (refine CallK.intro (dc_impl_firstCode [_, _] (by simp)) ?_; simp -dsimp (maxSteps := 2000000) [go_sem, -decide_eq_true_eq, -decide_eq_false_iff_not, hl, hwa]) | (refine CallK.intro (dc_impl_firstCode [_, _, _] (by simp)) ?_; simp -dsimp (maxSteps := 2000000) [go_sem, -decide_eq_true_eq, -decide_eq_false_iff_not, hl, hwa]) | (refine CallK.intro (dc_impl_firstCode [_, _, _, _] (by simp)) ?_; simp -dsimp (maxSteps := 2000000) [go_sem, -decide_eq_true_eq, -decide_eq_false_iff_not, hl, hwa]) | omega | exact True.intro)
  all_goals clear hk k
  refine AW.reg tiOk (fun _ => []) [1, 2, 4, 5, 14] ?_
  intro k hk; simp -dsimp [go_sem, -decide_eq_true_eq, -decide_eq_false_iff_not, hl, hwa]
  repeat' (first | refine And.intro ?_ ?_ | refine hk _ ?_ | intro hg | omega | exact True.intro)
  all_goals clear hk k
  refine AW.cond rfl ?_ ?_
  · intro hc; try simp at hc
    all_goals try (exfalso; first | contradiction | omega; done)
    all_goals (
      refine AW.reg tiOk (fun _ => []) [4] ?_
      intro k hk; simp -dsimp [go_sem, -decide_eq_true_eq, -decide_eq_false_iff_not, hl, hwa]
      repeat' (first | refine And.intro ?_ ?_ | refine hk _ ?_ | intro hg | omega | exact True.intro)
      all_goals clear hk k
      refine AW.retF (ow := [1000]) (muts := []) ?_ (fun h => And.intro (.inr rfl) h)
      simp [go_sem, Try.results16])
  · intro hc; try simp at hc
    all_goals try (exfalso; first | contradiction | omega; done)
    all_goals (
      refine AW.skipN (fun _ h => h) ?_
      refine AW.reg tiOk (fun _ => []) [4, 6] ?_
      intro k hk; simp -dsimp (maxSteps := 2000000) [go_sem, -decide_eq_true_eq, -decide_eq_false_iff_not, hl, hwa]
      repeat' (first | refine And.intro ?_ ?_ | (refine Chk.keys ?_; simp only [go_sem, List.map_cons, List.map_nil, List.flatMap_cons, List.flatMap_nil, List.flatMap_append, List.append_nil, List.nil_append, List.cons_append]; decide +kernel) | refine hk _ ?_ | intro hg | (refine CallK.intro (dc_Clone_ne j.sure h1 (by omega)) ?_; simp -dsimp (maxSteps := 2000000) [go_sem, -decide_eq_true_eq, -decide_eq_false_iff_not, hl, hwa]) | (refine CallK.intro (dc_pack_I s hs) ?_; simp -dsimp (maxSteps := 2000000) [go_sem, -decide_eq_true_eq, -decide_eq_false_iff_not, hl, hwa]) | (refine CallK.intro (dc_slices_Concat_byte_byte_p [j.loose, pk s] (by simp) h0p (by omega)) ?_; simp -dsimp (maxSteps := 2000000) [go_sem, -decide_eq_true_eq, -decide_eq_false_iff_not, hl, hwa]) | omega | exact True.intro)
      all_goals clear hk k
      refine AW.seq ?_
      refine AW.reg tiOk (fun _ => []) [4, 6, 34] ?_
      intro k hk; simp -dsimp (maxSteps := 2000000) [go_sem, -decide_eq_true_eq, -decide_eq_false_iff_not, hl, hwa]
      repeat' (first | refine And.intro ?_ ?_ | refine hk _ ?_ | intro hg | omega | exact True.intro)
      all_goals clear hk k
      refine AW.cond rfl ?_ ?_
      · intro hc; try simp at hc
        all_goals try (exfalso; first | contradiction | omega; done)
        all_goals (
          refine AW.reg tiOk (fun _ => []) [4] ?_
          intro k hk; simp -dsimp [go_sem, -decide_eq_true_eq, -decide_eq_false_iff_not, hl, hwa]
          repeat' (first | refine And.intro ?_ ?_ | refine hk _ ?_ | intro hg | omega | exact True.intro)
          all_goals clear hk k
          refine AW.retF (ow := [1000]) (muts := []) ?_ (fun h => And.intro (.inr rfl) h)
          simp [go_sem, Try.results16])
      · intro hc; try simp at hc
        all_goals try (exfalso; first | contradiction | omega; done)
        all_goals (
          refine AW.skipN (fun _ h => h) ?_
          refine AW.reg tiOk (fun i => if i = 1 then [0] else []) [4] ?_
          intro k hk; simp -dsimp (maxSteps := 2000000) [go_sem, -decide_eq_true_eq, -decide_eq_false_iff_not, hl, hwa]
          repeat' (first | refine And.intro ?_ ?_ | refine hk _ ?_ | intro hg | (refine CallK.intro (dc_impl_told_oo _ _ (by omega)) ?_; simp -dsimp (maxSteps := 2000000) [go_sem, -decide_eq_true_eq, -decide_eq_false_iff_not, hl, hwa]) | omega | exact True.intro)
          all_goals clear hk k
          refine AW.retF (ow := [1000]) (muts := []) ?_ (fun h => And.intro (.inr rfl) h)
          simp [go_sem, Try.results16]))
theorem dc_impl_AppendLine_bad1 (j : TJournal) (s : List UInt8) (hz : j.sz ≤ 1048576) (hs : s.length ≤ 1048576) (hj : jouF j ≠ 0) : DC Try.prog 16 [.agg j.ro, .str s] (.agg [.int .i64 (jouF j), .int .i64 0, .isl 1 [], .isl 1 []]) [] := by
  have e := fc1 (b := lineF s) hj
  have h := dc_impl_AppendLine_bad j s hz hs (by rw [e]; exact hj)
  rwa [e] at h
theorem dc_impl_AppendLine_bad2 (j : TJournal) (s : List UInt8) (hz : j.sz ≤ 1048576) (hs : s.length ≤ 1048576) (hj : jouF j = 0) (hl : lineF s ≠ 0) : DC Try.prog 16 [.agg j.ro, .str s] (.agg [.int .i64 (lineF s), .int .i64 0, .isl 1 [], .isl 1 []]) [] := by
  have e := fc2 (b := lineF s) hj
  have h := dc_impl_AppendLine_bad j s hz hs (by rw [e]; exact hl)
  rwa [e] at h

end Go.AM

/-! ### Jd -/
set_option linter.unusedVariables false
set_option linter.unusedSimpArgs false
namespace Go.AM
open Go.Proofs

set_option maxHeartbeats 600000 in
set_option linter.unusedSimpArgs false in
set_option maxRecDepth 100000 in
/-- spec.AppendLine -/
theorem dc_spec_AppendLine_bad1 (j : TJournal) (s : List UInt8) (hz : j.sz ≤ 1048576) (hs : s.length ≤ 1048576) (hj : jouF j ≠ 0) : DC Try.prog 17 [.agg j.ro, .str s] (.agg [.int .i64 (jouF j), .int .i64 0, .isl 1 [], .isl 1 []]) [] := by
  refine DC.intro tiOk Try.func17 rfl rfl rfl rfl rfl rfl rfl rfl [1000] ?_
  refine AW.reg tiOk (fun _ => []) [1, 2, 4] ?_
  intro k hk; simp -dsimp [go_sem, -decide_eq_true_eq, -decide_eq_false_iff_not, hj]
  repeat' (first | refine And.intro ?_ ?_ | refine hk _ ?_ | intro hg | omega | exact True.intro)
  all_goals clear hk k
  refine AW.seq ?_
  refine AW.reg tiOk (fun _ => []) [1, 2, 4, 5] ?_
  intro k hk; simp -dsimp (maxSteps := 2000000) [go_sem, -decide_eq_true_eq, -decide_eq_false_iff_not, hj]
  repeat' (first | refine And.intro ?_ ?_ | refine hk _ ?_ | intro hg | (refine CallK.intro (dc_spec_l13Fault j hz) ?_; simp -dsimp (maxSteps := 2000000) [go_sem, -decide_eq_true_eq, -decide_eq_false_iff_not, hj]) | omega | exact True.intro)
  all_goals clear hk k
  refine AW.reg tiOk (fun _ => []) [1, 2, 4, 5, 10] ?_
  intro k hk; simp -dsimp [go_sem, -decide_eq_true_eq, -decide_eq_false_iff_not, hj]
  repeat' (first | refine And.intro ?_ ?_ | refine hk _ ?_ | intro hg | omega | exact True.intro)
  all_goals clear hk k
  refine AW.cond rfl ?_ ?_
  · intro hc; try simp at hc
    all_goals try (exfalso; contradiction; done)
    all_goals (
      refine AW.reg tiOk (fun _ => []) [4] ?_
      intro k hk; simp -dsimp [go_sem, -decide_eq_true_eq, -decide_eq_false_iff_not, hj]
      repeat' (first | refine And.intro ?_ ?_ | refine hk _ ?_ | intro hg | omega | exact True.intro)
      all_goals clear hk k
      refine AW.retF (ow := [1000]) (muts := []) ?_ (fun h => And.intro (.inr rfl) h)
      simp [go_sem, Try.results17])
  · intro hc; try simp at hc
    all_goals try (exfalso; contradiction; done)
    all_goals (
      refine AW.skipN (fun _ h => h) ?_
      refine AW.seq ?_
      refine AW.reg tiOk (fun _ => []) [1, 2, 4, 6] ?_
      intro k hk; simp -dsimp (maxSteps := 2000000) [go_sem, -decide_eq_true_eq, -decide_eq_false_iff_not, hj]
      repeat' (first | refine And.intro ?_ ?_ | refine hk _ ?_ | intro hg | (refine CallK.intro (dc_spec_LineFault s (by omega)) ?_; simp -dsimp (maxSteps := 2000000) [go_sem, -decide_eq_true_eq, -decide_eq_false_iff_not, hj]) | omega | exact True.intro)
      all_goals clear hk k
      refine AW.reg tiOk (fun _ => []) [1, 2, 4, 6, 16] ?_
      intro k hk; simp -dsimp [go_sem, -decide_eq_true_eq, -decide_eq_false_iff_not, hj]
      repeat' (first | refine And.intro ?_ ?_ | refine hk _ ?_ | intro hg | omega | exact True.intro)
      all_goals clear hk k
      refine AW.cond rfl ?_ ?_
      · intro hc; try simp at hc
        all_goals try (exfalso; contradiction; done)
        all_goals (
          refine AW.reg tiOk (fun _ => []) [4] ?_
          intro k hk; simp -dsimp [go_sem, -decide_eq_true_eq, -decide_eq_false_iff_not, hj]
          repeat' (first | refine And.intro ?_ ?_ | refine hk _ ?_ | intro hg | omega | exact True.intro)
          all_goals clear hk k
          refine AW.retF (ow := [1000]) (muts := []) ?_ (fun h => And.intro (.inr rfl) h)
          simp [go_sem, Try.results17])
      · intro hc; try simp at hc
        all_goals try (exfalso; contradiction; done)
        all_goals (
          refine AW.skipN (fun _ h => h) ?_
          refine AW.reg tiOk (fun _ => []) [2, 4, 7] ?_
          intro k hk; simp -dsimp (maxSteps := 2000000) [go_sem, -decide_eq_true_eq, -decide_eq_false_iff_not, hj]
          repeat' (first | refine And.intro ?_ ?_ | refine hk _ ?_ | intro hg | (refine CallK.intro (dc_spec_l13Pack _ (by omega)) ?_; simp -dsimp (maxSteps := 2000000) [go_sem, -decide_eq_true_eq, -decide_eq_false_iff_not, hj]) | omega | exact True.intro)
          all_goals clear hk k
          refine AW.seq ?_
          refine AW.reg tiOk (fun _ => []) [2, 4, 7, 32] ?_
          intro k hk; simp -dsimp (maxSteps := 2000000) [go_sem, -decide_eq_true_eq, -decide_eq_false_iff_not, hj]
          repeat' (first | refine And.intro ?_ ?_ | refine hk _ ?_ | intro hg | omega | exact True.intro)
          all_goals clear hk k
          refine AW.cond rfl ?_ ?_
          · intro hc; try simp at hc
            all_goals try (exfalso; contradiction; done)
            all_goals (
              refine AW.reg tiOk (fun _ => []) [4] ?_
              intro k hk; simp -dsimp [go_sem, -decide_eq_true_eq, -decide_eq_false_iff_not, hj]
              repeat' (first | refine And.intro ?_ ?_ | refine hk _ ?_ | intro hg | omega | exact True.intro)
              all_goals clear hk k
              refine AW.retF (ow := [1000]) (muts := []) ?_ (fun h => And.intro (.inr rfl) h)
              simp [go_sem, Try.results17])
          · intro hc; try simp at hc
            all_goals try (exfalso; contradiction; done)
            all_goals (
              refine AW.skipN (fun _ h => h) ?_
              refine AW.reg tiOk (fun _ => []) [4] ?_
              intro k hk; simp -dsimp (maxSteps := 2000000) [go_sem, -decide_eq_true_eq, -decide_eq_false_iff_not, hj]
              repeat' (first | refine And.intro ?_ ?_ | refine hk _ ?_ | intro hg | (refine CallK.intro (dc_spec_l13Of _) ?_; simp -dsimp (maxSteps := 2000000) [go_sem, -decide_eq_true_eq, -decide_eq_false_iff_not, hj]) | omega | exact True.intro)
              all_goals clear hk k
              refine AW.retF (ow := [1000]) (muts := []) ?_ (fun h => And.intro (.inr rfl) h)
              simp [go_sem, Try.results17])))

set_option maxHeartbeats 600000 in
set_option linter.unusedSimpArgs false in
set_option maxRecDepth 100000 in
/-- spec.AppendLine -/
theorem dc_spec_AppendLine_bad2 (j : TJournal) (s : List UInt8) (hz : j.sz ≤ 1048576) (hs : s.length ≤ 1048576) (hj : jouF j = 0) (hl : lineF s ≠ 0) : DC Try.prog 17 [.agg j.ro, .str s] (.agg [.int .i64 (lineF s), .int .i64 0, .isl 1 [], .isl 1 []]) [] := by
  refine DC.intro tiOk Try.func17 rfl rfl rfl rfl rfl rfl rfl rfl [1000] ?_
  refine AW.reg tiOk (fun _ => []) [1, 2, 4] ?_
  intro k hk; simp -dsimp [go_sem, -decide_eq_true_eq, -decide_eq_false_iff_not, hj, hl]
  repeat' (first | refine And.intro ?_ ?_ | refine hk _ ?_ | intro hg | omega | exact True.intro)
  all_goals clear hk k
  refine AW.seq ?_
  refine AW.reg tiOk (fun _ => []) [1, 2, 4, 5] ?_
  intro k hk; simp -dsimp (maxSteps := 2000000) [go_sem, -decide_eq_true_eq, -decide_eq_false_iff_not, hj, hl]
  repeat' (first | refine And.intro ?_ ?_ | refine hk _ ?_ | intro hg | (refine CallK.intro (dc_spec_l13Fault j hz) ?_; simp -dsimp (maxSteps := 2000000) [go_sem, -decide_eq_true_eq, -decide_eq_false_iff_not, hj, hl]) | omega | exact True.intro)
  all_goals clear hk k
  refine AW.reg tiOk (fun _ => []) [1, 2, 4, 5, 10] ?_
  intro k hk; simp -dsimp [go_sem, -decide_eq_true_eq, -decide_eq_false_iff_not, hj, hl]
  repeat' (first | refine And.intro ?_ ?_ | refine hk _ ?_ | intro hg | omega | exact True.intro)
  all_goals clear hk k
  refine AW.cond rfl ?_ ?_
  · intro hc; try simp at hc
    all_goals try (exfalso; contradiction; done)
    all_goals (
      refine AW.reg tiOk (fun _ => []) [4] ?_
      intro k hk; simp -dsimp [go_sem, -decide_eq_true_eq, -decide_eq_false_iff_not, hj, hl]
      repeat' (first | refine And.intro ?_ ?_ | refine hk _ ?_ | intro hg | omega | exact True.intro)
      all_goals clear hk k
      refine AW.retF (ow := [1000]) (muts := []) ?_ (fun h => And.intro (.inr rfl) h)
      simp [go_sem, Try.results17])
  · intro hc; try simp at hc
    all_goals try (exfalso; contradiction; done)
    all_goals (
      refine AW.skipN (fun _ h => h) ?_
      refine AW.seq ?_
      refine AW.reg tiOk (fun _ => []) [1, 2, 4, 6] ?_
      intro k hk; simp -dsimp (maxSteps := 2000000) [go_sem, -decide_eq_true_eq, -decide_eq_false_iff_not, hj, hl]
      repeat' (first | refine And.intro ?_ ?_ | refine hk _ ?_ | intro hg | (refine CallK.intro (dc_spec_LineFault s (by omega)) ?_; simp -dsimp (maxSteps := 2000000) [go_sem, -decide_eq_true_eq, -decide_eq_false_iff_not, hj, hl]) | omega | exact True.intro)
      all_goals clear hk k
      refine AW.reg tiOk (fun _ => []) [1, 2, 4, 6, 16] ?_
      intro k hk; simp -dsimp [go_sem, -decide_eq_true_eq, -decide_eq_false_iff_not, hj, hl]
      repeat' (first | refine And.intro ?_ ?_ | refine hk _ ?_ | intro hg | omega | exact True.intro)
      all_goals clear hk k
      refine AW.cond rfl ?_ ?_
      · intro hc; try simp at hc
        all_goals try (exfalso; contradiction; done)
        all_goals (
          refine AW.reg tiOk (fun _ => []) [4] ?_
          intro k hk; simp -dsimp [go_sem, -decide_eq_true_eq, -decide_eq_false_iff_not, hj, hl]
          repeat' (first | refine And.intro ?_ ?_ | refine hk _ ?_ | intro hg | omega | exact True.intro)
          all_goals clear hk k
          refine AW.retF (ow := [1000]) (muts := []) ?_ (fun h => And.intro (.inr rfl) h)
          simp [go_sem, Try.results17])
      · intro hc; try simp at hc
        all_goals try (exfalso; contradiction; done)
        all_goals (
          refine AW.skipN (fun _ h => h) ?_
          refine AW.reg tiOk (fun _ => []) [2, 4, 7] ?_
          intro k hk; simp -dsimp (maxSteps := 2000000) [go_sem, -decide_eq_true_eq, -decide_eq_false_iff_not, hj, hl]
          repeat' (first | refine And.intro ?_ ?_ | refine hk _ ?_ | intro hg | (refine CallK.intro (dc_spec_l13Pack _ (by omega)) ?_; simp -dsimp (maxSteps := 2000000) [go_sem, -decide_eq_true_eq, -decide_eq_false_iff_not, hj, hl]) | omega | exact True.intro)
          all_goals clear hk k
          refine AW.seq ?_
          refine AW.reg tiOk (fun _ => []) [2, 4, 7, 32] ?_
          intro k hk; simp -dsimp (maxSteps := 2000000) [go_sem, -decide_eq_true_eq, -decide_eq_false_iff_not, hj, hl]
          repeat' (first | refine And.intro ?_ ?_ | refine hk _ ?_ | intro hg | omega | exact True.intro)
          all_goals clear hk k
          refine AW.cond rfl ?_ ?_
          · intro hc; try simp at hc
            all_goals try (exfalso; contradiction; done)
            all_goals (
              refine AW.reg tiOk (fun _ => []) [4] ?_
              intro k hk; simp -dsimp [go_sem, -decide_eq_true_eq, -decide_eq_false_iff_not, hj, hl]
              repeat' (first | refine And.intro ?_ ?_ | refine hk _ ?_ | intro hg | omega | exact True.intro)
              all_goals clear hk k
              refine AW.retF (ow := [1000]) (muts := []) ?_ (fun h => And.intro (.inr rfl) h)
              simp [go_sem, Try.results17])
          · intro hc; try simp at hc
            all_goals try (exfalso; contradiction; done)
            all_goals (
              refine AW.skipN (fun _ h => h) ?_
              refine AW.reg tiOk (fun _ => []) [4] ?_
              intro k hk; simp -dsimp (maxSteps := 2000000) [go_sem, -decide_eq_true_eq, -decide_eq_false_iff_not, hj, hl]
              repeat' (first | refine And.intro ?_ ?_ | refine hk _ ?_ | intro hg | (refine CallK.intro (dc_spec_l13Of _) ?_; simp -dsimp (maxSteps := 2000000) [go_sem, -decide_eq_true_eq, -decide_eq_false_iff_not, hj, hl]) | omega | exact True.intro)
              all_goals clear hk k
              refine AW.retF (ow := [1000]) (muts := []) ?_ (fun h => And.intro (.inr rfl) h)
              simp [go_sem, Try.results17])))

set_option maxHeartbeats 600000 in
set_option linter.unusedSimpArgs false in
set_option maxRecDepth 100000 in
/-- spec.AppendLine -/
theorem dc_spec_AppendLine_bign (j : TJournal) (s : List UInt8) (hz : j.sz ≤ 1048576) (hs : s.length ≤ 1048576) (hj : jouF j = 0) (hl : lineF s = 0) (h1 : j.sure = []) (hb : 2400 < j.sure.length + (cat [j.loose, pk s]).length) : DC Try.prog 17 [.agg j.ro, .str s] (.agg [.int .i64 (2), .int .i64 0, .isl 1 [], .isl 1 []]) [] := by
  have hz2 := hz
  unfold TJournal.sz at hz2
  have hpl := pk_len s
  have hcl : (cat [j.loose, pk s]).length = j.loose.length + (s.length + 3) := by rw [cat_two, List.length_append, hpl]
  have hwa : IntKind.wrap .i64 ((j.sure.length : Int) + ((cat [j.loose, pk s]).length : Int)) = (j.sure.length : Int) + ((cat [j.loose, pk s]).length : Int) := wrap64 (by omega) (by omega)
  have h0p : 0 < (cat [j.loose, pk s]).length := by omega
  have mapB2 : j.loose.map B1 ++ (pk s).map B1 = (cat [j.loose, pk s]).map B1 := by rw [cat_two, List.map_append]
  have htk : List.take (j.loose.length + (pk s).length) ((cat [j.loose, pk s]).map B1) = (cat [j.loose, pk s]).map B1 := by rw [show j.loose.length + (pk s).length = (cat [j.loose, pk s]).length by omega]; exact take_len_map _ _
  have hwb : IntKind.wrap .i64 ((j.sure.length : Int) + ((j.loose.length : Int) + ((pk s).length : Int))) = (j.sure.length : Int) + ((j.loose.length : Int) + ((pk s).length : Int)) := wrap64 (by omega) (by omega)
  have hcnt : ((rd j.sure).1.length : Int) + ((rd (cat [j.loose, pk s])).1.length : Int) = ((rd (cat [j.sure, (cat [j.loose, pk s])])).1.length : Int) := by rw [cat_two j.sure, rd_app _ _ _ (Nat.le_refl _) (jou_whole hj), List.length_append]; omega
  have h1l : j.sure.length = 0 := by rw [h1]; rfl
  refine DC.intro tiOk Try.func17 rfl rfl rfl rfl rfl rfl rfl rfl [1000] ?_
  refine AW.reg tiOk (fun _ => []) [1, 2, 4] ?_
  intro k hk; simp -dsimp [go_sem, -decide_eq_true_eq, -decide_eq_false_iff_not, hj, hl, mapB2, htk, hwb]
  repeat' (first | refine And.intro ?_ ?_ | refine hk _ ?_ | intro hg | omega | exact True.intro)
  all_goals clear hk k
  refine AW.seq ?_
  refine AW.reg tiOk (fun _ => []) [1, 2, 4, 5] ?_
  intro k hk; simp -dsimp (maxSteps := 2000000) [go_sem, -decide_eq_true_eq, -decide_eq_false_iff_not, hj, hl, mapB2, htk, hwb]
  repeat' (first | refine And.intro ?_ ?_ | refine hk _ ?_ | intro hg | (refine CallK.intro (dc_spec_l13Fault j hz) ?_; simp -dsimp (maxSteps := 2000000) [go_sem, -decide_eq_true_eq, -decide_eq_false_iff_not, hj, hl, mapB2, htk, hwb]) | omega | exact True.intro)
  all_goals clear hk k
  refine AW.reg tiOk (fun _ => []) [1, 2, 4, 5, 10] ?_
  intro k hk; simp -dsimp [go_sem, -decide_eq_true_eq, -decide_eq_false_iff_not, hj, hl, mapB2, htk, hwb]
  repeat' (first | refine And.intro ?_ ?_ | refine hk _ ?_ | intro hg | omega | exact True.intro)
  all_goals clear hk k
  refine AW.cond rfl ?_ ?_
  · intro hc; try simp at hc
    all_goals try (exfalso; first | contradiction | omega; done)
    all_goals (
      refine AW.reg tiOk (fun _ => []) [4] ?_
      intro k hk; simp -dsimp [go_sem, -decide_eq_true_eq, -decide_eq_false_iff_not, hj, hl, mapB2, htk, hwb]
      repeat' (first | refine And.intro ?_ ?_ | refine hk _ ?_ | intro hg | omega | exact True.intro)
      all_goals clear hk k
      refine AW.retF (ow := [1000]) (muts := []) ?_ (fun h => And.intro (.inr rfl) h)
      simp [go_sem, Try.results17, hcnt, h1])
  · intro hc; try simp at hc
    all_goals try (exfalso; first | contradiction | omega; done)
    all_goals (
      refine AW.skipN (fun _ h => h) ?_
      refine AW.seq ?_
      refine AW.reg tiOk (fun _ => []) [1, 2, 4, 6] ?_
      intro k hk; simp -dsimp (maxSteps := 2000000) [go_sem, -decide_eq_true_eq, -decide_eq_false_iff_not, hj, hl, mapB2, htk, hwb]
      repeat' (first | refine And.intro ?_ ?_ | refine hk _ ?_ | intro hg | (refine CallK.intro (dc_spec_LineFault s (by omega)) ?_; simp -dsimp (maxSteps := 2000000) [go_sem, -decide_eq_true_eq, -decide_eq_false_iff_not, hj, hl, mapB2, htk, hwb]) | omega | exact True.intro)
      all_goals clear hk k
      refine AW.reg tiOk (fun _ => []) [1, 2, 4, 6, 16] ?_
      intro k hk; simp -dsimp [go_sem, -decide_eq_true_eq, -decide_eq_false_iff_not, hj, hl, mapB2, htk, hwb]
      repeat' (first | refine And.intro ?_ ?_ | refine hk _ ?_ | intro hg | omega | exact True.intro)
      all_goals clear hk k
      refine AW.cond rfl ?_ ?_
      · intro hc; try simp at hc
        all_goals try (exfalso; first | contradiction | omega; done)
        all_goals (
          refine AW.reg tiOk (fun _ => []) [4] ?_
          intro k hk; simp -dsimp [go_sem, -decide_eq_true_eq, -decide_eq_false_iff_not, hj, hl, mapB2, htk, hwb]
          repeat' (first | refine And.intro ?_ ?_ | refine hk _ ?_ | intro hg | omega | exact True.intro)
          all_goals clear hk k
          refine AW.retF (ow := [1000]) (muts := []) ?_ (fun h => And.intro (.inr rfl) h)
          simp [go_sem, Try.results17, hcnt, h1])
      · intro hc; try simp at hc
        all_goals try (exfalso; first | contradiction | omega; done)
        all_goals (
          refine AW.skipN (fun _ h => h) ?_
          refine AW.reg tiOk (fun _ => []) [2, 4, 7] ?_
          intro k hk; simp -dsimp (maxSteps := 2000000) [go_sem, -decide_eq_true_eq, -decide_eq_false_iff_not, hj, hl, mapB2, htk, hwb]
          repeat' (first | refine And.intro ?_ ?_ | refine hk _ ?_ | intro hg | (refine CallK.intro (dc_spec_l13Pack s hs) ?_; simp -dsimp (maxSteps := 2000000) [go_sem, -decide_eq_true_eq, -decide_eq_false_iff_not, hj, hl, mapB2, htk, hwb]) | omega | exact True.intro)
          all_goals clear hk k
          refine AW.seq ?_
          refine AW.reg tiOk (fun _ => []) [2, 4, 7, 32] ?_
          intro k hk; simp -dsimp (maxSteps := 2000000) [go_sem, -decide_eq_true_eq, -decide_eq_false_iff_not, hj, hl, mapB2, htk, hwb]
          repeat' (first | refine And.intro ?_ ?_ | refine hk _ ?_ | intro hg | omega | exact True.intro)
          all_goals clear hk k
          refine AW.cond rfl ?_ ?_
          · intro hc; try simp at hc
            all_goals try (exfalso; first | contradiction | omega; done)
            all_goals (
              refine AW.reg tiOk (fun _ => []) [4] ?_
              intro k hk; simp -dsimp [go_sem, -decide_eq_true_eq, -decide_eq_false_iff_not, hj, hl, mapB2, htk, hwb]
              repeat' (first | refine And.intro ?_ ?_ | refine hk _ ?_ | intro hg | omega | exact True.intro)
              all_goals clear hk k
              refine AW.retF (ow := [1000]) (muts := []) ?_ (fun h => And.intro (.inr rfl) h)
              simp [go_sem, Try.results17, hcnt, h1])
          · intro hc; try simp at hc
            all_goals try (exfalso; first | contradiction | omega; done)
            all_goals (
              refine AW.skipN (fun _ h => h) ?_
              refine AW.reg tiOk (fun _ => []) [4] ?_
              intro k hk; simp -dsimp (maxSteps := 2000000) [go_sem, -decide_eq_true_eq, -decide_eq_false_iff_not, hj, hl, mapB2, htk, hwb, h1]
              repeat' (first | refine And.intro ?_ ?_ | refine hk _ ?_ | intro hg | (refine CallK.intro (dc_spec_l13Of_no (cat [j.loose, pk s]) (by omega)) ?_; simp -dsimp (maxSteps := 2000000) [go_sem, -decide_eq_true_eq, -decide_eq_false_iff_not, hj, hl, mapB2, htk, hwb, h1]) | omega | exact True.intro)
              all_goals clear hk k
              refine AW.retF (ow := [1000]) (muts := []) ?_ (fun h => And.intro (.inr rfl) h)
              simp [go_sem, Try.results17, hcnt, h1])))

set_option maxHeartbeats 600000 in
set_option linter.unusedSimpArgs false in
set_option maxRecDepth 100000 in
/-- spec.AppendLine -/
theorem dc_spec_AppendLine_bigo (j : TJournal) (s : List UInt8) (hz : j.sz ≤ 1048576) (hs : s.length ≤ 1048576) (hj : jouF j = 0) (hl : lineF s = 0) (h1 : j.sure ≠ []) (hb : 2400 < j.sure.length + (cat [j.loose, pk s]).length) : DC Try.prog 17 [.agg j.ro, .str s] (.agg [.int .i64 (2), .int .i64 0, .isl 1 [], .isl 1 []]) [] := by
  have hz2 := hz
  unfold TJournal.sz at hz2
  have hpl := pk_len s
  have hcl : (cat [j.loose, pk s]).length = j.loose.length + (s.length + 3) := by rw [cat_two, List.length_append, hpl]
  have hwa : IntKind.wrap .i64 ((j.sure.length : Int) + ((cat [j.loose, pk s]).length : Int)) = (j.sure.length : Int) + ((cat [j.loose, pk s]).length : Int) := wrap64 (by omega) (by omega)
  have h0p : 0 < (cat [j.loose, pk s]).length := by omega
  have mapB2 : j.loose.map B1 ++ (pk s).map B1 = (cat [j.loose, pk s]).map B1 := by rw [cat_two, List.map_append]
  have htk : List.take (j.loose.length + (pk s).length) ((cat [j.loose, pk s]).map B1) = (cat [j.loose, pk s]).map B1 := by rw [show j.loose.length + (pk s).length = (cat [j.loose, pk s]).length by omega]; exact take_len_map _ _
  have hwb : IntKind.wrap .i64 ((j.sure.length : Int) + ((j.loose.length : Int) + ((pk s).length : Int))) = (j.sure.length : Int) + ((j.loose.length : Int) + ((pk s).length : Int)) := wrap64 (by omega) (by omega)
  have hcnt : ((rd j.sure).1.length : Int) + ((rd (cat [j.loose, pk s])).1.length : Int) = ((rd (cat [j.sure, (cat [j.loose, pk s])])).1.length : Int) := by rw [cat_two j.sure, rd_app _ _ _ (Nat.le_refl _) (jou_whole hj), List.length_append]; omega
  refine DC.intro tiOk Try.func17 rfl rfl rfl rfl rfl rfl rfl rfl [1000] ?_
  refine AW.reg tiOk (fun _ => []) [1, 2, 4] ?_
  intro k hk; simp -dsimp [go_sem, -decide_eq_true_eq, -decide_eq_false_iff_not, hj, hl, mapB2, htk, hwb]
  repeat' (first | refine And.intro ?_ ?_ | refine hk _ ?_ | intro hg | omega | exact True.intro)
  all_goals clear hk k
  refine AW.seq ?_
  refine AW.reg tiOk (fun _ => []) [1, 2, 4, 5] ?_
  intro k hk; simp -dsimp (maxSteps := 2000000) [go_sem, -decide_eq_true_eq, -decide_eq_false_iff_not, hj, hl, mapB2, htk, hwb]
  repeat' (first | refine And.intro ?_ ?_ | refine hk _ ?_ | intro hg | (refine CallK.intro (dc_spec_l13Fault j hz) ?_; simp -dsimp (maxSteps := 2000000) [go_sem, -decide_eq_true_eq, -decide_eq_false_iff_not, hj, hl, mapB2, htk, hwb]) | omega | exact True.intro)
  all_goals clear hk k
  refine AW.reg tiOk (fun _ => []) [1, 2, 4, 5, 10] ?_
  intro k hk; simp -dsimp [go_sem, -decide_eq_true_eq, -decide_eq_false_iff_not, hj, hl, mapB2, htk, hwb]
  repeat' (first | refine And.intro ?_ ?_ | refine hk _ ?_ | intro hg | omega | exact True.intro)
  all_goals clear hk k
  refine AW.cond rfl ?_ ?_
  · intro hc; try simp at hc
    all_goals try (exfalso; first | contradiction | omega; done)
    all_goals (
      refine AW.reg tiOk (fun _ => []) [4] ?_
      intro k hk; simp -dsimp [go_sem, -decide_eq_true_eq, -decide_eq_false_iff_not, hj, hl, mapB2, htk, hwb]
      repeat' (first | refine And.intro ?_ ?_ | refine hk _ ?_ | intro hg | omega | exact True.intro)
      all_goals clear hk k
      refine AW.retF (ow := [1000]) (muts := []) ?_ (fun h => And.intro (.inr rfl) h)
      simp [go_sem, Try.results17, hcnt])
  · intro hc; try simp at hc
    all_goals try (exfalso; first | contradiction | omega; done)
    all_goals (
      refine AW.skipN (fun _ h => h) ?_
      refine AW.seq ?_
      refine AW.reg tiOk (fun _ => []) [1, 2, 4, 6] ?_
      intro k hk; simp -dsimp (maxSteps := 2000000) [go_sem, -decide_eq_true_eq, -decide_eq_false_iff_not, hj, hl, mapB2, htk, hwb]
      repeat' (first | refine And.intro ?_ ?_ | refine hk _ ?_ | intro hg | (refine CallK.intro (dc_spec_LineFault s (by omega)) ?_; simp -dsimp (maxSteps := 2000000) [go_sem, -decide_eq_true_eq, -decide_eq_false_iff_not, hj, hl, mapB2, htk, hwb]) | omega | exact True.intro)
      all_goals clear hk k
      refine AW.reg tiOk (fun _ => []) [1, 2, 4, 6, 16] ?_
      intro k hk; simp -dsimp [go_sem, -decide_eq_true_eq, -decide_eq_false_iff_not, hj, hl, mapB2, htk, hwb]
      repeat' (first | refine And.intro ?_ ?_ | refine hk _ ?_ | intro hg | omega | exact True.intro)
      all_goals clear hk k
      refine AW.cond rfl ?_ ?_
      · intro hc; try simp at hc
        all_goals try (exfalso; first | contradiction | omega; done)
        all_goals (
          refine AW.reg tiOk (fun _ => []) [4] ?_
          intro k hk; simp -dsimp [go_sem, -decide_eq_true_eq, -decide_eq_false_iff_not, hj, hl, mapB2, htk, hwb]
          repeat' (first | refine And.intro ?_ ?_ | refine hk _ ?_ | intro hg | omega | exact True.intro)
          all_goals clear hk k
          refine AW.retF (ow := [1000]) (muts := []) ?_ (fun h => And.intro (.inr rfl) h)
          simp [go_sem, Try.results17, hcnt])
      · intro hc; try simp at hc
        all_goals try (exfalso; first | contradiction | omega; done)
        all_goals (
          refine AW.skipN (fun _ h => h) ?_
          refine AW.reg tiOk (fun _ => []) [2, 4, 7] ?_
          intro k hk; simp -dsimp (maxSteps := 2000000) [go_sem, -decide_eq_true_eq, -decide_eq_false_iff_not, hj, hl, mapB2, htk, hwb]
          repeat' (first | refine And.intro ?_ ?_ | refine hk _ ?_ | intro hg | (refine CallK.intro (dc_spec_l13Pack s hs) ?_; simp -dsimp (maxSteps := 2000000) [go_sem, -decide_eq_true_eq, -decide_eq_false_iff_not, hj, hl, mapB2, htk, hwb]) | omega | exact True.intro)
          all_goals clear hk k
          refine AW.seq ?_
          refine AW.reg tiOk (fun _ => []) [2, 4, 7, 32] ?_
          intro k hk; simp -dsimp (maxSteps := 2000000) [go_sem, -decide_eq_true_eq, -decide_eq_false_iff_not, hj, hl, mapB2, htk, hwb]
          repeat' (first | refine And.intro ?_ ?_ | refine hk _ ?_ | intro hg | omega | exact True.intro)
          all_goals clear hk k
          refine AW.cond rfl ?_ ?_
          · intro hc; try simp at hc
            all_goals try (exfalso; first | contradiction | omega; done)
            all_goals (
              refine AW.reg tiOk (fun _ => []) [4] ?_
              intro k hk; simp -dsimp [go_sem, -decide_eq_true_eq, -decide_eq_false_iff_not, hj, hl, mapB2, htk, hwb]
              repeat' (first | refine And.intro ?_ ?_ | refine hk _ ?_ | intro hg | omega | exact True.intro)
              all_goals clear hk k
              refine AW.retF (ow := [1000]) (muts := []) ?_ (fun h => And.intro (.inr rfl) h)
              simp [go_sem, Try.results17, hcnt])
          · intro hc; try simp at hc
            all_goals try (exfalso; first | contradiction | omega; done)
            all_goals (
              refine AW.skipN (fun _ h => h) ?_
              refine AW.reg tiOk (fun _ => []) [4] ?_
              intro k hk; simp -dsimp (maxSteps := 2000000) [go_sem, -decide_eq_true_eq, -decide_eq_false_iff_not, hj, hl, mapB2, htk, hwb]
              repeat' (first | refine And.intro ?_ ?_ | refine hk _ ?_ | intro hg | (refine CallK.intro (dc_spec_l13Of_oo j.sure (cat [j.loose, pk s]) (by omega)) ?_; simp -dsimp (maxSteps := 2000000) [go_sem, -decide_eq_true_eq, -decide_eq_false_iff_not, hj, hl, mapB2, htk, hwb]) | omega | exact True.intro)
              all_goals clear hk k
              refine AW.retF (ow := [1000]) (muts := []) ?_ (fun h => And.intro (.inr rfl) h)
              simp [go_sem, Try.results17, hcnt])))

set_option maxHeartbeats 600000 in
set_option linter.unusedSimpArgs false in
set_option maxRecDepth 100000 in
/-- spec.AppendLine -/
theorem dc_spec_AppendLine_okn (j : TJournal) (s : List UInt8) (hz : j.sz ≤ 1048576) (hs : s.length ≤ 1048576) (hj : jouF j = 0) (hl : lineF s = 0) (h1 : j.sure = []) (hb : j.sure.length + (cat [j.loose, pk s]).length ≤ 2400) : DC Try.prog 17 [.agg j.ro, .str s] (.agg [.int .i64 0, .int .i64 ((rd (cat [j.sure, (cat [j.loose, pk s])])).1.length : Nat), .isl 1 [], .osl 1 ((cat [j.loose, pk s]).map B1)]) [] := by
  have hz2 := hz
  unfold TJournal.sz at hz2
  have hpl := pk_len s
  have hcl : (cat [j.loose, pk s]).length = j.loose.length + (s.length + 3) := by rw [cat_two, List.length_append, hpl]
  have hwa : IntKind.wrap .i64 ((j.sure.length : Int) + ((cat [j.loose, pk s]).length : Int)) = (j.sure.length : Int) + ((cat [j.loose, pk s]).length : Int) := wrap64 (by omega) (by omega)
  have h0p : 0 < (cat [j.loose, pk s]).length := by omega
  have mapB2 : j.loose.map B1 ++ (pk s).map B1 = (cat [j.loose, pk s]).map B1 := by rw [cat_two, List.map_append]
  have htk : List.take (j.loose.length + (pk s).length) ((cat [j.loose, pk s]).map B1) = (cat [j.loose, pk s]).map B1 := by rw [show j.loose.length + (pk s).length = (cat [j.loose, pk s]).length by omega]; exact take_len_map _ _
  have hwb : IntKind.wrap .i64 ((j.sure.length : Int) + ((j.loose.length : Int) + ((pk s).length : Int))) = (j.sure.length : Int) + ((j.loose.length : Int) + ((pk s).length : Int)) := wrap64 (by omega) (by omega)
  have hcnt : ((rd j.sure).1.length : Int) + ((rd (cat [j.loose, pk s])).1.length : Int) = ((rd (cat [j.sure, (cat [j.loose, pk s])])).1.length : Int) := by rw [cat_two j.sure, rd_app _ _ _ (Nat.le_refl _) (jou_whole hj), List.length_append]; omega
  have h1l : j.sure.length = 0 := by rw [h1]; rfl
  refine DC.intro tiOk Try.func17 rfl rfl rfl rfl rfl rfl rfl rfl [1000] ?_
  refine AW.reg tiOk (fun _ => []) [1, 2, 4] ?_
  intro k hk; simp -dsimp [go_sem, -decide_eq_true_eq, -decide_eq_false_iff_not, hj, hl, mapB2, htk, hwb]
  repeat' (first | refine And.intro ?_ ?_ | refine hk _ ?_ | intro hg | omega | exact True.intro)
  all_goals clear hk k
  refine AW.seq ?_
  refine AW.reg tiOk (fun _ => []) [1, 2, 4, 5] ?_
  intro k hk; simp -dsimp (maxSteps := 2000000) [go_sem, -decide_eq_true_eq, -decide_eq_false_iff_not, hj, hl, mapB2, htk, hwb]
  repeat' (first | refine And.intro ?_ ?_ | refine hk _ ?_ | intro hg | (refine CallK.intro (dc_spec_l13Fault j hz) ?_; simp -dsimp (maxSteps := 2000000) [go_sem, -decide_eq_true_eq, -decide_eq_false_iff_not, hj, hl, mapB2, htk, hwb]) | omega | exact True.intro)
  all_goals clear hk k
  refine AW.reg tiOk (fun _ => []) [1, 2, 4, 5, 10] ?_
  intro k hk; simp -dsimp [go_sem, -decide_eq_true_eq, -decide_eq_false_iff_not, hj, hl, mapB2, htk, hwb]
  repeat' (first | refine And.intro ?_ ?_ | refine hk _ ?_ | intro hg | omega | exact True.intro)
  all_goals clear hk k
  refine AW.cond rfl ?_ ?_
  · intro hc; try simp at hc
    all_goals try (exfalso; first | contradiction | omega; done)
    all_goals (
      refine AW.reg tiOk (fun _ => []) [4] ?_
      intro k hk; simp -dsimp [go_sem, -decide_eq_true_eq, -decide_eq_false_iff_not, hj, hl, mapB2, htk, hwb]
      repeat' (first | refine And.intro ?_ ?_ | refine hk _ ?_ | intro hg | omega | exact True.intro)
      all_goals clear hk k
      refine AW.retF (ow := [1000]) (muts := []) ?_ (fun h => And.intro (.inr rfl) h)
      simp [go_sem, Try.results17, hcnt, h1])
  · intro hc; try simp at hc
    all_goals try (exfalso; first | contradiction | omega; done)
    all_goals (
      refine AW.skipN (fun _ h => h) ?_
      refine AW.seq ?_
      refine AW.reg tiOk (fun _ => []) [1, 2, 4, 6] ?_
      intro k hk; simp -dsimp (maxSteps := 2000000) [go_sem, -decide_eq_true_eq, -decide_eq_false_iff_not, hj, hl, mapB2, htk, hwb]
      repeat' (first | refine And.intro ?_ ?_ | refine hk _ ?_ | intro hg | (refine CallK.intro (dc_spec_LineFault s (by omega)) ?_; simp -dsimp (maxSteps := 2000000) [go_sem, -decide_eq_true_eq, -decide_eq_false_iff_not, hj, hl, mapB2, htk, hwb]) | omega | exact True.intro)
      all_goals clear hk k
      refine AW.reg tiOk (fun _ => []) [1, 2, 4, 6, 16] ?_
      intro k hk; simp -dsimp [go_sem, -decide_eq_true_eq, -decide_eq_false_iff_not, hj, hl, mapB2, htk, hwb]
      repeat' (first | refine And.intro ?_ ?_ | refine hk _ ?_ | intro hg | omega | exact True.intro)
      all_goals clear hk k
      refine AW.cond rfl ?_ ?_
      · intro hc; try simp at hc
        all_goals try (exfalso; first | contradiction | omega; done)
        all_goals (
          refine AW.reg tiOk (fun _ => []) [4] ?_
          intro k hk; simp -dsimp [go_sem, -decide_eq_true_eq, -decide_eq_false_iff_not, hj, hl, mapB2, htk, hwb]
          repeat' (first | refine And.intro ?_ ?_ | refine hk _ ?_ | intro hg | omega | exact True.intro)
          all_goals clear hk k
          refine AW.retF (ow := [1000]) (muts := []) ?_ (fun h => And.intro (.inr rfl) h)
          simp [go_sem, Try.results17, hcnt, h1])
      · intro hc; try simp at hc
        all_goals try (exfalso; first | contradiction | omega; done)
        all_goals (
          refine AW.skipN (fun _ h => h) ?_
          refine AW.reg tiOk (fun _ => []) [2, 4, 7] ?_
          intro k hk; simp -dsimp (maxSteps := 2000000) [go_sem, -decide_eq_true_eq, -decide_eq_false_iff_not, hj, hl, mapB2, htk, hwb]
          repeat' (first | refine And.intro ?_ ?_ | refine hk _ ?_ | intro hg | (refine CallK.intro (dc_spec_l13Pack s hs) ?_; simp -dsimp (maxSteps := 2000000) [go_sem, -decide_eq_true_eq, -decide_eq_false_iff_not, hj, hl, mapB2, htk, hwb]) | omega | exact True.intro)
          all_goals clear hk k
          refine AW.seq ?_
          refine AW.reg tiOk (fun _ => []) [2, 4, 7, 32] ?_
          intro k hk; simp -dsimp (maxSteps := 2000000) [go_sem, -decide_eq_true_eq, -decide_eq_false_iff_not, hj, hl, mapB2, htk, hwb]
          repeat' (first | refine And.intro ?_ ?_ | refine hk _ ?_ | intro hg | omega | exact True.intro)
          all_goals clear hk k
          refine AW.cond rfl ?_ ?_
          · intro hc; try simp at hc
            all_goals try (exfalso; first | contradiction | omega; done)
            all_goals (
              refine AW.reg tiOk (fun _ => []) [4] ?_
              intro k hk; simp -dsimp [go_sem, -decide_eq_true_eq, -decide_eq_false_iff_not, hj, hl, mapB2, htk, hwb]
              repeat' (first | refine And.intro ?_ ?_ | refine hk _ ?_ | intro hg | omega | exact True.intro)
              all_goals clear hk k
              refine AW.retF (ow := [1000]) (muts := []) ?_ (fun h => And.intro (.inr rfl) h)
              simp [go_sem, Try.results17, hcnt, h1])
          · intro hc; try simp at hc
            all_goals try (exfalso; first | contradiction | omega; done)
            all_goals (
              refine AW.skipN (fun _ h => h) ?_
              refine AW.reg tiOk (fun _ => []) [4] ?_
              intro k hk; simp -dsimp (maxSteps := 2000000) [go_sem, -decide_eq_true_eq, -decide_eq_false_iff_not, hj, hl, mapB2, htk, hwb, h1]
              repeat' (first | refine And.intro ?_ ?_ | refine hk _ ?_ | intro hg | (refine CallK.intro (dc_spec_l13Of_no (cat [j.loose, pk s]) (by omega)) ?_; simp -dsimp (maxSteps := 2000000) [go_sem, -decide_eq_true_eq, -decide_eq_false_iff_not, hj, hl, mapB2, htk, hwb, h1]) | omega | exact True.intro)
              all_goals clear hk k
              refine AW.retF (ow := [1000]) (muts := []) ?_ (fun h => And.intro (.inr rfl) h)
              simp [go_sem, Try.results17, hcnt, h1])))

set_option maxHeartbeats 600000 in
set_option linter.unusedSimpArgs false in
set_option maxRecDepth 100000 in
/-- spec.AppendLine -/
theorem dc_spec_AppendLine_oko (j : TJournal) (s : List UInt8) (hz : j.sz ≤ 1048576) (hs : s.length ≤ 1048576) (hj : jouF j = 0) (hl : lineF s = 0) (h1 : j.sure ≠ []) (hb : j.sure.length + (cat [j.loose, pk s]).length ≤ 2400) : DC Try.prog 17 [.agg j.ro, .str s] (.agg [.int .i64 0, .int .i64 ((rd (cat [j.sure, (cat [j.loose, pk s])])).1.length : Nat), .osl 1 (j.sure.map B1), .osl 1 ((cat [j.loose, pk s]).map B1)]) [] := by
  have hz2 := hz
  unfold TJournal.sz at hz2
  have hpl := pk_len s
  have hcl : (cat [j.loose, pk s]).length = j.loose.length + (s.length + 3) := by rw [cat_two, List.length_append, hpl]
  have hwa : IntKind.wrap .i64 ((j.sure.length : Int) + ((cat [j.loose, pk s]).length : Int)) = (j.sure.length : Int) + ((cat [j.loose, pk s]).length : Int) := wrap64 (by omega) (by omega)
  have h0p : 0 < (cat [j.loose, pk s]).length := by omega
  have mapB2 : j.loose.map B1 ++ (pk s).map B1 = (cat [j.loose, pk s]).map B1 := by rw [cat_two, List.map_append]
  have htk : List.take (j.loose.length + (pk s).length) ((cat [j.loose, pk s]).map B1) = (cat [j.loose, pk s]).map B1 := by rw [show j.loose.length + (pk s).length = (cat [j.loose, pk s]).length by omega]; exact take_len_map _ _
  have hwb : IntKind.wrap .i64 ((j.sure.length : Int) + ((j.loose.length : Int) + ((pk s).length : Int))) = (j.sure.length : Int) + ((j.loose.length : Int) + ((pk s).length : Int)) := wrap64 (by omega) (by omega)
  have hcnt : ((rd j.sure).1.length : Int) + ((rd (cat [j.loose, pk s])).1.length : Int) = ((rd (cat [j.sure, (cat [j.loose, pk s])])).1.length : Int) := by rw [cat_two j.sure, rd_app _ _ _ (Nat.le_refl _) (jou_whole hj), List.length_append]; omega
  refine DC.intro tiOk Try.func17 rfl rfl rfl rfl rfl rfl rfl rfl [1000] ?_
  refine AW.reg tiOk (fun _ => []) [1, 2, 4] ?_
  intro k hk; simp -dsimp [go_sem, -decide_eq_true_eq, -decide_eq_false_iff_not, hj, hl, mapB2, htk, hwb]
  repeat' (first | refine And.intro ?_ ?_ | refine hk _ ?_ | intro hg | omega | exact True.intro)
  all_goals clear hk k
  refine AW.seq ?_
  refine AW.reg tiOk (fun _ => []) [1, 2, 4, 5] ?_
  intro k hk; simp -dsimp (maxSteps := 2000000) [go_sem, -decide_eq_true_eq, -decide_eq_false_iff_not, hj, hl, mapB2, htk, hwb]
  repeat' (first | refine And.intro ?_ ?_ | refine hk _ ?_ | intro hg | (refine CallK.intro (dc_spec_l13Fault j hz) ?_; simp -dsimp (maxSteps := 2000000) [go_sem, -decide_eq_true_eq, -decide_eq_false_iff_not, hj, hl, mapB2, htk, hwb]) | omega | exact True.intro)
  all_goals clear hk k
  refine AW.reg tiOk (fun _ => []) [1, 2, 4, 5, 10] ?_
  intro k hk; simp -dsimp [go_sem, -decide_eq_true_eq, -decide_eq_false_iff_not, hj, hl, mapB2, htk, hwb]
  repeat' (first | refine And.intro ?_ ?_ | refine hk _ ?_ | intro hg | omega | exact True.intro)
  all_goals clear hk k
  refine AW.cond rfl ?_ ?_
  · intro hc; try simp at hc
    all_goals try (exfalso; first | contradiction | omega; done)
    all_goals (
      refine AW.reg tiOk (fun _ => []) [4] ?_
      intro k hk; simp -dsimp [go_sem, -decide_eq_true_eq, -decide_eq_false_iff_not, hj, hl, mapB2, htk, hwb]
      repeat' (first | refine And.intro ?_ ?_ | refine hk _ ?_ | intro hg | omega | exact True.intro)
      all_goals clear hk k
      refine AW.retF (ow := [1000]) (muts := []) ?_ (fun h => And.intro (.inr rfl) h)
      simp [go_sem, Try.results17, hcnt])
  · intro hc; try simp at hc
    all_goals try (exfalso; first | contradiction | omega; done)
    all_goals (
      refine AW.skipN (fun _ h => h) ?_
      refine AW.seq ?_
      refine AW.reg tiOk (fun _ => []) [1, 2, 4, 6] ?_
      intro k hk; simp -dsimp (maxSteps := 2000000) [go_sem, -decide_eq_true_eq, -decide_eq_false_iff_not, hj, hl, mapB2, htk, hwb]
      repeat' (first | refine And.intro ?_ ?_ | refine hk _ ?_ | intro hg | (refine CallK.intro (dc_spec_LineFault s (by omega)) ?_; simp -dsimp (maxSteps := 2000000) [go_sem, -decide_eq_true_eq, -decide_eq_false_iff_not, hj, hl, mapB2, htk, hwb]) | omega | exact True.intro)
      all_goals clear hk k
      refine AW.reg tiOk (fun _ => []) [1, 2, 4, 6, 16] ?_
      intro k hk; simp -dsimp [go_sem, -decide_eq_true_eq, -decide_eq_false_iff_not, hj, hl, mapB2, htk, hwb]
      repeat' (first | refine And.intro ?_ ?_ | refine hk _ ?_ | intro hg | omega | exact True.intro)
      all_goals clear hk k
      refine AW.cond rfl ?_ ?_
      · intro hc; try simp at hc
        all_goals try (exfalso; first | contradiction | omega; done)
        all_goals (
          refine AW.reg tiOk (fun _ => []) [4] ?_
          intro k hk; simp -dsimp [go_sem, -decide_eq_true_eq, -decide_eq_false_iff_not, hj, hl, mapB2, htk, hwb]
          repeat' (first | refine And.intro ?_ ?_ | refine hk _ ?_ | intro hg | omega | exact True.intro)
          all_goals clear hk k
          refine AW.retF (ow := [1000]) (muts := []) ?_ (fun h => And.intro (.inr rfl) h)
          simp [go_sem, Try.results17, hcnt])
      · intro hc; try simp at hc
        all_goals try (exfalso; first | contradiction | omega; done)
        all_goals (
          refine AW.skipN (fun _ h => h) ?_
          refine AW.reg tiOk (fun _ => []) [2, 4, 7] ?_
          intro k hk; simp -dsimp (maxSteps := 2000000) [go_sem, -decide_eq_true_eq, -decide_eq_false_iff_not, hj, hl, mapB2, htk, hwb]
          repeat' (first | refine And.intro ?_ ?_ | refine hk _ ?_ | intro hg | (refine CallK.intro (dc_spec_l13Pack s hs) ?_; simp -dsimp (maxSteps := 2000000) [go_sem, -decide_eq_true_eq, -decide_eq_false_iff_not, hj, hl, mapB2, htk, hwb]) | omega | exact True.intro)
          all_goals clear hk k
          refine AW.seq ?_
          refine AW.reg tiOk (fun _ => []) [2, 4, 7, 32] ?_
          intro k hk; simp -dsimp (maxSteps := 2000000) [go_sem, -decide_eq_true_eq, -decide_eq_false_iff_not, hj, hl, mapB2, htk, hwb]
          repeat' (first | refine And.intro ?_ ?_ | refine hk _ ?_ | intro hg | omega | exact True.intro)
          all_goals clear hk k
          refine AW.cond rfl ?_ ?_
          · intro hc; try simp at hc
            all_goals try (exfalso; first | contradiction | omega; done)
            all_goals (
              refine AW.reg tiOk (fun _ => []) [4] ?_
              intro k hk; simp -dsimp [go_sem, -decide_eq_true_eq, -decide_eq_false_iff_not, hj, hl, mapB2, htk, hwb]
              repeat' (first | refine And.intro ?_ ?_ | refine hk _ ?_ | intro hg | omega | exact True.intro)
              all_goals clear hk k
              refine AW.retF (ow := [1000]) (muts := []) ?_ (fun h => And.intro (.inr rfl) h)
              simp [go_sem, Try.results17, hcnt])
          · intro hc; try simp at hc
            all_goals try (exfalso; first | contradiction | omega; done)
            all_goals (
              refine AW.skipN (fun _ h => h) ?_
              refine AW.reg tiOk (fun _ => []) [4] ?_
              intro k hk; simp -dsimp (maxSteps := 2000000) [go_sem, -decide_eq_true_eq, -decide_eq_false_iff_not, hj, hl, mapB2, htk, hwb]
              repeat' (first | refine And.intro ?_ ?_ | refine hk _ ?_ | intro hg | (refine CallK.intro (dc_spec_l13Of_oo j.sure (cat [j.loose, pk s]) (by omega)) ?_; simp -dsimp (maxSteps := 2000000) [go_sem, -decide_eq_true_eq, -decide_eq_false_iff_not, hj, hl, mapB2, htk, hwb]) | omega | exact True.intro)
              all_goals clear hk k
              refine AW.retF (ow := [1000]) (muts := []) ?_ (fun h => And.intro (.inr rfl) h)
              simp [go_sem, Try.results17, hcnt])))

end Go.AM

/-! ### Am25 -/
set_option linter.unusedVariables false
set_option linter.unusedSimpArgs false
namespace Go.AM

def labFz (lab : Labs) (id : Nat) : Labs := fun b => match lab b with
  | some (.obj k, p) => if k = id then none else some (.obj k, p)
  | l => l
theorem labFz_hit {lab : Labs} {id b : Nat} {q : List (Nat × Nat)} (h : lab b = some (.obj id, q)) : labFz lab id b = none := by simp [labFz, h]
theorem labFz_none {lab : Labs} {id b : Nat} (h : lab b = none) : labFz lab id b = none := by simp [labFz, h]
theorem labFz_other {lab : Labs} {id k b : Nat} {q : List (Nat × Nat)} (h : lab b = some (.obj k, q)) (hk : k ≠ id) : labFz lab id b = some (.obj k, q) := by simp [labFz, h, hk]
theorem labFz_still {lab : Labs} {id b : Nat} (h : still (lab b)) : labFz lab id b = lab b := by
  unfold labFz
  split
  · rename_i h2; rw [h2] at h; exact h.elim
  · rfl
theorem labFz_live {lab : Labs} {id b : Nat} (h : labFz lab id b ≠ none) : lab b ≠ none := by
  intro e; exact h (labFz_none e)

section
variable {P : Program} {st : St} {K : Exit → St → Prop}

theorem RepL.freeze {w0 : World} {lab0 : Labs} {a : Act} {w : World} {lab : Labs} {loc : Locs} {s id es i len : Nat} {nd : Node} (hR : RepL w0 lab0 st a w lab loc) (h1 : st.obj id = some nd) (h2 : st.slot s = some (.sl id es i len))
    (hes : nd.es = es) (hb : i + len ≤ nd.l.length) (ht : ∀ c ∈ nd.l, ∀ x ∈ c, AV.tree x = true) :
    RepL w0 lab0 ⟨st.n, (s, .isl es (((nd.l.drop i).take len).map (·.map unown))) :: st.slots, (id, none) :: st.objs⟩ a w (labFz lab id) (fun k => if k = id then none else loc k) := by
  have hloc : ∀ k b base, (fun k => if k = id then none else loc k) k = some (b, base) → loc k = some (b, base) := by
    intro k b base h
    simp only at h
    split at h
    · cases h
    · exact h
  have hV : ∀ x v, V w lab loc x v → V w (labFz lab id) (fun k => if k = id then none else loc k) x v := fun x v hv =>
    hv.mono (fun b _ h => ⟨labFz_none h, rfl⟩) (Nat.le_refl _) fun k _ b base h => ⟨hloc k b base h, fun _ h => h⟩
  refine ⟨hR.size, hR.defers, ?_, ?_, ?_, fun b h => hR.fresh b (labFz_live h), ?_⟩
  · intro s' x hx
    simp only [St.slot, look] at hx
    split at hx
    · rename_i e; subst e
      cases hx
      obtain ⟨b, base, hl, ho⟩ := hR.objs id nd h1
      obtain ⟨c, cap, hv, k1, k2, k3⟩ := (hR.slots _ _ h2).inv_sl hl
      refine .imm _ _ ?_
      rw [hv]
      have hll : ((nd.l.drop i).take len).length = len := by simp; omega
      by_cases hz : len = 0
      · subst hz
        simp only [List.take_zero, List.map_nil]
        exact .esl _ _ _
      have hc : c = ⟨b, base + i * es, none⟩ := by rcases k2 with h | h; omega; exact h
      subst hc
      have hres := I.isl (w := w) (lab := labFz lab id) es (((nd.l.drop i).take len).map (·.map unown)) b (base + i * es) cap
        (fun i' j => (w.cell? ⟨b, base + i * es + i' * es + j, none⟩).getD undef) (labFz_hit ho.hlab) ho.blk.lt (by rw [List.length_map, hll]; exact k1)
        (by
          intro c hc
          obtain ⟨c', hc', rfl⟩ := List.mem_map.1 hc
          rw [List.length_map, ← hes]
          exact ho.es c' (List.mem_of_mem_drop (List.mem_of_mem_take hc')))
        (by
          intro c hc x hx
          obtain ⟨c', hc', rfl⟩ := List.mem_map.1 hc
          obtain ⟨y, hy, rfl⟩ := List.mem_map.1 hx
          exact unown_plain (ht c' (List.mem_of_mem_drop (List.mem_of_mem_take hc')) y hy))
        ?_ ?_
      · rw [List.length_map, hll] at hres; exact hres
      · intro i' j hi hj
        rw [List.length_map, hll] at hi
        have hi2 : i + i' < nd.l.length := by omega
        have hc : nd.l[i + i']? = some nd.l[i + i'] := List.getElem?_eq_getElem hi2
        have hcl := ho.es _ (List.mem_of_getElem? hc)
        obtain ⟨v, hv, _⟩ := ho.cells (i + i') _ j _ hc (List.getElem?_eq_getElem (by omega))
        rw [hes, Nat.add_mul, ← Nat.add_assoc] at hv
        rw [hv]; rfl
      · intro i' c j x hi hj
        simp only [List.getElem?_map, Option.map_eq_some_iff] at hi
        obtain ⟨c', hc', rfl⟩ := hi
        simp only [List.getElem?_map, Option.map_eq_some_iff] at hj
        obtain ⟨y, hy, rfl⟩ := hj
        have hc2 : nd.l[i + i']? = some c' := by
          rw [List.getElem?_take] at hc'
          split at hc'
          · rwa [List.getElem?_drop] at hc'
          · cases hc'
        obtain ⟨v, hv, hcv⟩ := ho.cells (i + i') c' j y hc2 hy
        rw [hes, Nat.add_mul, ← Nat.add_assoc] at hv
        simp only [hv, Option.getD_some]
        refine (Cell.tree hcv (ht c' (List.mem_of_getElem? hc2) y (List.mem_of_getElem? hy))).unown (fun b h => labFz_none h) ?_
        intro b' q hq
        exact labFz_hit (by rw [hq]; rfl)
    · exact hV _ _ (hR.slots s' x hx)
  · intro k nk hk
    simp only [St.obj, look] at hk
    split at hk
    · simp at hk
    · rename_i hne
      have hne' : k ≠ id := fun e => hne e
      obtain ⟨b, base, hl, ho⟩ := hR.objs k nk hk
      refine ⟨b, base, by rw [if_neg hne']; exact hl, labFz_other ho.hlab hne', ho.blk, ho.es, ?_⟩
      intro i2 c2 j2 z hi hj
      obtain ⟨v, hv, hcv⟩ := ho.cells i2 c2 j2 z hi hj
      refine ⟨v, hv, hcv.imp (hV _ _) fun hT => hT.move (fun b _ h => ⟨labFz_none h, rfl⟩) ?_ (Nat.le_refl _)⟩
      intro b' q _ hq
      exact ⟨by rw [labFz_other (k := k) (q := (Lab.app (.obj k, [(i2, j2)]) q).2) (by rw [hq]; rfl) hne']; rfl, rfl⟩
  · intro k hk
    simp only [St.obj, look] at hk
    split at hk
    · rename_i e; simp [e]
    · have := hR.dead k hk
      split
      · rfl
      · exact this
  · have e := hR.ext
    refine ⟨e.size, e.os, e.out, ?_, e.blk⟩
    intro b hb hs
    obtain ⟨k1, k2⟩ := e.kept b hb hs
    exact ⟨by rw [labFz_still (by rw [k1]; exact hs), k1], k2⟩

theorem AW.freeze {code : Code} (s id : Nat) {es i len : Nat} {nd : Node} {l' : List (List AV)} (h1 : st.obj id = some nd) (h2 : st.slot s = some (.sl id es i len)) (hes : nd.es = es) (hb : i + len ≤ nd.l.length) (ht : ∀ c ∈ nd.l, ∀ x ∈ c, AV.tree x = true)
    (hl : ((nd.l.drop i).take len).map (·.map unown) = l')
    (h : AW P code ⟨st.n, (s, .isl es l') :: st.slots, (id, none) :: st.objs⟩ K) : AW P code st K := by
  subst hl
  exact AW.ghost (fun _ _ _ _ ⟨_, _, hR⟩ => ⟨_, _, hR.freeze h1 h2 hes hb ht⟩) h
end
end Go.AM

