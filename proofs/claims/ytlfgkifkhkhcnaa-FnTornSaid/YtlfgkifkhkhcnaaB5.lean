/- Joined texts: Je Jf J4 W9 Wa Wb N8. -/
import Derived.Test.YtlfgkifkhkhcnaaB1
import Derived.Test.YtlfgkifkhkhcnaaB2
import Derived.Test.YtlfgkifkhkhcnaaB3
import Derived.Test.YtlfgkifkhkhcnaaB4
set_option linter.unusedVariables false
set_option linter.unusedSimpArgs false
/-! ### Je -/
set_option linter.unusedVariables false
set_option linter.unusedSimpArgs false
namespace Go.AM
open Go.Proofs

set_option maxHeartbeats 600000 in
set_option linter.unusedSimpArgs false in
set_option maxRecDepth 100000 in
/-- impl.CrashJournal -/
theorem dc_impl_CrashJournal_bad (j : TJournal) (n : Int) (hz : j.sz ≤ 1048576) (hl : (firstC [jouF j, if inR n 0 (j.loose.length : Int) = true then 0 else 3]) ≠ 0) : DC Try.prog 19 [.agg j.ro, .int .i64 n] (.agg [.int .i64 ((firstC [jouF j, if inR n 0 (j.loose.length : Int) = true then 0 else 3])), .int .i64 0, .isl 1 [], .isl 1 []]) [] := by
  have hfc : firstC [jouF j, if (!inR n 0 (j.loose.length : Int)) = true then 3 else 0] = (firstC [jouF j, if inR n 0 (j.loose.length : Int) = true then 0 else 3]) := by cases inR n 0 (j.loose.length : Int) <;> simp
  have hfd : firstC [jouF j, if inR n 0 (j.loose.length : Int) = false then 3 else 0] = (firstC [jouF j, if inR n 0 (j.loose.length : Int) = true then 0 else 3]) := by cases inR n 0 (j.loose.length : Int) <;> simp
  refine DC.intro tiOk Try.func19 rfl rfl rfl rfl rfl rfl rfl rfl [1000] ?_
  refine AW.reg tiOk (fun _ => []) [1, 2, 4] ?_
  intro k hk; simp -dsimp [go_sem, -decide_eq_true_eq, -decide_eq_false_iff_not, hfc, hfd]
  repeat' (first | refine And.intro ?_ ?_ | refine hk _ ?_ | intro hg | omega | exact True.intro)
  all_goals clear hk k
  refine AW.seq ?_
  refine AW.reg tiOk (fun _ => []) [1, 2, 4, 5] ?_
  intro k hk; simp -dsimp (maxSteps := 2000000) [go_sem, -decide_eq_true_eq, -decide_eq_false_iff_not, hfc, hfd]
  repeat' (first | refine And.intro ?_ ?_ | (refine Chk.keys ?_; simp only [go_sem, List.map_cons, List.map_nil, List.flatMap_cons, List.flatMap_nil, List.flatMap_append, List.append_nil, List.nil_append, List.cons_append]; decide +kernel) | refine hk _ ?_ | intro hg | (refine CallK.intro (dc_impl_JournalFault j hz) ?_; simp -dsimp (maxSteps := 2000000) [go_sem, -decide_eq_true_eq, -decide_eq_false_iff_not, hfc, hfd]) | (refine CallK.intro (dc_impl_inRange _ _ _) ?_; simp -dsimp (maxSteps := 2000000) [go_sem, -decide_eq_true_eq, -decide_eq_false_iff_not, hfc, hfd]) | (refine CallK.intro (dc_impl_codeIf _ _) ?_; simp -dsimp (maxSteps := 2000000) [go_sem, -decide_eq_true_eq, -decide_eq_false_iff_not, hfc, hfd]) | (refine CallK.intro (dc_impl_firstCode [_, _] (by simp)) ?_; simp -dsimp (maxSteps := 2000000) [go_sem, -decide_eq_true_eq, -decide_eq_false_iff_not, hfc, hfd]) | (refine CallK.intro (dc_impl_firstCode [_, _, _] (by simp)) ?_; simp -dsimp (maxSteps := 2000000) [go_sem, -decide_eq_true_eq, -decide_eq_false_iff_not, hfc, hfd]) | (refine CallK.intro (dc_impl_firstCode [_, _, _, _] (by simp)) ?_; simp -dsimp (maxSteps := 2000000) [go_sem, -decide_eq_true_eq, -decide_eq_false_iff_not, hfc, hfd]) | omega | exact True.intro)
  all_goals clear hk k
  refine AW.reg tiOk (fun _ => []) [1, 2, 4, 5, 21] ?_
  intro k hk; simp -dsimp [go_sem, -decide_eq_true_eq, -decide_eq_false_iff_not, hfc, hfd]
  repeat' (first | refine And.intro ?_ ?_ | refine hk _ ?_ | intro hg | omega | exact True.intro)
  all_goals clear hk k
  refine AW.cond rfl ?_ ?_
  · intro hc; try simp at hc
    all_goals try (exfalso; contradiction; done)
    all_goals (
      refine AW.reg tiOk (fun _ => []) [4] ?_
      intro k hk; simp -dsimp [go_sem, -decide_eq_true_eq, -decide_eq_false_iff_not, hfc, hfd]
      repeat' (first | refine And.intro ?_ ?_ | refine hk _ ?_ | intro hg | omega | exact True.intro)
      all_goals clear hk k
      refine AW.retF (ow := [1000]) (muts := []) ?_ (fun h => And.intro (.inr rfl) h)
      simp [go_sem, Try.results19])
  · intro hc; try simp at hc
    all_goals try (exfalso; contradiction; done)
    all_goals (
      refine AW.skipN (fun _ h => h) ?_
      refine AW.reg tiOk (fun _ => []) [4, 6] ?_
      intro k hk; simp -dsimp (maxSteps := 2000000) [go_sem, -decide_eq_true_eq, -decide_eq_false_iff_not, hfc, hfd]
      repeat' (first | refine And.intro ?_ ?_ | (refine Chk.keys ?_; simp only [go_sem, List.map_cons, List.map_nil, List.flatMap_cons, List.flatMap_nil, List.flatMap_append, List.append_nil, List.nil_append, List.cons_append]; decide +kernel) | refine hk _ ?_ | intro hg | (refine CallK.intro (dc_slices_Concat_byte_byte _) ?_; simp -dsimp (maxSteps := 2000000) [go_sem, -decide_eq_true_eq, -decide_eq_false_iff_not, hfc, hfd]) | omega | exact True.intro)
      all_goals clear hk k
      refine AW.reg tiOk (fun _ => []) [4, 6, 8] ?_
      intro k hk; simp -dsimp (maxSteps := 2000000) [go_sem, -decide_eq_true_eq, -decide_eq_false_iff_not, hfc, hfd]
      repeat' (first | refine And.intro ?_ ?_ | refine hk _ ?_ | intro hg | (refine CallK.intro (dc_impl_readLines _ (by omega) (by omega)) ?_; simp -dsimp (maxSteps := 2000000) [go_sem, -decide_eq_true_eq, -decide_eq_false_iff_not, hfc, hfd]) | omega | exact True.intro)
      all_goals clear hk k
      refine AW.reg tiOk (fun _ => []) [4] ?_
      intro k hk; simp -dsimp (maxSteps := 2000000) [go_sem, -decide_eq_true_eq, -decide_eq_false_iff_not, hfc, hfd]
      repeat' (first | refine And.intro ?_ ?_ | refine hk _ ?_ | intro hg | (refine CallK.intro (dc_slices_Clone_byte_byte _) ?_; simp -dsimp (maxSteps := 2000000) [go_sem, -decide_eq_true_eq, -decide_eq_false_iff_not, hfc, hfd]) | (refine CallK.intro (dc_impl_told _) ?_; simp -dsimp (maxSteps := 2000000) [go_sem, -decide_eq_true_eq, -decide_eq_false_iff_not, hfc, hfd]) | omega | exact True.intro)
      all_goals clear hk k
      refine AW.retF (ow := [1000]) (muts := []) ?_ (fun h => And.intro (.inr rfl) h)
      simp [go_sem, Try.results19])
theorem dc_impl_CrashJournal_bad1 (j : TJournal) (n : Int) (hz : j.sz ≤ 1048576) (hj : jouF j ≠ 0) : DC Try.prog 19 [.agg j.ro, .int .i64 n] (.agg [.int .i64 (jouF j), .int .i64 0, .isl 1 [], .isl 1 []]) [] := by
  have e : (firstC [jouF j, if inR n 0 (j.loose.length : Int) = true then 0 else 3]) = jouF j := fc1 hj
  have h := dc_impl_CrashJournal_bad j n hz (by rw [e]; exact hj)
  rwa [e] at h
theorem dc_impl_CrashJournal_bad2 (j : TJournal) (n : Int) (hz : j.sz ≤ 1048576) (hj : jouF j = 0) (hr : inR n 0 (j.loose.length : Int) = false) : DC Try.prog 19 [.agg j.ro, .int .i64 n] (.agg [.int .i64 (3), .int .i64 0, .isl 1 [], .isl 1 []]) [] := by
  have e : (firstC [jouF j, if inR n 0 (j.loose.length : Int) = true then 0 else 3]) = 3 := by rw [fc2 hj, hr]; rfl
  have h := dc_impl_CrashJournal_bad j n hz (by rw [e]; decide)
  rwa [e] at h

set_option maxHeartbeats 600000 in
set_option linter.unusedSimpArgs false in
set_option maxRecDepth 100000 in
/-- impl.CrashJournal -/
theorem dc_impl_CrashJournal_p (j : TJournal) (u : Nat) (L D X : List UInt8) (hz : j.sz ≤ 1048576) (hj : jouF j = 0) (hu : u ≤ j.loose.length) (hL : j.loose.take u = L) (hD : cat [j.sure, L] = D) (hX : D.take (rd D).2 = X) (hn : 0 < (rd D).2) : DC Try.prog 19 [.agg j.ro, .int .i64 (u : Nat)] (.agg [.int .i64 0, .int .i64 ((rd X).1.length : Nat), .osl 1 (X.map B1), .isl 1 []]) [] := by
  have hz2 := hz
  unfold TJournal.sz at hz2
  have hLl : L.length = u := by rw [← hL, List.length_take]; omega
  have hDl : D.length = j.sure.length + u := by rw [← hD, cat_two, List.length_append, hLl]
  have hlk : List.take u (j.loose.map B1) = L.map B1 := by rw [← List.map_take, hL]
  have hin : inR (u : Int) 0 (j.loose.length : Int) = true := inR_iff.2 (by omega)
  have hrl := rd_le D
  have htm : List.take (rd D).2 (D.map B1) = X.map B1 := by rw [← List.map_take, hX]
  have hXl : X.length = (rd D).2 := by rw [← hX, List.length_take]; omega
  have hfz : firstC [jouF j, 0] = 0 := by rw [hj]; rfl
  have hcp := dc_slices_Concat_byte_byte_p [j.sure, L] (by simp) (by rw [hD]; omega) (by rw [hD]; omega)
  rw [hD] at hcp
  refine DC.intro tiOk Try.func19 rfl rfl rfl rfl rfl rfl rfl rfl [1000] ?_
  refine AW.reg tiOk (fun _ => []) [1, 2, 4] ?_
  intro k hk; simp -dsimp [go_sem, -decide_eq_true_eq, -decide_eq_false_iff_not, hj, hin, hfz, hlk, hD]
  repeat' (first | refine And.intro ?_ ?_ | refine hk _ ?_ | intro hg | omega | exact True.intro)
  all_goals clear hk k
  refine AW.seq ?_
  refine AW.reg tiOk (fun _ => []) [1, 2, 4, 5] ?_
  intro k hk; simp -dsimp (maxSteps := 2000000) [go_sem, -decide_eq_true_eq, -decide_eq_false_iff_not, hj, hin, hfz, hlk, hD]
  repeat' (first | refine And.intro ?_ ?_ | (refine Chk.keys ?_; simp only [go_sem, List.map_cons, List.map_nil, List.flatMap_cons, List.flatMap_nil, List.flatMap_append, List.append_nil, List.nil_append, List.cons_append]; decide +kernel) | refine hk _ ?_ | intro hg | (refine CallK.intro (dc_impl_JournalFault j hz) ?_; simp -dsimp (maxSteps := 2000000) [go_sem, -decide_eq_true_eq, -decide_eq_false_iff_not, hj, hin, hfz, hlk, hD]) | (refine CallK.intro (dc_impl_inRange _ _ _) ?_; simp -dsimp (maxSteps := 2000000) [go_sem, -decide_eq_true_eq, -decide_eq_false_iff_not, hj, hin, hfz, hlk, hD]) | (refine CallK.intro (dc_impl_codeIf _ _) ?_; simp -dsimp (maxSteps := 2000000) [go_sem, -decide_eq_true_eq, -decide_eq_false_iff_not, hj, hin, hfz, hlk, hD]) | (refine CallK.intro (dc_impl_firstCode [_, _] (by simp)) ?_; simp -dsimp (maxSteps := 2000000) [go_sem, -decide_eq_true_eq, -decide_eq_false_iff_not, hj, hin, hfz, hlk, hD]) | (refine CallK.intro (dc_impl_firstCode [_, _, _] (by simp)) ?_; simp -dsimp (maxSteps := 2000000) [go_sem, -decide_eq_true_eq, -decide_eq_false_iff_not, hj, hin, hfz, hlk, hD]) | (refine CallK.intro (dc_impl_firstCode [_, _, _, _] (by simp)) ?_; simp -dsimp (maxSteps := 2000000) [go_sem, -decide_eq_true_eq, -decide_eq_false_iff_not, hj, hin, hfz, hlk, hD]) | omega | exact True.intro)
  all_goals clear hk k
  refine AW.reg tiOk (fun _ => []) [1, 2, 4, 5, 21] ?_
  intro k hk; simp -dsimp [go_sem, -decide_eq_true_eq, -decide_eq_false_iff_not, hj, hin, hfz, hlk, hD]
  repeat' (first | refine And.intro ?_ ?_ | refine hk _ ?_ | intro hg | omega | exact True.intro)
  all_goals clear hk k
  refine AW.cond rfl ?_ ?_
  · intro hc; try simp at hc
    all_goals try (exfalso; contradiction; done)
    all_goals (
      refine AW.reg tiOk (fun _ => []) [4] ?_
      intro k hk; simp -dsimp [go_sem, -decide_eq_true_eq, -decide_eq_false_iff_not, hj, hin, hfz, hlk, hD]
      repeat' (first | refine And.intro ?_ ?_ | refine hk _ ?_ | intro hg | omega | exact True.intro)
      all_goals clear hk k
      refine AW.retF (ow := [1000]) (muts := []) ?_ (fun h => And.intro (.inr rfl) h)
      simp [go_sem, Try.results19])
  · intro hc; try simp at hc
    all_goals try (exfalso; contradiction; done)
    all_goals (
      refine AW.skipN (fun _ h => h) ?_
      refine AW.reg tiOk (fun _ => []) [4, 6] ?_
      intro k hk; simp -dsimp (maxSteps := 2000000) [go_sem, -decide_eq_true_eq, -decide_eq_false_iff_not, hj, hin, hfz, hlk, hD]
      repeat' (first | refine And.intro ?_ ?_ | (refine Chk.keys ?_; simp only [go_sem, List.map_cons, List.map_nil, List.flatMap_cons, List.flatMap_nil, List.flatMap_append, List.append_nil, List.nil_append, List.cons_append]; decide +kernel) | refine hk _ ?_ | intro hg | (refine CallK.intro (hcp) ?_; simp -dsimp (maxSteps := 2000000) [go_sem, -decide_eq_true_eq, -decide_eq_false_iff_not, hj, hin, hfz, hlk, hD]) | omega | exact True.intro)
      all_goals clear hk k
      refine AW.freeze (es := ?es_1) (i := ?i_1) (len := ?len_1) (nd := ?nd_1) (l' := ?l'_1) 6 1031 ?h1_1 ?h2_1 ?h3_1 ?h4_1 ?h5_1 ?h6_1 ?kk_1
      (case h1_1 => exact rfl)
      (case h2_1 => exact rfl)
      (case h3_1 => exact rfl)
      (case h4_1 => simp [go_sem])
      (case h5_1 => simp [go_sem])
      (case h6_1 => simp [go_sem]; exact rfl)
      refine AW.reg tiOk (fun _ => []) [4, 6, 8] ?_
      intro k hk; simp -dsimp (maxSteps := 2000000) [go_sem, -decide_eq_true_eq, -decide_eq_false_iff_not, hj, hin, hfz, hlk, hD]
      repeat' (first | refine And.intro ?_ ?_ | refine hk _ ?_ | intro hg | (refine CallK.intro (dc_impl_readLines D (by omega) (by omega)) ?_; simp -dsimp (maxSteps := 2000000) [go_sem, -decide_eq_true_eq, -decide_eq_false_iff_not, hj, hin, hfz, hlk, hD]) | omega | exact True.intro)
      all_goals clear hk k
      have hwr : IntKind.wrap .i64 ((D.length : Int) - ((D.length - (rd D).2 : Nat) : Int)) = (((rd D).2 : Nat) : Int) := by rw [wrap64 (by omega) (by omega)]; omega
      refine AW.reg tiOk (fun i => if i = 9 then [0] else []) [4] ?_
      intro k hk; simp -dsimp (maxSteps := 2000000) [go_sem, -decide_eq_true_eq, -decide_eq_false_iff_not, hj, hin, hfz, hlk, hD, hwr, htm]
      repeat' (first | refine And.intro ?_ ?_ | refine hk _ ?_ | intro hg | (refine CallK.intro (dc_Clone_ne X (by intro h; rw [h] at hXl; simp at hXl; omega) (by omega)) ?_; simp -dsimp (maxSteps := 2000000) [go_sem, -decide_eq_true_eq, -decide_eq_false_iff_not, hj, hin, hfz, hlk, hD, hwr, htm]) | (refine CallK.intro (dc_impl_told_on X (by omega)) ?_; simp -dsimp (maxSteps := 2000000) [go_sem, -decide_eq_true_eq, -decide_eq_false_iff_not, hj, hin, hfz, hlk, hD, hwr, htm]) | omega | exact True.intro)
      all_goals clear hk k
      refine AW.retF (ow := [1000]) (muts := []) ?_ (fun h => And.intro (.inr rfl) h)
      simp [go_sem, Try.results19])

set_option maxHeartbeats 600000 in
set_option linter.unusedSimpArgs false in
set_option maxRecDepth 100000 in
/-- impl.CrashJournal -/
theorem dc_impl_CrashJournal_z1 (j : TJournal) (u : Nat) (L D X : List UInt8) (hz : j.sz ≤ 1048576) (hj : jouF j = 0) (hu : u ≤ j.loose.length) (hL : j.loose.take u = L) (hD : cat [j.sure, L] = D) (hX : D.take (rd D).2 = X) (hn : (rd D).2 = 0) (h0 : 0 < D.length) : DC Try.prog 19 [.agg j.ro, .int .i64 (u : Nat)] (.agg [.int .i64 0, .int .i64 0, .isl 1 [], .isl 1 []]) [] := by
  have hz2 := hz
  unfold TJournal.sz at hz2
  have hLl : L.length = u := by rw [← hL, List.length_take]; omega
  have hDl : D.length = j.sure.length + u := by rw [← hD, cat_two, List.length_append, hLl]
  have hlk : List.take u (j.loose.map B1) = L.map B1 := by rw [← List.map_take, hL]
  have hin : inR (u : Int) 0 (j.loose.length : Int) = true := inR_iff.2 (by omega)
  have hrl := rd_le D
  have htm : List.take (rd D).2 (D.map B1) = X.map B1 := by rw [← List.map_take, hX]
  have hXl : X.length = (rd D).2 := by rw [← hX, List.length_take]; omega
  have hfz : firstC [jouF j, 0] = 0 := by rw [hj]; rfl
  have hcp := dc_slices_Concat_byte_byte_p [j.sure, L] (by simp) (by rw [hD]; omega) (by rw [hD]; omega)
  rw [hD] at hcp
  have hw0 : IntKind.wrap .i64 0 = 0 := wrap64 (by omega) (by omega)
  refine DC.intro tiOk Try.func19 rfl rfl rfl rfl rfl rfl rfl rfl [1000] ?_
  refine AW.reg tiOk (fun _ => []) [1, 2, 4] ?_
  intro k hk; simp -dsimp [go_sem, -decide_eq_true_eq, -decide_eq_false_iff_not, hj, hin, hfz, hlk, hD, hn, hw0]
  repeat' (first | refine And.intro ?_ ?_ | refine hk _ ?_ | intro hg | omega | exact True.intro)
  all_goals clear hk k
  refine AW.seq ?_
  refine AW.reg tiOk (fun _ => []) [1, 2, 4, 5] ?_
  intro k hk; simp -dsimp (maxSteps := 2000000) [go_sem, -decide_eq_true_eq, -decide_eq_false_iff_not, hj, hin, hfz, hlk, hD, hn, hw0]
  repeat' (first | refine And.intro ?_ ?_ | (refine Chk.keys ?_; simp only [go_sem, List.map_cons, List.map_nil, List.flatMap_cons, List.flatMap_nil, List.flatMap_append, List.append_nil, List.nil_append, List.cons_append]; decide +kernel) | refine hk _ ?_ | intro hg | (refine CallK.intro (dc_impl_JournalFault j hz) ?_; simp -dsimp (maxSteps := 2000000) [go_sem, -decide_eq_true_eq, -decide_eq_false_iff_not, hj, hin, hfz, hlk, hD, hn, hw0]) | (refine CallK.intro (dc_impl_inRange _ _ _) ?_; simp -dsimp (maxSteps := 2000000) [go_sem, -decide_eq_true_eq, -decide_eq_false_iff_not, hj, hin, hfz, hlk, hD, hn, hw0]) | (refine CallK.intro (dc_impl_codeIf _ _) ?_; simp -dsimp (maxSteps := 2000000) [go_sem, -decide_eq_true_eq, -decide_eq_false_iff_not, hj, hin, hfz, hlk, hD, hn, hw0]) | (refine CallK.intro (dc_impl_firstCode [_, _] (by simp)) ?_; simp -dsimp (maxSteps := 2000000) [go_sem, -decide_eq_true_eq, -decide_eq_false_iff_not, hj, hin, hfz, hlk, hD, hn, hw0]) | (refine CallK.intro (dc_impl_firstCode [_, _, _] (by simp)) ?_; simp -dsimp (maxSteps := 2000000) [go_sem, -decide_eq_true_eq, -decide_eq_false_iff_not, hj, hin, hfz, hlk, hD, hn, hw0]) | (refine CallK.intro (dc_impl_firstCode [_, _, _, _] (by simp)) ?_; simp -dsimp (maxSteps := 2000000) [go_sem, -decide_eq_true_eq, -decide_eq_false_iff_not, hj, hin, hfz, hlk, hD, hn, hw0]) | omega | exact True.intro)
  all_goals clear hk k
  refine AW.reg tiOk (fun _ => []) [1, 2, 4, 5, 21] ?_
  intro k hk; simp -dsimp [go_sem, -decide_eq_true_eq, -decide_eq_false_iff_not, hj, hin, hfz, hlk, hD, hn, hw0]
  repeat' (first | refine And.intro ?_ ?_ | refine hk _ ?_ | intro hg | omega | exact True.intro)
  all_goals clear hk k
  refine AW.cond rfl ?_ ?_
  · intro hc; try simp at hc
    all_goals try (exfalso; contradiction; done)
    all_goals (
      refine AW.reg tiOk (fun _ => []) [4] ?_
      intro k hk; simp -dsimp [go_sem, -decide_eq_true_eq, -decide_eq_false_iff_not, hj, hin, hfz, hlk, hD, hn, hw0]
      repeat' (first | refine And.intro ?_ ?_ | refine hk _ ?_ | intro hg | omega | exact True.intro)
      all_goals clear hk k
      refine AW.retF (ow := [1000]) (muts := []) ?_ (fun h => And.intro (.inr rfl) h)
      simp [go_sem, Try.results19])
  · intro hc; try simp at hc
    all_goals try (exfalso; contradiction; done)
    all_goals (
      refine AW.skipN (fun _ h => h) ?_
      refine AW.reg tiOk (fun _ => []) [4, 6] ?_
      intro k hk; simp -dsimp (maxSteps := 2000000) [go_sem, -decide_eq_true_eq, -decide_eq_false_iff_not, hj, hin, hfz, hlk, hD, hn, hw0]
      repeat' (first | refine And.intro ?_ ?_ | (refine Chk.keys ?_; simp only [go_sem, List.map_cons, List.map_nil, List.flatMap_cons, List.flatMap_nil, List.flatMap_append, List.append_nil, List.nil_append, List.cons_append]; decide +kernel) | refine hk _ ?_ | intro hg | (refine CallK.intro (hcp) ?_; simp -dsimp (maxSteps := 2000000) [go_sem, -decide_eq_true_eq, -decide_eq_false_iff_not, hj, hin, hfz, hlk, hD, hn, hw0]) | omega | exact True.intro)
      all_goals clear hk k
      refine AW.freeze (es := ?es_1) (i := ?i_1) (len := ?len_1) (nd := ?nd_1) (l' := ?l'_1) 6 1031 ?h1_1 ?h2_1 ?h3_1 ?h4_1 ?h5_1 ?h6_1 ?kk_1
      (case h1_1 => exact rfl)
      (case h2_1 => exact rfl)
      (case h3_1 => exact rfl)
      (case h4_1 => simp [go_sem])
      (case h5_1 => simp [go_sem])
      (case h6_1 => simp [go_sem]; exact rfl)
      refine AW.reg tiOk (fun _ => []) [4, 6, 8] ?_
      intro k hk; simp -dsimp (maxSteps := 2000000) [go_sem, -decide_eq_true_eq, -decide_eq_false_iff_not, hj, hin, hfz, hlk, hD, hn, hw0]
      repeat' (first | refine And.intro ?_ ?_ | refine hk _ ?_ | intro hg | (refine CallK.intro (dc_impl_readLines D (by omega) (by omega)) ?_; simp -dsimp (maxSteps := 2000000) [go_sem, -decide_eq_true_eq, -decide_eq_false_iff_not, hj, hin, hfz, hlk, hD, hn, hw0]) | omega | exact True.intro)
      all_goals clear hk k
      refine AW.reg tiOk (fun i => if i = 9 then [0] else []) [4] ?_
      intro k hk; simp -dsimp (maxSteps := 2000000) [go_sem, -decide_eq_true_eq, -decide_eq_false_iff_not, hj, hin, hfz, hlk, hD, hn, hw0]
      repeat' (first | refine And.intro ?_ ?_ | refine hk _ ?_ | intro hg | (refine CallK.intro (dc_Clone_nil) ?_; simp -dsimp (maxSteps := 2000000) [go_sem, -decide_eq_true_eq, -decide_eq_false_iff_not, hj, hin, hfz, hlk, hD, hn, hw0]) | (refine CallK.intro (dc_impl_told_nn) ?_; simp -dsimp (maxSteps := 2000000) [go_sem, -decide_eq_true_eq, -decide_eq_false_iff_not, hj, hin, hfz, hlk, hD, hn, hw0]) | omega | exact True.intro)
      all_goals clear hk k
      refine AW.retF (ow := [1000]) (muts := []) ?_ (fun h => And.intro (.inr rfl) h)
      simp [go_sem, Try.results19])

set_option maxHeartbeats 600000 in
set_option linter.unusedSimpArgs false in
set_option maxRecDepth 100000 in
/-- impl.CrashJournal -/
theorem dc_impl_CrashJournal_z0 (j : TJournal) (u : Nat) (L D X : List UInt8) (hz : j.sz ≤ 1048576) (hj : jouF j = 0) (hu : u ≤ j.loose.length) (hL : j.loose.take u = L) (hD : cat [j.sure, L] = D) (hX : D.take (rd D).2 = X) (h0 : D = []) : DC Try.prog 19 [.agg j.ro, .int .i64 (u : Nat)] (.agg [.int .i64 0, .int .i64 0, .isl 1 [], .isl 1 []]) [] := by
  have hz2 := hz
  unfold TJournal.sz at hz2
  have hLl : L.length = u := by rw [← hL, List.length_take]; omega
  have hDl : D.length = j.sure.length + u := by rw [← hD, cat_two, List.length_append, hLl]
  have hlk : List.take u (j.loose.map B1) = L.map B1 := by rw [← List.map_take, hL]
  have hin : inR (u : Int) 0 (j.loose.length : Int) = true := inR_iff.2 (by omega)
  have hrl := rd_le D
  have htm : List.take (rd D).2 (D.map B1) = X.map B1 := by rw [← List.map_take, hX]
  have hXl : X.length = (rd D).2 := by rw [← hX, List.length_take]; omega
  have hfz : firstC [jouF j, 0] = 0 := by rw [hj]; rfl
  have hr0 : rd [] = ([], 0) := rd_no isL_nil
  have hw0 : IntKind.wrap .i64 0 = 0 := wrap64 (by omega) (by omega)
  refine DC.intro tiOk Try.func19 rfl rfl rfl rfl rfl rfl rfl rfl [1000] ?_
  refine AW.reg tiOk (fun _ => []) [1, 2, 4] ?_
  intro k hk; simp -dsimp [go_sem, -decide_eq_true_eq, -decide_eq_false_iff_not, hj, hin, hfz, hlk, hD, hr0, hw0]
  repeat' (first | refine And.intro ?_ ?_ | refine hk _ ?_ | intro hg | omega | exact True.intro)
  all_goals clear hk k
  refine AW.seq ?_
  refine AW.reg tiOk (fun _ => []) [1, 2, 4, 5] ?_
  intro k hk; simp -dsimp (maxSteps := 2000000) [go_sem, -decide_eq_true_eq, -decide_eq_false_iff_not, hj, hin, hfz, hlk, hD, hr0, hw0]
  repeat' (first | refine And.intro ?_ ?_ | (refine Chk.keys ?_; simp only [go_sem, List.map_cons, List.map_nil, List.flatMap_cons, List.flatMap_nil, List.flatMap_append, List.append_nil, List.nil_append, List.cons_append]; decide +kernel) | refine hk _ ?_ | intro hg | (refine CallK.intro (dc_impl_JournalFault j hz) ?_; simp -dsimp (maxSteps := 2000000) [go_sem, -decide_eq_true_eq, -decide_eq_false_iff_not, hj, hin, hfz, hlk, hD, hr0, hw0]) | (refine CallK.intro (dc_impl_inRange _ _ _) ?_; simp -dsimp (maxSteps := 2000000) [go_sem, -decide_eq_true_eq, -decide_eq_false_iff_not, hj, hin, hfz, hlk, hD, hr0, hw0]) | (refine CallK.intro (dc_impl_codeIf _ _) ?_; simp -dsimp (maxSteps := 2000000) [go_sem, -decide_eq_true_eq, -decide_eq_false_iff_not, hj, hin, hfz, hlk, hD, hr0, hw0]) | (refine CallK.intro (dc_impl_firstCode [_, _] (by simp)) ?_; simp -dsimp (maxSteps := 2000000) [go_sem, -decide_eq_true_eq, -decide_eq_false_iff_not, hj, hin, hfz, hlk, hD, hr0, hw0]) | (refine CallK.intro (dc_impl_firstCode [_, _, _] (by simp)) ?_; simp -dsimp (maxSteps := 2000000) [go_sem, -decide_eq_true_eq, -decide_eq_false_iff_not, hj, hin, hfz, hlk, hD, hr0, hw0]) | (refine CallK.intro (dc_impl_firstCode [_, _, _, _] (by simp)) ?_; simp -dsimp (maxSteps := 2000000) [go_sem, -decide_eq_true_eq, -decide_eq_false_iff_not, hj, hin, hfz, hlk, hD, hr0, hw0]) | omega | exact True.intro)
  all_goals clear hk k
  refine AW.reg tiOk (fun _ => []) [1, 2, 4, 5, 21] ?_
  intro k hk; simp -dsimp [go_sem, -decide_eq_true_eq, -decide_eq_false_iff_not, hj, hin, hfz, hlk, hD, hr0, hw0]
  repeat' (first | refine And.intro ?_ ?_ | refine hk _ ?_ | intro hg | omega | exact True.intro)
  all_goals clear hk k
  refine AW.cond rfl ?_ ?_
  · intro hc; try simp at hc
    all_goals try (exfalso; contradiction; done)
    all_goals (
      refine AW.reg tiOk (fun _ => []) [4] ?_
      intro k hk; simp -dsimp [go_sem, -decide_eq_true_eq, -decide_eq_false_iff_not, hj, hin, hfz, hlk, hD, hr0, hw0]
      repeat' (first | refine And.intro ?_ ?_ | refine hk _ ?_ | intro hg | omega | exact True.intro)
      all_goals clear hk k
      refine AW.retF (ow := [1000]) (muts := []) ?_ (fun h => And.intro (.inr rfl) h)
      simp [go_sem, Try.results19])
  · intro hc; try simp at hc
    all_goals try (exfalso; contradiction; done)
    all_goals (
      refine AW.skipN (fun _ h => h) ?_
      refine AW.reg tiOk (fun _ => []) [4, 6] ?_
      intro k hk; simp -dsimp (maxSteps := 2000000) [go_sem, -decide_eq_true_eq, -decide_eq_false_iff_not, hj, hin, hfz, hlk, hD, hr0, hw0]
      repeat' (first | refine And.intro ?_ ?_ | (refine Chk.keys ?_; simp only [go_sem, List.map_cons, List.map_nil, List.flatMap_cons, List.flatMap_nil, List.flatMap_append, List.append_nil, List.nil_append, List.cons_append]; decide +kernel) | refine hk _ ?_ | intro hg | (refine CallK.intro (dc_slices_Concat_byte_byte_z [j.sure, L] (by simp) (by rw [hD]; exact h0)) ?_; simp -dsimp (maxSteps := 2000000) [go_sem, -decide_eq_true_eq, -decide_eq_false_iff_not, hj, hin, hfz, hlk, hD, hr0, hw0]) | omega | exact True.intro)
      all_goals clear hk k
      refine AW.reg tiOk (fun _ => []) [4, 6, 8] ?_
      intro k hk; simp -dsimp (maxSteps := 2000000) [go_sem, -decide_eq_true_eq, -decide_eq_false_iff_not, hj, hin, hfz, hlk, hD, hr0, hw0]
      repeat' (first | refine And.intro ?_ ?_ | refine hk _ ?_ | intro hg | (refine CallK.intro (dc_impl_readLines [] (by simp) (by simp)) ?_; simp -dsimp (maxSteps := 2000000) [go_sem, -decide_eq_true_eq, -decide_eq_false_iff_not, hj, hin, hfz, hlk, hD, hr0, hw0]) | omega | exact True.intro)
      all_goals clear hk k
      refine AW.reg tiOk (fun i => if i = 9 then [0] else []) [4] ?_
      intro k hk; simp -dsimp (maxSteps := 2000000) [go_sem, -decide_eq_true_eq, -decide_eq_false_iff_not, hj, hin, hfz, hlk, hD, hr0, hw0]
      repeat' (first | refine And.intro ?_ ?_ | refine hk _ ?_ | intro hg | (refine CallK.intro (dc_Clone_nil) ?_; simp -dsimp (maxSteps := 2000000) [go_sem, -decide_eq_true_eq, -decide_eq_false_iff_not, hj, hin, hfz, hlk, hD, hr0, hw0]) | (refine CallK.intro (dc_impl_told_nn) ?_; simp -dsimp (maxSteps := 2000000) [go_sem, -decide_eq_true_eq, -decide_eq_false_iff_not, hj, hin, hfz, hlk, hD, hr0, hw0]) | omega | exact True.intro)
      all_goals clear hk k
      refine AW.retF (ow := [1000]) (muts := []) ?_ (fun h => And.intro (.inr rfl) h)
      simp [go_sem, Try.results19])
theorem dc_impl_CrashJournal_z (j : TJournal) (u : Nat) (L D X : List UInt8) (hz : j.sz ≤ 1048576) (hj : jouF j = 0) (hu : u ≤ j.loose.length) (hL : j.loose.take u = L) (hD : cat [j.sure, L] = D) (hX : D.take (rd D).2 = X) (hn : (rd D).2 = 0) : DC Try.prog 19 [.agg j.ro, .int .i64 (u : Nat)] (.agg [.int .i64 0, .int .i64 0, .isl 1 [], .isl 1 []]) [] := by
  rcases Nat.eq_zero_or_pos D.length with h | h
  · exact dc_impl_CrashJournal_z0 j u L D X hz hj hu hL hD hX (List.eq_nil_of_length_eq_zero h)
  · exact dc_impl_CrashJournal_z1 j u L D X hz hj hu hL hD hX hn h

end Go.AM

/-! ### Jf -/
set_option linter.unusedVariables false
set_option linter.unusedSimpArgs false
namespace Go.AM
open Go.Proofs

set_option maxHeartbeats 600000 in
set_option linter.unusedSimpArgs false in
set_option maxRecDepth 100000 in
/-- spec.CrashJournal -/
theorem dc_spec_CrashJournal_bad1 (j : TJournal) (n : Int) (hz : j.sz ≤ 1048576) (hj : jouF j ≠ 0) : DC Try.prog 22 [.agg j.ro, .int .i64 n] (.agg [.int .i64 (jouF j), .int .i64 0, .isl 1 [], .isl 1 []]) [] := by
  refine DC.intro tiOk Try.func22 rfl rfl rfl rfl rfl rfl rfl rfl [1000] ?_
  refine AW.reg tiOk (fun _ => []) [1, 2, 4] ?_
  intro k hk; simp -dsimp [go_sem, -decide_eq_true_eq, -decide_eq_false_iff_not, hj]
  repeat' (first | refine And.intro ?_ ?_ | refine hk _ ?_ | intro hg | omega | exact True.intro)
  all_goals clear hk k
  refine AW.seq ?_
  refine AW.reg tiOk (fun _ => []) [1, 2, 4, 5] ?_
  intro k hk; simp -dsimp (maxSteps := 2000000) [go_sem, -decide_eq_true_eq, -decide_eq_false_iff_not, hj]
  repeat' (first | refine And.intro ?_ ?_ | refine hk _ ?_ | intro hg | (refine CallK.intro (dc_spec_l13Fault j hz) ?_; simp -dsimp (maxSteps := 2000000) [go_sem, -decide_eq_true_eq, -decide_eq_false_iff_not, hj]) | omega | exact True.intro)
  all_goals clear hk k
  refine AW.reg tiOk (fun _ => []) [1, 2, 4, 5, 11] ?_
  intro k hk; simp -dsimp [go_sem, -decide_eq_true_eq, -decide_eq_false_iff_not, hj]
  repeat' (first | refine And.intro ?_ ?_ | refine hk _ ?_ | intro hg | omega | exact True.intro)
  all_goals clear hk k
  refine AW.cond rfl ?_ ?_
  · intro hc; try simp at hc
    all_goals try (exfalso; contradiction; done)
    all_goals (
      refine AW.reg tiOk (fun _ => []) [4] ?_
      intro k hk; simp -dsimp [go_sem, -decide_eq_true_eq, -decide_eq_false_iff_not, hj]
      repeat' (first | refine And.intro ?_ ?_ | refine hk _ ?_ | intro hg | omega | exact True.intro)
      all_goals clear hk k
      refine AW.retF (ow := [1000]) (muts := []) ?_ (fun h => And.intro (.inr rfl) h)
      simp [go_sem, Try.results22])
  · intro hc; try simp at hc
    all_goals try (exfalso; contradiction; done)
    all_goals (
      refine AW.skipN (fun _ h => h) ?_
      refine AW.seq ?_
      refine AW.reg tiOk (fun _ => []) [1, 2, 4, 19] ?_
      intro k hk; simp -dsimp (maxSteps := 2000000) [go_sem, -decide_eq_true_eq, -decide_eq_false_iff_not, hj]
      repeat' (first | refine And.intro ?_ ?_ | refine hk _ ?_ | intro hg | (refine CallK.intro (dc_spec_l1In _ _ _) ?_; simp -dsimp (maxSteps := 2000000) [go_sem, -decide_eq_true_eq, -decide_eq_false_iff_not, hj]) | omega | exact True.intro)
      all_goals clear hk k
      refine AW.cond rfl ?_ ?_
      · intro hc; try simp at hc
        all_goals try (exfalso; contradiction; done)
        all_goals (
          refine AW.reg tiOk (fun _ => []) [4] ?_
          intro k hk; simp -dsimp [go_sem, -decide_eq_true_eq, -decide_eq_false_iff_not, hj]
          repeat' (first | refine And.intro ?_ ?_ | refine hk _ ?_ | intro hg | omega | exact True.intro)
          all_goals clear hk k
          refine AW.retF (ow := [1000]) (muts := []) ?_ (fun h => And.intro (.inr rfl) h)
          simp [go_sem, Try.results22])
      · intro hc; try simp at hc
        all_goals try (exfalso; contradiction; done)
        all_goals (
          refine AW.skipN (fun _ h => h) ?_
          refine AW.reg tiOk (fun _ => []) [4, 6] ?_
          intro k hk; simp -dsimp (maxSteps := 2000000) [go_sem, -decide_eq_true_eq, -decide_eq_false_iff_not, hj]
          repeat' (first | refine And.intro ?_ ?_ | (refine Chk.keys ?_; simp only [go_sem, List.map_cons, List.map_nil, List.flatMap_cons, List.flatMap_nil, List.flatMap_append, List.append_nil, List.nil_append, List.cons_append]; decide +kernel) | refine hk _ ?_ | intro hg | omega | exact True.intro)
          all_goals clear hk k
          refine AW.reg tiOk (fun _ => []) [4, 6, 8] ?_
          intro k hk; simp -dsimp (maxSteps := 2000000) [go_sem, -decide_eq_true_eq, -decide_eq_false_iff_not, hj]
          repeat' (first | refine And.intro ?_ ?_ | refine hk _ ?_ | intro hg | (refine CallK.intro (dc_spec_l13Read _ (by omega)) ?_; simp -dsimp (maxSteps := 2000000) [go_sem, -decide_eq_true_eq, -decide_eq_false_iff_not, hj]) | omega | exact True.intro)
          all_goals clear hk k
          refine AW.reg tiOk (fun _ => []) [4] ?_
          intro k hk; simp -dsimp (maxSteps := 2000000) [go_sem, -decide_eq_true_eq, -decide_eq_false_iff_not, hj]
          repeat' (first | refine And.intro ?_ ?_ | refine hk _ ?_ | intro hg | (refine CallK.intro (dc_spec_l13Of _) ?_; simp -dsimp (maxSteps := 2000000) [go_sem, -decide_eq_true_eq, -decide_eq_false_iff_not, hj]) | omega | exact True.intro)
          all_goals clear hk k
          refine AW.retF (ow := [1000]) (muts := []) ?_ (fun h => And.intro (.inr rfl) h)
          simp [go_sem, Try.results22]))

set_option maxHeartbeats 600000 in
set_option linter.unusedSimpArgs false in
set_option maxRecDepth 100000 in
/-- spec.CrashJournal -/
theorem dc_spec_CrashJournal_bad2 (j : TJournal) (n : Int) (hz : j.sz ≤ 1048576) (hj : jouF j = 0) (hr : inR n 0 (j.loose.length : Int) = false) : DC Try.prog 22 [.agg j.ro, .int .i64 n] (.agg [.int .i64 (3), .int .i64 0, .isl 1 [], .isl 1 []]) [] := by
  refine DC.intro tiOk Try.func22 rfl rfl rfl rfl rfl rfl rfl rfl [1000] ?_
  refine AW.reg tiOk (fun _ => []) [1, 2, 4] ?_
  intro k hk; simp -dsimp [go_sem, -decide_eq_true_eq, -decide_eq_false_iff_not, hj, hr]
  repeat' (first | refine And.intro ?_ ?_ | refine hk _ ?_ | intro hg | omega | exact True.intro)
  all_goals clear hk k
  refine AW.seq ?_
  refine AW.reg tiOk (fun _ => []) [1, 2, 4, 5] ?_
  intro k hk; simp -dsimp (maxSteps := 2000000) [go_sem, -decide_eq_true_eq, -decide_eq_false_iff_not, hj, hr]
  repeat' (first | refine And.intro ?_ ?_ | refine hk _ ?_ | intro hg | (refine CallK.intro (dc_spec_l13Fault j hz) ?_; simp -dsimp (maxSteps := 2000000) [go_sem, -decide_eq_true_eq, -decide_eq_false_iff_not, hj, hr]) | omega | exact True.intro)
  all_goals clear hk k
  refine AW.reg tiOk (fun _ => []) [1, 2, 4, 5, 11] ?_
  intro k hk; simp -dsimp [go_sem, -decide_eq_true_eq, -decide_eq_false_iff_not, hj, hr]
  repeat' (first | refine And.intro ?_ ?_ | refine hk _ ?_ | intro hg | omega | exact True.intro)
  all_goals clear hk k
  refine AW.cond rfl ?_ ?_
  · intro hc; try simp at hc
    all_goals try (exfalso; contradiction; done)
    all_goals (
      refine AW.reg tiOk (fun _ => []) [4] ?_
      intro k hk; simp -dsimp [go_sem, -decide_eq_true_eq, -decide_eq_false_iff_not, hj, hr]
      repeat' (first | refine And.intro ?_ ?_ | refine hk _ ?_ | intro hg | omega | exact True.intro)
      all_goals clear hk k
      refine AW.retF (ow := [1000]) (muts := []) ?_ (fun h => And.intro (.inr rfl) h)
      simp [go_sem, Try.results22])
  · intro hc; try simp at hc
    all_goals try (exfalso; contradiction; done)
    all_goals (
      refine AW.skipN (fun _ h => h) ?_
      refine AW.seq ?_
      refine AW.reg tiOk (fun _ => []) [1, 2, 4, 19] ?_
      intro k hk; simp -dsimp (maxSteps := 2000000) [go_sem, -decide_eq_true_eq, -decide_eq_false_iff_not, hj, hr]
      repeat' (first | refine And.intro ?_ ?_ | refine hk _ ?_ | intro hg | (refine CallK.intro (dc_spec_l1In _ _ _) ?_; simp -dsimp (maxSteps := 2000000) [go_sem, -decide_eq_true_eq, -decide_eq_false_iff_not, hj, hr]) | omega | exact True.intro)
      all_goals clear hk k
      refine AW.cond rfl ?_ ?_
      · intro hc; try simp at hc
        all_goals try (exfalso; contradiction; done)
        all_goals (
          refine AW.reg tiOk (fun _ => []) [4] ?_
          intro k hk; simp -dsimp [go_sem, -decide_eq_true_eq, -decide_eq_false_iff_not, hj, hr]
          repeat' (first | refine And.intro ?_ ?_ | refine hk _ ?_ | intro hg | omega | exact True.intro)
          all_goals clear hk k
          refine AW.retF (ow := [1000]) (muts := []) ?_ (fun h => And.intro (.inr rfl) h)
          simp [go_sem, Try.results22])
      · intro hc; try simp at hc
        all_goals try (exfalso; contradiction; done)
        all_goals (
          refine AW.skipN (fun _ h => h) ?_
          refine AW.reg tiOk (fun _ => []) [4, 6] ?_
          intro k hk; simp -dsimp (maxSteps := 2000000) [go_sem, -decide_eq_true_eq, -decide_eq_false_iff_not, hj, hr]
          repeat' (first | refine And.intro ?_ ?_ | (refine Chk.keys ?_; simp only [go_sem, List.map_cons, List.map_nil, List.flatMap_cons, List.flatMap_nil, List.flatMap_append, List.append_nil, List.nil_append, List.cons_append]; decide +kernel) | refine hk _ ?_ | intro hg | omega | exact True.intro)
          all_goals clear hk k
          refine AW.reg tiOk (fun _ => []) [4, 6, 8] ?_
          intro k hk; simp -dsimp (maxSteps := 2000000) [go_sem, -decide_eq_true_eq, -decide_eq_false_iff_not, hj, hr]
          repeat' (first | refine And.intro ?_ ?_ | refine hk _ ?_ | intro hg | (refine CallK.intro (dc_spec_l13Read _ (by omega)) ?_; simp -dsimp (maxSteps := 2000000) [go_sem, -decide_eq_true_eq, -decide_eq_false_iff_not, hj, hr]) | omega | exact True.intro)
          all_goals clear hk k
          refine AW.reg tiOk (fun _ => []) [4] ?_
          intro k hk; simp -dsimp (maxSteps := 2000000) [go_sem, -decide_eq_true_eq, -decide_eq_false_iff_not, hj, hr]
          repeat' (first | refine And.intro ?_ ?_ | refine hk _ ?_ | intro hg | (refine CallK.intro (dc_spec_l13Of _) ?_; simp -dsimp (maxSteps := 2000000) [go_sem, -decide_eq_true_eq, -decide_eq_false_iff_not, hj, hr]) | omega | exact True.intro)
          all_goals clear hk k
          refine AW.retF (ow := [1000]) (muts := []) ?_ (fun h => And.intro (.inr rfl) h)
          simp [go_sem, Try.results22]))

set_option maxHeartbeats 600000 in
set_option linter.unusedSimpArgs false in
set_option maxRecDepth 100000 in
/-- spec.CrashJournal -/
theorem dc_spec_CrashJournal_p (j : TJournal) (u : Nat) (L D X : List UInt8) (hz : j.sz ≤ 1048576) (hj : jouF j = 0) (hu : u ≤ j.loose.length) (hL : j.loose.take u = L) (hD : cat [j.sure, L] = D) (hX : D.take (rd D).2 = X) (hn : 0 < (rd D).2) : DC Try.prog 22 [.agg j.ro, .int .i64 (u : Nat)] (.agg [.int .i64 0, .int .i64 ((rd X).1.length : Nat), .osl 1 (X.map B1), .isl 1 []]) [] := by
  have hz2 := hz
  unfold TJournal.sz at hz2
  have hLl : L.length = u := by rw [← hL, List.length_take]; omega
  have hDl : D.length = j.sure.length + u := by rw [← hD, cat_two, List.length_append, hLl]
  have hlk : List.take u (j.loose.map B1) = L.map B1 := by rw [← List.map_take, hL]
  have hin : inR (u : Int) 0 (j.loose.length : Int) = true := inR_iff.2 (by omega)
  have hrl := rd_le D
  have htm : List.take (rd D).2 (D.map B1) = X.map B1 := by rw [← List.map_take, hX]
  have hXl : X.length = (rd D).2 := by rw [← hX, List.length_take]; omega
  have hfz : firstC [jouF j, 0] = 0 := by rw [hj]; rfl
  have mapB2 : j.sure.map B1 ++ L.map B1 = D.map B1 := by rw [← hD, cat_two, List.map_append]
  have htk : List.take (j.sure.length + L.length) (D.map B1) = D.map B1 := by rw [show j.sure.length + L.length = D.length by omega]; exact take_len_map _ _
  have htk2 : List.take (j.sure.length + u) (D.map B1) = D.map B1 := by rw [← hDl]; exact take_len_map _ _
  refine DC.intro tiOk Try.func22 rfl rfl rfl rfl rfl rfl rfl rfl [1000] ?_
  refine AW.reg tiOk (fun _ => []) [1, 2, 4] ?_
  intro k hk; simp -dsimp [go_sem, -decide_eq_true_eq, -decide_eq_false_iff_not, hj, hin, hlk, mapB2, htk, htk2, hDl, htm]
  repeat' (first | refine And.intro ?_ ?_ | refine hk _ ?_ | intro hg | omega | exact True.intro)
  all_goals clear hk k
  refine AW.seq ?_
  refine AW.reg tiOk (fun _ => []) [1, 2, 4, 5] ?_
  intro k hk; simp -dsimp (maxSteps := 2000000) [go_sem, -decide_eq_true_eq, -decide_eq_false_iff_not, hj, hin, hlk, mapB2, htk, htk2, hDl, htm]
  repeat' (first | refine And.intro ?_ ?_ | refine hk _ ?_ | intro hg | (refine CallK.intro (dc_spec_l13Fault j hz) ?_; simp -dsimp (maxSteps := 2000000) [go_sem, -decide_eq_true_eq, -decide_eq_false_iff_not, hj, hin, hlk, mapB2, htk, htk2, hDl, htm]) | omega | exact True.intro)
  all_goals clear hk k
  refine AW.reg tiOk (fun _ => []) [1, 2, 4, 5, 11] ?_
  intro k hk; simp -dsimp [go_sem, -decide_eq_true_eq, -decide_eq_false_iff_not, hj, hin, hlk, mapB2, htk, htk2, hDl, htm]
  repeat' (first | refine And.intro ?_ ?_ | refine hk _ ?_ | intro hg | omega | exact True.intro)
  all_goals clear hk k
  refine AW.cond rfl ?_ ?_
  · intro hc; try simp at hc
    all_goals try (exfalso; contradiction; done)
    all_goals (
      refine AW.reg tiOk (fun _ => []) [4] ?_
      intro k hk; simp -dsimp [go_sem, -decide_eq_true_eq, -decide_eq_false_iff_not, hj, hin, hlk, mapB2, htk, htk2, hDl, htm]
      repeat' (first | refine And.intro ?_ ?_ | refine hk _ ?_ | intro hg | omega | exact True.intro)
      all_goals clear hk k
      refine AW.retF (ow := [1000]) (muts := []) ?_ (fun h => And.intro (.inr rfl) h)
      simp [go_sem, Try.results22])
  · intro hc; try simp at hc
    all_goals try (exfalso; contradiction; done)
    all_goals (
      refine AW.skipN (fun _ h => h) ?_
      refine AW.seq ?_
      refine AW.reg tiOk (fun _ => []) [1, 2, 4, 19] ?_
      intro k hk; simp -dsimp (maxSteps := 2000000) [go_sem, -decide_eq_true_eq, -decide_eq_false_iff_not, hj, hin, hlk, mapB2, htk, htk2, hDl, htm]
      repeat' (first | refine And.intro ?_ ?_ | refine hk _ ?_ | intro hg | (refine CallK.intro (dc_spec_l1In _ _ _) ?_; simp -dsimp (maxSteps := 2000000) [go_sem, -decide_eq_true_eq, -decide_eq_false_iff_not, hj, hin, hlk, mapB2, htk, htk2, hDl, htm]) | omega | exact True.intro)
      all_goals clear hk k
      refine AW.cond rfl ?_ ?_
      · intro hc; try simp at hc
        all_goals try (exfalso; contradiction; done)
        all_goals (
          refine AW.reg tiOk (fun _ => []) [4] ?_
          intro k hk; simp -dsimp [go_sem, -decide_eq_true_eq, -decide_eq_false_iff_not, hj, hin, hlk, mapB2, htk, htk2, hDl, htm]
          repeat' (first | refine And.intro ?_ ?_ | refine hk _ ?_ | intro hg | omega | exact True.intro)
          all_goals clear hk k
          refine AW.retF (ow := [1000]) (muts := []) ?_ (fun h => And.intro (.inr rfl) h)
          simp [go_sem, Try.results22])
      · intro hc; try simp at hc
        all_goals try (exfalso; contradiction; done)
        all_goals (
          refine AW.skipN (fun _ h => h) ?_
          refine AW.reg tiOk (fun _ => []) [4, 6] ?_
          intro k hk; simp -dsimp (maxSteps := 2000000) [go_sem, -decide_eq_true_eq, -decide_eq_false_iff_not, hj, hin, hlk, mapB2, htk, htk2, hDl, htm]
          repeat' (first | refine And.intro ?_ ?_ | (refine Chk.keys ?_; simp only [go_sem, List.map_cons, List.map_nil, List.flatMap_cons, List.flatMap_nil, List.flatMap_append, List.append_nil, List.nil_append, List.cons_append]; decide +kernel) | refine hk _ ?_ | intro hg | omega | exact True.intro)
          all_goals clear hk k
          refine AW.reg tiOk (fun _ => []) [4, 6, 8] ?_
          intro k hk; simp -dsimp (maxSteps := 2000000) [go_sem, -decide_eq_true_eq, -decide_eq_false_iff_not, hj, hin, hlk, mapB2, htk, htk2, hDl, htm]
          repeat' (first | refine And.intro ?_ ?_ | refine hk _ ?_ | intro hg | (refine CallK.intro (dc_spec_l13Read D (by omega)) ?_; simp -dsimp (maxSteps := 2000000) [go_sem, -decide_eq_true_eq, -decide_eq_false_iff_not, hj, hin, hlk, mapB2, htk, htk2, hDl, htm]) | omega | exact True.intro)
          all_goals clear hk k
          refine AW.reg tiOk (fun _ => []) [4] ?_
          intro k hk; simp -dsimp (maxSteps := 2000000) [go_sem, -decide_eq_true_eq, -decide_eq_false_iff_not, hj, hin, hlk, mapB2, htk, htk2, hDl, htm]
          repeat' (first | refine And.intro ?_ ?_ | refine hk _ ?_ | intro hg | (refine CallK.intro (dc_spec_l13Of_on X (by omega)) ?_; simp -dsimp (maxSteps := 2000000) [go_sem, -decide_eq_true_eq, -decide_eq_false_iff_not, hj, hin, hlk, mapB2, htk, htk2, hDl, htm]) | omega | exact True.intro)
          all_goals clear hk k
          refine AW.retF (ow := [1000]) (muts := []) ?_ (fun h => And.intro (.inr rfl) h)
          simp [go_sem, Try.results22]))

set_option maxHeartbeats 600000 in
set_option linter.unusedSimpArgs false in
set_option maxRecDepth 100000 in
/-- spec.CrashJournal -/
theorem dc_spec_CrashJournal_z (j : TJournal) (u : Nat) (L D X : List UInt8) (hz : j.sz ≤ 1048576) (hj : jouF j = 0) (hu : u ≤ j.loose.length) (hL : j.loose.take u = L) (hD : cat [j.sure, L] = D) (hX : D.take (rd D).2 = X) (hn : (rd D).2 = 0) : DC Try.prog 22 [.agg j.ro, .int .i64 (u : Nat)] (.agg [.int .i64 0, .int .i64 0, .isl 1 [], .isl 1 []]) [] := by
  have hz2 := hz
  unfold TJournal.sz at hz2
  have hLl : L.length = u := by rw [← hL, List.length_take]; omega
  have hDl : D.length = j.sure.length + u := by rw [← hD, cat_two, List.length_append, hLl]
  have hlk : List.take u (j.loose.map B1) = L.map B1 := by rw [← List.map_take, hL]
  have hin : inR (u : Int) 0 (j.loose.length : Int) = true := inR_iff.2 (by omega)
  have hrl := rd_le D
  have htm : List.take (rd D).2 (D.map B1) = X.map B1 := by rw [← List.map_take, hX]
  have hXl : X.length = (rd D).2 := by rw [← hX, List.length_take]; omega
  have hfz : firstC [jouF j, 0] = 0 := by rw [hj]; rfl
  have mapB2 : j.sure.map B1 ++ L.map B1 = D.map B1 := by rw [← hD, cat_two, List.map_append]
  have htk : List.take (j.sure.length + L.length) (D.map B1) = D.map B1 := by rw [show j.sure.length + L.length = D.length by omega]; exact take_len_map _ _
  have htk2 : List.take (j.sure.length + u) (D.map B1) = D.map B1 := by rw [← hDl]; exact take_len_map _ _
  refine DC.intro tiOk Try.func22 rfl rfl rfl rfl rfl rfl rfl rfl [1000] ?_
  refine AW.reg tiOk (fun _ => []) [1, 2, 4] ?_
  intro k hk; simp -dsimp [go_sem, -decide_eq_true_eq, -decide_eq_false_iff_not, hj, hin, hlk, mapB2, htk, htk2, hDl, hn]
  repeat' (first | refine And.intro ?_ ?_ | refine hk _ ?_ | intro hg | omega | exact True.intro)
  all_goals clear hk k
  refine AW.seq ?_
  refine AW.reg tiOk (fun _ => []) [1, 2, 4, 5] ?_
  intro k hk; simp -dsimp (maxSteps := 2000000) [go_sem, -decide_eq_true_eq, -decide_eq_false_iff_not, hj, hin, hlk, mapB2, htk, htk2, hDl, hn]
  repeat' (first | refine And.intro ?_ ?_ | refine hk _ ?_ | intro hg | (refine CallK.intro (dc_spec_l13Fault j hz) ?_; simp -dsimp (maxSteps := 2000000) [go_sem, -decide_eq_true_eq, -decide_eq_false_iff_not, hj, hin, hlk, mapB2, htk, htk2, hDl, hn]) | omega | exact True.intro)
  all_goals clear hk k
  refine AW.reg tiOk (fun _ => []) [1, 2, 4, 5, 11] ?_
  intro k hk; simp -dsimp [go_sem, -decide_eq_true_eq, -decide_eq_false_iff_not, hj, hin, hlk, mapB2, htk, htk2, hDl, hn]
  repeat' (first | refine And.intro ?_ ?_ | refine hk _ ?_ | intro hg | omega | exact True.intro)
  all_goals clear hk k
  refine AW.cond rfl ?_ ?_
  · intro hc; try simp at hc
    all_goals try (exfalso; contradiction; done)
    all_goals (
      refine AW.reg tiOk (fun _ => []) [4] ?_
      intro k hk; simp -dsimp [go_sem, -decide_eq_true_eq, -decide_eq_false_iff_not, hj, hin, hlk, mapB2, htk, htk2, hDl, hn]
      repeat' (first | refine And.intro ?_ ?_ | refine hk _ ?_ | intro hg | omega | exact True.intro)
      all_goals clear hk k
      refine AW.retF (ow := [1000]) (muts := []) ?_ (fun h => And.intro (.inr rfl) h)
      simp [go_sem, Try.results22])
  · intro hc; try simp at hc
    all_goals try (exfalso; contradiction; done)
    all_goals (
      refine AW.skipN (fun _ h => h) ?_
      refine AW.seq ?_
      refine AW.reg tiOk (fun _ => []) [1, 2, 4, 19] ?_
      intro k hk; simp -dsimp (maxSteps := 2000000) [go_sem, -decide_eq_true_eq, -decide_eq_false_iff_not, hj, hin, hlk, mapB2, htk, htk2, hDl, hn]
      repeat' (first | refine And.intro ?_ ?_ | refine hk _ ?_ | intro hg | (refine CallK.intro (dc_spec_l1In _ _ _) ?_; simp -dsimp (maxSteps := 2000000) [go_sem, -decide_eq_true_eq, -decide_eq_false_iff_not, hj, hin, hlk, mapB2, htk, htk2, hDl, hn]) | omega | exact True.intro)
      all_goals clear hk k
      refine AW.cond rfl ?_ ?_
      · intro hc; try simp at hc
        all_goals try (exfalso; contradiction; done)
        all_goals (
          refine AW.reg tiOk (fun _ => []) [4] ?_
          intro k hk; simp -dsimp [go_sem, -decide_eq_true_eq, -decide_eq_false_iff_not, hj, hin, hlk, mapB2, htk, htk2, hDl, hn]
          repeat' (first | refine And.intro ?_ ?_ | refine hk _ ?_ | intro hg | omega | exact True.intro)
          all_goals clear hk k
          refine AW.retF (ow := [1000]) (muts := []) ?_ (fun h => And.intro (.inr rfl) h)
          simp [go_sem, Try.results22])
      · intro hc; try simp at hc
        all_goals try (exfalso; contradiction; done)
        all_goals (
          refine AW.skipN (fun _ h => h) ?_
          refine AW.reg tiOk (fun _ => []) [4, 6] ?_
          intro k hk; simp -dsimp (maxSteps := 2000000) [go_sem, -decide_eq_true_eq, -decide_eq_false_iff_not, hj, hin, hlk, mapB2, htk, htk2, hDl, hn]
          repeat' (first | refine And.intro ?_ ?_ | (refine Chk.keys ?_; simp only [go_sem, List.map_cons, List.map_nil, List.flatMap_cons, List.flatMap_nil, List.flatMap_append, List.append_nil, List.nil_append, List.cons_append]; decide +kernel) | refine hk _ ?_ | intro hg | omega | exact True.intro)
          all_goals clear hk k
          refine AW.reg tiOk (fun _ => []) [4, 6, 8] ?_
          intro k hk; simp -dsimp (maxSteps := 2000000) [go_sem, -decide_eq_true_eq, -decide_eq_false_iff_not, hj, hin, hlk, mapB2, htk, htk2, hDl, hn]
          repeat' (first | refine And.intro ?_ ?_ | refine hk _ ?_ | intro hg | (refine CallK.intro (dc_spec_l13Read D (by omega)) ?_; simp -dsimp (maxSteps := 2000000) [go_sem, -decide_eq_true_eq, -decide_eq_false_iff_not, hj, hin, hlk, mapB2, htk, htk2, hDl, hn]) | omega | exact True.intro)
          all_goals clear hk k
          refine AW.reg tiOk (fun _ => []) [4] ?_
          intro k hk; simp -dsimp (maxSteps := 2000000) [go_sem, -decide_eq_true_eq, -decide_eq_false_iff_not, hj, hin, hlk, mapB2, htk, htk2, hDl, hn]
          repeat' (first | refine And.intro ?_ ?_ | refine hk _ ?_ | intro hg | (refine CallK.intro (dc_spec_l13Of_nn) ?_; simp -dsimp (maxSteps := 2000000) [go_sem, -decide_eq_true_eq, -decide_eq_false_iff_not, hj, hin, hlk, mapB2, htk, htk2, hDl, hn]) | omega | exact True.intro)
          all_goals clear hk k
          refine AW.retF (ow := [1000]) (muts := []) ?_ (fun h => And.intro (.inr rfl) h)
          simp [go_sem, Try.results22]))

end Go.AM

/-! ### J4 -/
set_option linter.unusedVariables false
set_option linter.unusedSimpArgs false
namespace Go.AM
open Go.Proofs

set_option maxHeartbeats 600000 in
set_option linter.unusedSimpArgs false in
set_option maxRecDepth 100000 in
/-- impl.ReadLines -/
theorem dc_impl_ReadLines_ok (d : List UInt8) (hd2 : d.length ≤ 1048576) (hb : d.length ≤ 2400) : DC Try.prog 11 [.isl 1 (d.map B1)] (.agg [.int .i64 0, .bool (brk (d.drop (rd d).2) (d.length - (rd d).2)), .osl 1 ((rd d).1.map S1)]) [] := by
  have hrl := rd_le d
  refine DC.intro tiOk Try.func11 rfl rfl rfl rfl rfl rfl rfl rfl [1000] ?_
  refine AW.reg tiOk (fun _ => []) [0, 2] ?_
  intro k hk; simp -dsimp [go_sem, -decide_eq_true_eq, -decide_eq_false_iff_not]
  repeat' (first | refine And.intro ?_ ?_ | refine hk _ ?_ | intro hg | omega | exact True.intro)
  all_goals clear hk k
  refine AW.seq ?_
  refine AW.reg tiOk (fun _ => []) [0, 2, 11] ?_
  intro k hk; simp -dsimp [go_sem, -decide_eq_true_eq, -decide_eq_false_iff_not]
  repeat' (first | refine And.intro ?_ ?_ | refine hk _ ?_ | intro hg | omega | exact True.intro)
  all_goals clear hk k
  refine AW.cond rfl ?_ ?_
  · intro hc; try simp at hc
    all_goals try (exfalso; omega; done)
    all_goals (
      refine AW.reg tiOk (fun _ => []) [2] ?_
      intro k hk; simp -dsimp [go_sem, -decide_eq_true_eq, -decide_eq_false_iff_not]
      repeat' (first | refine And.intro ?_ ?_ | refine hk _ ?_ | intro hg | omega | exact True.intro)
      all_goals clear hk k
      refine AW.retF (ow := [1000]) (muts := []) ?_ (fun h => And.intro (.inr rfl) h)
      have hE : brk (d.drop (rd d).2) i = brk (d.drop (rd d).2) (d.length - (rd d).2) := brk_end hi1 (by simpa using hc) hi2
      simp [go_sem, Try.results11, hE])
  · intro hc; try simp at hc
    all_goals try (exfalso; omega; done)
    all_goals (
      refine AW.skipN (fun _ h => h) ?_
      refine AW.reg tiOk (fun _ => []) [2, 3, 4] ?_
      intro k hk; simp -dsimp (maxSteps := 2000000) [go_sem, -decide_eq_true_eq, -decide_eq_false_iff_not]
      repeat' (first | refine And.intro ?_ ?_ | refine hk _ ?_ | intro hg | (refine CallK.intro (dc_impl_readLines d (by omega) hd2) ?_; simp -dsimp (maxSteps := 2000000) [go_sem, -decide_eq_true_eq, -decide_eq_false_iff_not]) | omega | exact True.intro)
      all_goals clear hk k
      refine AW.reg tiOk (fun _ => []) [2, 4, 5] ?_
      intro k hk; simp -dsimp [go_sem, -decide_eq_true_eq, -decide_eq_false_iff_not]
      repeat' (first | refine And.intro ?_ ?_ | refine hk _ ?_ | intro hg | omega | exact True.intro)
      all_goals clear hk k
      refine AW.seq ?_
      refine AW.reg tiOk (fun _ => []) [2, 4, 5, 6] ?_
      intro k hk; simp -dsimp [go_sem, -decide_eq_true_eq, -decide_eq_false_iff_not]
      repeat' (first | refine And.intro ?_ ?_ | refine hk _ ?_ | intro hg | omega | exact True.intro)
      all_goals clear hk k
      refine AW.block ?_
      -- live at the loop's head: [2, 4, 5, 6]
      refine AW.loopI (fun i : Nat => ⟨40, [(2, .ptr 2 3 0 0), (4, .isl 1 (List.drop (rd d).2 (d.map B1))), (5, .ptr 5 3 0 0), (6, .int .i64 i)], [(2, some ⟨3, [[.int .i64 0, .bool false, .nils]]⟩), (5, some ⟨3, [[.int .i64 0, .bool (brk (d.drop (rd d).2) i), .sl 1015 1 0 (rd d).1.length]]⟩), (1015, some ⟨1, (rd d).1.map S1⟩)]⟩) (fun i => 1 ≤ i ∧ (i = 1 ∨ i ≤ d.length - (rd d).2)) (fun i => d.length - i) (1) (by omega) (Less.of rfl (by simp [go_sem]) (by simp [go_sem, brk_one])) ?_
      rintro i ⟨hi1, hi2⟩
      refine AW.seq ?_
      refine AW.reg tiOk (fun _ => []) [2, 4, 5, 6, 23] ?_
      intro k hk; simp -dsimp [go_sem, -decide_eq_true_eq, -decide_eq_false_iff_not]
      repeat' (first | refine And.intro ?_ ?_ | refine hk _ ?_ | intro hg | omega | exact True.intro)
      all_goals clear hk k
      refine AW.cond rfl ?_ ?_
      · intro hc; try simp at hc
        all_goals try (exfalso; omega; done)
        all_goals (
          have hlt : i < d.length - (rd d).2 := by simpa using hc
          have hbs := brk_step (e := d.drop (rd d).2) hi1
          rw [List.drop_drop] at hbs
          refine AW.skipN (fun _ h => h) ?_
          refine AW.seq ?_
          refine AW.block ?_
          refine AW.reg tiOk (fun _ => []) [2, 4, 5, 6, 8] ?_
          intro k hk; simp -dsimp (maxSteps := 2000000) [go_sem, -decide_eq_true_eq, -decide_eq_false_iff_not]
          repeat' (first | refine And.intro ?_ ?_ | refine hk _ ?_ | intro hg | (refine CallK.intro (dc_impl_lineAt_d d ((rd d).2 + i) (by omega)) ?_; simp -dsimp (maxSteps := 2000000) [go_sem, -decide_eq_true_eq, -decide_eq_false_iff_not]) | omega | exact True.intro)
          all_goals clear hk k
          refine AW.regN tiOk (fun _ => []) [2, 4, 5, 6] (fun _ h => h) ?_
          intro k hk; simp +contextual -dsimp (maxSteps := 2000000) [go_sem, -decide_eq_true_eq, -decide_eq_false_iff_not]
          repeat' (first | refine And.intro ?_ ?_ | refine hk _ ?_ | (intro hg; try simp only [decide_eq_true_eq, decide_eq_false_iff_not] at hg) | omega | exact True.intro)
          all_goals clear hk k
          all_goals (
            refine AW.regK tiOk (fun _ => []) ?_
            intro k hk; simp -dsimp [go_sem, -decide_eq_true_eq, -decide_eq_false_iff_not]
            repeat' (first | refine And.intro ?_ ?_ | refine hk _ ?_ | intro hg | omega | exact True.intro)
            all_goals clear hk k
            show ∃ _, _
            have hw : IntKind.wrap .i64 ((i : Int) + 1) = (i : Int) + 1 := wrap64 (by omega) (by omega)
            refine ⟨i + 1, by omega, by omega, Less.of rfl (by simp [go_sem, hw]) (by simp [go_sem, hbs] <;> simp_all)⟩))
      · intro hc; try simp at hc
        all_goals try (exfalso; omega; done)
        all_goals (
          refine AW.exitN (fun _ h => h) ?_
          refine AW.reg tiOk (fun _ => []) [2] ?_
          intro k hk; simp -dsimp [go_sem, -decide_eq_true_eq, -decide_eq_false_iff_not]
          repeat' (first | refine And.intro ?_ ?_ | refine hk _ ?_ | intro hg | omega | exact True.intro)
          all_goals clear hk k
          refine AW.retF (ow := [1000]) (muts := []) ?_ (fun h => And.intro (.inr rfl) h)
          have hE : brk (d.drop (rd d).2) i = brk (d.drop (rd d).2) (d.length - (rd d).2) := brk_end hi1 (by simpa using hc) hi2
          simp [go_sem, Try.results11, hE]))

end Go.AM

/-! ### W9 -/
set_option linter.unusedVariables false
set_option linter.unusedSimpArgs false
namespace Go.AM
open Go.Proofs

theorem dc_impl_AppendLine_fz (j : TJournal) (s : List UInt8) (hz : j.sz ≤ 1048576) (hs : s.length ≤ 1048576) : DC Try.prog 16 [.agg j.ro, .str s] (AR j s) [] := by
  by_cases hj : jouF j = 0
  · by_cases hl : lineF s = 0
    · by_cases hb : 2400 < j.sure.length + (cat [j.loose, pk s]).length
      · have hc : appC j s = 2 := by rw [appC, if_neg (by simp [hj]), if_neg (by simp [hl]), if_pos hb]
        by_cases h1 : j.sure = []
        · exact (dc_impl_AppendLine_bign j s hz hs (by rw [fc2 hj]; exact hl) h1 hb).frz.eqR (by simp [AR, appN, appJ, hc, unown, unownL, unownLL, B1_unL, go_sem, -List.map_take])
        · exact (dc_impl_AppendLine_bigo j s hz hs (by rw [fc2 hj]; exact hl) h1 hb).frz.eqR (by simp [AR, appN, appJ, hc, unown, unownL, unownLL, B1_unL, go_sem, -List.map_take])
      · have hc : appC j s = 0 := by rw [appC, if_neg (by simp [hj]), if_neg (by simp [hl]), if_neg hb]
        by_cases h1 : j.sure = []
        · exact (dc_impl_AppendLine_okn j s hz hs (by rw [fc2 hj]; exact hl) h1 (by omega)).frz.eqR (by simp [AR, appN, appJ, hc, h1, unown, unownL, unownLL, B1_unL, go_sem, -List.map_take])
        · exact (dc_impl_AppendLine_oko j s hz hs (by rw [fc2 hj]; exact hl) h1 (by omega)).frz.eqR (by simp [AR, appN, appJ, hc, unown, unownL, unownLL, B1_unL, go_sem, -List.map_take])
    · have hc : appC j s = lineF s := by rw [appC, if_neg (by simp [hj]), if_pos hl]
      exact (dc_impl_AppendLine_bad2 j s hz hs hj hl).frz.eqR (by simp [AR, appN, appJ, hc, hl, unown, unownL, unownLL, B1_unL, go_sem, -List.map_take])
  · have hc : appC j s = jouF j := by rw [appC, if_pos hj]
    exact (dc_impl_AppendLine_bad1 j s hz hs hj).frz.eqR (by simp [AR, appN, appJ, hc, hj, unown, unownL, unownLL, B1_unL, go_sem, -List.map_take])

theorem dc_impl_CrashJournal_fz (j : TJournal) (n : Int) (hz : j.sz ≤ 1048576) : DC Try.prog 19 [.agg j.ro, .int .i64 n] (CR j n) [] := by
  by_cases hj : jouF j = 0
  · by_cases hr : inR n 0 (j.loose.length : Int) = true
    · have h := inR_iff.1 hr
      obtain ⟨u, rfl⟩ : ∃ k : Nat, n = k := ⟨_, (Int.toNat_of_nonneg h.1).symm⟩
      have hc : crC j (u : Int) = 0 := by rw [crC, if_neg (by simp [hj]), if_neg (by simp [hr])]
      have hD : crD j (u : Int) = cat [j.sure, j.loose.take u] := by rw [crD, Int.toNat_natCast]
      by_cases hn : (rd (cat [j.sure, j.loose.take u])).2 = 0
      · exact (dc_impl_CrashJournal_z j u _ _ _ hz hj (by omega) rfl rfl rfl hn).frz.eqR (by simp [CR, crN, crS, hc, hD, hn, rd_no isL_nil, unown, unownL, unownLL, B1_unL, go_sem, -List.map_take])
      · exact (dc_impl_CrashJournal_p j u _ _ _ hz hj (by omega) rfl rfl rfl (by omega)).frz.eqR (by simp [CR, crN, crS, hc, hD, unown, unownL, unownLL, B1_unL, go_sem, -List.map_take])
    · have hr' : inR n 0 (j.loose.length : Int) = false := by simpa using hr
      have hc : crC j n = 3 := by rw [crC, if_neg (by simp [hj]), if_pos hr']
      exact (dc_impl_CrashJournal_bad2 j n hz hj hr').frz.eqR (by simp [CR, crN, crS, hc, unown, unownL, unownLL, B1_unL, go_sem, -List.map_take])
  · have hc : crC j n = jouF j := by rw [crC, if_pos hj]
    exact (dc_impl_CrashJournal_bad1 j n hz hj).frz.eqR (by simp [CR, crN, crS, hc, hj, unown, unownL, unownLL, B1_unL, go_sem, -List.map_take])

theorem dc_spec_AppendLine_fz (j : TJournal) (s : List UInt8) (hz : j.sz ≤ 1048576) (hs : s.length ≤ 1048576) : DC Try.prog 17 [.agg j.ro, .str s] (AR j s) [] := by
  by_cases hj : jouF j = 0
  · by_cases hl : lineF s = 0
    · by_cases hb : 2400 < j.sure.length + (cat [j.loose, pk s]).length
      · have hc : appC j s = 2 := by rw [appC, if_neg (by simp [hj]), if_neg (by simp [hl]), if_pos hb]
        by_cases h1 : j.sure = []
        · exact (dc_spec_AppendLine_bign j s hz hs hj hl h1 hb).frz.eqR (by simp [AR, appN, appJ, hc, unown, unownL, unownLL, B1_unL, go_sem, -List.map_take])
        · exact (dc_spec_AppendLine_bigo j s hz hs hj hl h1 hb).frz.eqR (by simp [AR, appN, appJ, hc, unown, unownL, unownLL, B1_unL, go_sem, -List.map_take])
      · have hc : appC j s = 0 := by rw [appC, if_neg (by simp [hj]), if_neg (by simp [hl]), if_neg hb]
        by_cases h1 : j.sure = []
        · exact (dc_spec_AppendLine_okn j s hz hs hj hl h1 (by omega)).frz.eqR (by simp [AR, appN, appJ, hc, h1, unown, unownL, unownLL, B1_unL, go_sem, -List.map_take])
        · exact (dc_spec_AppendLine_oko j s hz hs hj hl h1 (by omega)).frz.eqR (by simp [AR, appN, appJ, hc, unown, unownL, unownLL, B1_unL, go_sem, -List.map_take])
    · have hc : appC j s = lineF s := by rw [appC, if_neg (by simp [hj]), if_pos hl]
      exact (dc_spec_AppendLine_bad2 j s hz hs hj hl).frz.eqR (by simp [AR, appN, appJ, hc, hl, unown, unownL, unownLL, B1_unL, go_sem, -List.map_take])
  · have hc : appC j s = jouF j := by rw [appC, if_pos hj]
    exact (dc_spec_AppendLine_bad1 j s hz hs hj).frz.eqR (by simp [AR, appN, appJ, hc, hj, unown, unownL, unownLL, B1_unL, go_sem, -List.map_take])

theorem dc_spec_CrashJournal_fz (j : TJournal) (n : Int) (hz : j.sz ≤ 1048576) : DC Try.prog 22 [.agg j.ro, .int .i64 n] (CR j n) [] := by
  by_cases hj : jouF j = 0
  · by_cases hr : inR n 0 (j.loose.length : Int) = true
    · have h := inR_iff.1 hr
      obtain ⟨u, rfl⟩ : ∃ k : Nat, n = k := ⟨_, (Int.toNat_of_nonneg h.1).symm⟩
      have hc : crC j (u : Int) = 0 := by rw [crC, if_neg (by simp [hj]), if_neg (by simp [hr])]
      have hD : crD j (u : Int) = cat [j.sure, j.loose.take u] := by rw [crD, Int.toNat_natCast]
      by_cases hn : (rd (cat [j.sure, j.loose.take u])).2 = 0
      · exact (dc_spec_CrashJournal_z j u _ _ _ hz hj (by omega) rfl rfl rfl hn).frz.eqR (by simp [CR, crN, crS, hc, hD, hn, rd_no isL_nil, unown, unownL, unownLL, B1_unL, go_sem, -List.map_take])
      · exact (dc_spec_CrashJournal_p j u _ _ _ hz hj (by omega) rfl rfl rfl (by omega)).frz.eqR (by simp [CR, crN, crS, hc, hD, unown, unownL, unownLL, B1_unL, go_sem, -List.map_take])
    · have hr' : inR n 0 (j.loose.length : Int) = false := by simpa using hr
      have hc : crC j n = 3 := by rw [crC, if_neg (by simp [hj]), if_pos hr']
      exact (dc_spec_CrashJournal_bad2 j n hz hj hr').frz.eqR (by simp [CR, crN, crS, hc, unown, unownL, unownLL, B1_unL, go_sem, -List.map_take])
  · have hc : crC j n = jouF j := by rw [crC, if_pos hj]
    exact (dc_spec_CrashJournal_bad1 j n hz hj).frz.eqR (by simp [CR, crN, crS, hc, hj, unown, unownL, unownLL, B1_unL, go_sem, -List.map_take])

theorem dc_impl_SyncJournal_fz (j : TJournal) (hz : j.sz ≤ 1048576) : DC Try.prog 18 [.agg j.ro] (SR j) [] := by
  by_cases hj : jouF j = 0
  · rcases Nat.eq_zero_or_pos (cat [j.sure, j.loose]).length with h | h
    · have h0 := List.eq_nil_of_length_eq_zero h
      exact (dc_impl_SyncJournal_z j hz hj h0).frz.eqR (by simp [SR, synN, synJ, hj, h0, rd_no isL_nil, unown, unownL, unownLL, B1_unL, go_sem, -List.map_take])
    · exact (dc_impl_SyncJournal_p j hz hj h).frz.eqR (by simp [SR, synN, synJ, hj, unown, unownL, unownLL, B1_unL, go_sem, -List.map_take])
  · exact (dc_impl_SyncJournal_bad j hz hj).frz.eqR (by simp [SR, synN, synJ, hj, unown, unownL, unownLL, B1_unL, go_sem, -List.map_take])
theorem dc_spec_l13Journal_fz (c : List UInt8) (hcl : c.length ≤ 1048576) (a : Int) (ha : 0 ≤ a ∧ a ≤ 1000) : DC Try.prog 34 [.op [.isl 1 (c.map B1), .int .i64 a]] (JR (jD c a)) [(0, .op [.isl 1 (c.map B1), .int .i64 (jA c a)])] := (dc_spec_l13Journal c hcl a ha).frzM.eqR (by simp [JR, unown, unownL, unownLL, B1_unL, go_sem, -List.map_take])
theorem dc_impl_PackLine_fz (s : List UInt8) (hs : s.length ≤ 1048576) : DC Try.prog 8 [.str s] (PR s) [] := by
  by_cases hl : lineF s = 0
  · exact (dc_impl_PackLine_ok s hs hl).frz.eqR (by simp [PR, packB, hl, unown, unownL, unownLL, B1_unL, go_sem, -List.map_take])
  · exact (dc_impl_PackLine_bad s hs hl).frz.eqR (by simp [PR, packB, hl, unown, unownL, unownLL, B1_unL, go_sem, -List.map_take])

end Go.AM

/-! ### Wa -/
set_option linter.unusedVariables false
set_option linter.unusedSimpArgs false
namespace Go.AM
open Go.Proofs

set_option maxHeartbeats 600000 in
set_option linter.unusedSimpArgs false in
set_option maxRecDepth 100000 in
/-- spec.l1Pick -/
theorem dc_spec_l1Pick_o (c : List UInt8) (hcl : c.length ≤ 1048576) (a : Int) (ha : 0 ≤ a ∧ a ≤ 90000) (l : List Int) (hl : 0 < l.length ∧ l.length ≤ 1000) : DC Try.prog 47 [.op [.isl 1 (c.map B1), .int .i64 a], .osl 1 (l.map I1)] (.int .i64 (l.getD (nx c a l.length).toNat 0)) [(0, .op [.isl 1 (c.map B1), .int .i64 (a + 1)])] := by
  refine DC.intro tiOk Try.func47 rfl rfl rfl rfl rfl rfl rfl (by simp [noW, noWo]) [] ?_
  refine AW.reg tiOk (fun _ => []) [0, 1] ?_
  intro k hk; simp -dsimp [go_sem, -decide_eq_true_eq, -decide_eq_false_iff_not]
  repeat' (first | refine And.intro ?_ ?_ | refine hk _ ?_ | intro hg | omega | exact True.intro | omega | fail)
  all_goals clear hk k
  have hb := nx_bd c (n := (l.length : Int)) ha.1
  have hb1 := hb.2 (by omega)
  obtain ⟨x, hx⟩ := at_some (l := l) (i := (nx c a l.length).toNat) (by omega)
  refine AW.reg tiOk (fun i => if i = 4 then [0] else []) [0, 4] ?_
  intro k hk; simp -dsimp (maxSteps := 2000000) [go_sem, -decide_eq_true_eq, -decide_eq_false_iff_not, hx, hb.1, hb1]
  repeat' (first | refine And.intro ?_ ?_ | refine hk _ ?_ | intro hg | (refine CallK.intro (dc_spec_l1Next c hcl a (by omega) l.length (by omega)) ?_; simp -dsimp (maxSteps := 2000000) [go_sem, -decide_eq_true_eq, -decide_eq_false_iff_not, hx, hb.1, hb1]) | omega | exact True.intro | omega | fail)
  all_goals clear hk k
  refine AW.retF (ow := []) (muts := [(0, .op [.isl 1 (c.map B1), .int .i64 (a + 1)])]) ?_ (fun h => And.intro (.inr rfl) h)
  simp [go_sem, Try.results47, List.getD_eq_getElem?_getD, hx]; try (rw [List.getElem?_eq_getElem (by omega)] at hx; simpa using hx)

end Go.AM

/-! ### Wb -/
set_option linter.unusedVariables false
set_option linter.unusedSimpArgs false
namespace Go.AM
open Go.Proofs

set_option maxHeartbeats 600000 in
set_option linter.unusedSimpArgs false in
set_option maxRecDepth 100000 in
/-- spec.DrawCrashJournal -/
theorem dc_spec_DrawCrashJournal (c : List UInt8) (hcl : c.length ≤ 1048576)  : DC Try.prog 21 [.isl 1 (c.map B1)] (.tup [JR (jD c 0), .int .i64 (dcN c)]) [] := by
  obtain ⟨hj0, hj1⟩ := jA_bd c
  have hjl := dC_le c
  have hdl := dC_len c
  have hs1 : jA c 0 + 1 + 1 = jA c 0 + 2 := by omega
  have hs2 : jA c 0 + 2 + 1 = jA c 0 + 3 := by omega
  have hs3 : jA c 0 + 3 + 1 = jA c 0 + 4 := by omega
  have hwn : IntKind.wrap .i64 (((jD c 0).loose.length : Int) + 1) = ((jD c 0).loose.length : Int) + 1 := wrap64 (by omega) (by omega)
  have hl6 : (dcL c).length = 6 := rfl
  refine DC.intro tiOk Try.func21 rfl rfl rfl rfl rfl rfl rfl rfl [] ?_
  refine AW.reg tiOk (fun _ => []) [0, 2] ?_
  intro k hk; simp -dsimp [go_sem, -decide_eq_true_eq, -decide_eq_false_iff_not, hs1, hwn]
  repeat' (first | refine And.intro ?_ ?_ | refine hk _ ?_ | intro hg | omega | exact True.intro)
  all_goals clear hk k
  refine AW.reg tiOk (fun _ => []) [2, 4] ?_
  intro k hk; simp -dsimp (maxSteps := 2000000) [go_sem, -decide_eq_true_eq, -decide_eq_false_iff_not, hs1, hwn]
  repeat' (first | refine And.intro ?_ ?_ | refine hk _ ?_ | intro hg | (refine CallK.intro (dc_spec_l1Source c) ?_; simp -dsimp (maxSteps := 2000000) [go_sem, -decide_eq_true_eq, -decide_eq_false_iff_not, hs1, hwn]) | omega | exact True.intro)
  all_goals clear hk k
  refine AW.reg tiOk (fun _ => [0]) [2, 4, 5] ?_
  intro k hk; simp -dsimp (maxSteps := 2000000) [go_sem, -decide_eq_true_eq, -decide_eq_false_iff_not, hs1, hwn]
  repeat' (first | refine And.intro ?_ ?_ | refine hk _ ?_ | intro hg | (refine CallK.intro (dc_spec_l13Journal_fz c hcl 0 (by omega)) ?_; simp -dsimp (maxSteps := 2000000) [go_sem, -decide_eq_true_eq, -decide_eq_false_iff_not, hs1, hwn]) | omega | exact True.intro)
  all_goals clear hk k
  refine AW.reg tiOk (fun _ => []) [2, 4, 5, 6] ?_
  intro k hk; simp -dsimp [go_sem, -decide_eq_true_eq, -decide_eq_false_iff_not, hs1, hwn]
  repeat' (first | refine And.intro ?_ ?_ | refine hk _ ?_ | intro hg | omega | exact True.intro)
  all_goals clear hk k
  refine AW.reg tiOk (fun i => if i = 5 ∨ i = 9 then [0] else if i = 14 then [0, 1] else []) [2, 3] ?_
  intro k hk; simp -dsimp (maxSteps := 2000000) [go_sem, -decide_eq_true_eq, -decide_eq_false_iff_not, hs1, hwn]
  repeat' (first | refine And.intro ?_ ?_ | (refine Chk.keys ?_; simp only [go_sem, List.map_cons, List.map_nil, List.flatMap_cons, List.flatMap_nil, List.flatMap_append, List.append_nil, List.nil_append, List.cons_append]; decide +kernel) | refine hk _ ?_ | intro hg | (refine CallK.intro (dc_spec_l1Next c hcl (jA c 0) (by omega) (((jD c 0).loose.length : Int) + 1) (by omega)) ?_; simp -dsimp (maxSteps := 2000000) [go_sem, -decide_eq_true_eq, -decide_eq_false_iff_not, hs1, hwn]) | (refine CallK.intro (dc_spec_l1Next c hcl (jA c 0 + 1) (by omega) (((jD c 0).loose.length : Int) + 1) (by omega)) ?_; simp -dsimp (maxSteps := 2000000) [go_sem, -decide_eq_true_eq, -decide_eq_false_iff_not, hs1, hwn]) | (refine CallK.intro (dc_spec_l1Pick_o c hcl (jA c 0 + 2) (by omega) (dcL c) (by simp [dcL])) ?_; simp -dsimp (maxSteps := 2000000) [go_sem, -decide_eq_true_eq, -decide_eq_false_iff_not, hs1, hwn]) | omega | exact True.intro)
  all_goals clear hk k
  refine AW.retF (ow := []) (muts := []) ?_ (fun h => And.intro (.inr rfl) h)
  simp [go_sem, Try.results21, dcN, hl6]

end Go.AM

/-! ### N8 -/
set_option linter.unusedVariables false
set_option linter.unusedSimpArgs false
namespace Go.AM
open Go.Proofs

set_option maxHeartbeats 20000000 in
set_option linter.unusedSimpArgs false in
set_option maxRecDepth 100000 in
/-- laws.FnTorn -/
theorem dc_laws_FnTorn (c : List UInt8) (gc : c.length ≤ 9223372036854775807) : DC Try.prog 5 [.isl 1 (c.map B1)] (.bool true) [] := by
  refine DC.intro tiOk Try.func5 rfl rfl rfl rfl rfl rfl rfl rfl [] ?_
  refine AW.reg tiOk (fun _ => []) [0] ?_
  intro k hk; simp -dsimp [go_sem, -decide_eq_true_eq, -decide_eq_false_iff_not]
  repeat' (first | refine And.intro ?_ ?_ | refine hk _ ?_ | intro hg | omega | exact True.intro)
  all_goals clear hk k
  refine AW.seq ?_
  refine AW.reg tiOk (fun _ => []) [0, 12] ?_
  intro k hk; simp -dsimp (maxSteps := 2000000) [go_sem, -decide_eq_true_eq, -decide_eq_false_iff_not]
  repeat' (first | refine And.intro ?_ ?_ | refine hk _ ?_ | intro hg | (refine CallK.intro (dc_laws_lwBig c gc) ?_; simp -dsimp (maxSteps := 2000000) [go_sem, -decide_eq_true_eq, -decide_eq_false_iff_not]) | omega | exact True.intro)
  all_goals clear hk k
  refine AW.cond rfl ?_ ?_
  · intro hc; try simp at hc
    all_goals (
      refine AW.reg tiOk (fun _ => []) [2] ?_
      intro k hk; simp -dsimp [go_sem, -decide_eq_true_eq, -decide_eq_false_iff_not]
      repeat' (first | refine And.intro ?_ ?_ | refine hk _ ?_ | intro hg | omega | exact True.intro)
      all_goals clear hk k
      refine AW.retF (ow := []) (muts := []) ?_ (fun h => And.intro (.inr rfl) h)
      first | (simp [go_sem, Try.results5]; done) | (simp [go_sem, Try.results5]; exact congrArg _ (q9 hkl)))
  · intro hc; try simp at hc
    all_goals (
      refine AW.skipN (fun _ h => h) ?_
      have hcl : c.length ≤ 1048576 := by simpa using hc
      refine AW.reg tiOk (fun _ => []) [3, 4] ?_
      intro k hk; simp -dsimp (maxSteps := 2000000) [go_sem, -decide_eq_true_eq, -decide_eq_false_iff_not]
      repeat' (first | refine And.intro ?_ ?_ | refine hk _ ?_ | intro hg | (refine CallK.intro (dc_spec_DrawCrashJournal c hcl) ?_; simp -dsimp (maxSteps := 2000000) [go_sem, -decide_eq_true_eq, -decide_eq_false_iff_not]) | omega | exact True.intro)
      all_goals clear hk k
      have hjl := dC_le c
      have hz : (jD c 0).sz ≤ 1048576 := by unfold TJournal.sz; omega
      refine AW.reg tiOk (fun _ => []) [3, 4, 5] ?_
      intro k hk; simp -dsimp (maxSteps := 2000000) [go_sem, -decide_eq_true_eq, -decide_eq_false_iff_not]
      repeat' (first | refine And.intro ?_ ?_ | refine hk _ ?_ | intro hg | (refine CallK.intro (dc_impl_CrashJournal_fz (jD c 0) (dcN c) hz) ?_; simp -dsimp (maxSteps := 2000000) [go_sem, -decide_eq_true_eq, -decide_eq_false_iff_not]) | omega | exact True.intro)
      all_goals clear hk k
      refine AW.seq ?_
      refine AW.reg tiOk (fun _ => []) [3, 4, 5, 23] ?_
      intro k hk; simp -dsimp [go_sem, -decide_eq_true_eq, -decide_eq_false_iff_not]
      repeat' (first | refine And.intro ?_ ?_ | refine hk _ ?_ | intro hg | omega | exact True.intro)
      all_goals clear hk k
      refine AW.cond rfl ?_ ?_
      · intro hc; try simp at hc
        all_goals (
          refine AW.reg tiOk (fun _ => []) [2] ?_
          intro k hk; simp -dsimp (maxSteps := 2000000) [go_sem, -decide_eq_true_eq, -decide_eq_false_iff_not]
          repeat' (first | refine And.intro ?_ ?_ | (refine Chk.keys ?_; simp only [go_sem, List.map_cons, List.map_nil, List.flatMap_cons, List.flatMap_nil, List.flatMap_append, List.append_nil, List.nil_append, List.cons_append]; decide +kernel) | refine hk _ ?_ | intro hg | (refine CallK.intro (dc_spec_CrashJournal_fz (jD c 0) (dcN c) hz) ?_; simp -dsimp (maxSteps := 2000000) [go_sem, -decide_eq_true_eq, -decide_eq_false_iff_not]) | omega | exact True.intro)
          all_goals clear hk k
          refine AW.retF (ow := []) (muts := []) ?_ (fun h => And.intro (.inr rfl) h)
          first | (simp [go_sem, Try.results5]; done) | (simp [go_sem, Try.results5]; exact congrArg _ (q9 hkl)))
      · intro hc; try simp at hc
        all_goals (
          refine AW.skipN (fun _ h => h) ?_
          have hC : crC (jD c 0) (dcN c) = 0 := by simpa using hc
          obtain ⟨q1, q2, q3, q4, q5, q6, q7, q8, q9, q10, q11⟩ := crash_facts hC
          have hok := jou_ok q1
          have hdl : (cat [(jD c 0).sure, (jD c 0).loose]).length = (jD c 0).sure.length + (jD c 0).loose.length := by rw [cat_two, List.length_append]
          have mapB2 : (jD c 0).sure.map B1 ++ (jD c 0).loose.map B1 = (cat [(jD c 0).sure, (jD c 0).loose]).map B1 := by rw [cat_two, List.map_append]
          have htk : List.take ((jD c 0).sure.length + (jD c 0).loose.length) ((cat [(jD c 0).sure, (jD c 0).loose]).map B1) = (cat [(jD c 0).sure, (jD c 0).loose]).map B1 := by rw [← hdl]; exact take_len_map _ _
          have htq : List.take (rd (crS (jD c 0) (dcN c))).1.length ((rd (cat [(jD c 0).sure, (jD c 0).loose])).1.map S1) = (rd (crS (jD c 0) (dcN c))).1.map S1 := by rw [← List.map_take, ← q7]
          refine AW.reg tiOk (fun _ => []) [3, 4, 5, 6] ?_
          intro k hk; simp -dsimp (maxSteps := 2000000) [go_sem, -decide_eq_true_eq, -decide_eq_false_iff_not]
          repeat' (first | refine And.intro ?_ ?_ | refine hk _ ?_ | intro hg | (refine CallK.intro (dc_impl_ReadLines_ok (jD c 0).sure (by omega) (by omega)) ?_; simp -dsimp (maxSteps := 2000000) [go_sem, -decide_eq_true_eq, -decide_eq_false_iff_not]) | (refine CallK.intro (dc_impl_ReadLines_ok (cat [(jD c 0).sure, (jD c 0).loose]) (by omega) (by omega)) ?_; simp -dsimp (maxSteps := 2000000) [go_sem, -decide_eq_true_eq, -decide_eq_false_iff_not]) | (refine CallK.intro (dc_impl_ReadLines_ok (crS (jD c 0) (dcN c)) (by omega) (by omega)) ?_; simp -dsimp (maxSteps := 2000000) [go_sem, -decide_eq_true_eq, -decide_eq_false_iff_not]) | omega | exact True.intro)
          all_goals clear hk k
          refine AW.reg tiOk (fun _ => []) [3, 4, 5, 6, 7] ?_
          intro k hk; simp -dsimp (maxSteps := 2000000) [go_sem, -decide_eq_true_eq, -decide_eq_false_iff_not, mapB2, htk]
          repeat' (first | refine And.intro ?_ ?_ | (refine Chk.keys ?_; simp only [go_sem, List.map_cons, List.map_nil, List.flatMap_cons, List.flatMap_nil, List.flatMap_append, List.append_nil, List.nil_append, List.cons_append]; decide +kernel) | refine hk _ ?_ | intro hg | (refine CallK.intro (dc_impl_ReadLines_ok (jD c 0).sure (by omega) (by omega)) ?_; simp -dsimp (maxSteps := 2000000) [go_sem, -decide_eq_true_eq, -decide_eq_false_iff_not, mapB2, htk]) | (refine CallK.intro (dc_impl_ReadLines_ok (cat [(jD c 0).sure, (jD c 0).loose]) (by omega) (by omega)) ?_; simp -dsimp (maxSteps := 2000000) [go_sem, -decide_eq_true_eq, -decide_eq_false_iff_not, mapB2, htk]) | (refine CallK.intro (dc_impl_ReadLines_ok (crS (jD c 0) (dcN c)) (by omega) (by omega)) ?_; simp -dsimp (maxSteps := 2000000) [go_sem, -decide_eq_true_eq, -decide_eq_false_iff_not, mapB2, htk]) | omega | exact True.intro)
          all_goals clear hk k
          refine AW.reg tiOk (fun _ => []) [3, 4, 5, 6, 7, 8] ?_
          intro k hk; simp -dsimp (maxSteps := 2000000) [go_sem, -decide_eq_true_eq, -decide_eq_false_iff_not]
          repeat' (first | refine And.intro ?_ ?_ | refine hk _ ?_ | intro hg | (refine CallK.intro (dc_impl_ReadLines_ok (jD c 0).sure (by omega) (by omega)) ?_; simp -dsimp (maxSteps := 2000000) [go_sem, -decide_eq_true_eq, -decide_eq_false_iff_not]) | (refine CallK.intro (dc_impl_ReadLines_ok (cat [(jD c 0).sure, (jD c 0).loose]) (by omega) (by omega)) ?_; simp -dsimp (maxSteps := 2000000) [go_sem, -decide_eq_true_eq, -decide_eq_false_iff_not]) | (refine CallK.intro (dc_impl_ReadLines_ok (crS (jD c 0) (dcN c)) (by omega) (by omega)) ?_; simp -dsimp (maxSteps := 2000000) [go_sem, -decide_eq_true_eq, -decide_eq_false_iff_not]) | omega | exact True.intro)
          all_goals clear hk k
          refine AW.reg tiOk (fun _ => []) [3, 4, 5, 6, 7, 8, 9] ?_
          intro k hk; simp -dsimp [go_sem, -decide_eq_true_eq, -decide_eq_false_iff_not]
          repeat' (first | refine And.intro ?_ ?_ | refine hk _ ?_ | intro hg | omega | exact True.intro)
          all_goals clear hk k
          refine AW.reg tiOk (fun _ => []) [3, 4, 5, 6, 7, 8, 9, 10] ?_
          intro k hk; simp -dsimp (maxSteps := 2000000) [go_sem, -decide_eq_true_eq, -decide_eq_false_iff_not]
          repeat' (first | refine And.intro ?_ ?_ | refine hk _ ?_ | intro hg | (refine CallK.intro (dc_spec_CrashJournal_fz (jD c 0) (dcN c) hz) ?_; simp -dsimp (maxSteps := 2000000) [go_sem, -decide_eq_true_eq, -decide_eq_false_iff_not]) | omega | exact True.intro)
          all_goals clear hk k
          rcases (Decidable.em ((dcN c) < (jD c 0).loose.length)).imp (fun h => And.intro h True.intro) (fun h => And.intro h (eq_true (q9 h))) with ⟨hkl, hq⟩ | ⟨hkl, hq⟩
          all_goals (
            refine AW.reg tiOk (fun _ => []) [2] ?_
            intro k hk; simp -dsimp (maxSteps := 2000000) [go_sem, -decide_eq_true_eq, -decide_eq_false_iff_not, q1, q4, q5, q6, htq, q8, hkl, hq]
            repeat' (first | refine And.intro ?_ ?_ | (refine Chk.keys ?_; simp only [go_sem, List.map_cons, List.map_nil, List.flatMap_cons, List.flatMap_nil, List.flatMap_append, List.append_nil, List.nil_append, List.cons_append]; decide +kernel) | refine hk _ ?_ | (intro hg; try simp only [decide_eq_true_eq, decide_eq_false_iff_not] at hg) | (refine CallK.intro (dc_laws_lwTexts (rd (crS (jD c 0) (dcN c))).1 (rd (crS (jD c 0) (dcN c))).1 (by omega)) ?_; simp -dsimp (maxSteps := 2000000) [go_sem, -decide_eq_true_eq, -decide_eq_false_iff_not, q1, q4, q5, q6, htq, q8, hkl, hq]) | (refine CallK.intro (dc_impl_JournalFault ⟨(crS (jD c 0) (dcN c)), []⟩ (by simp [TJournal.sz]; omega)) ?_; simp -dsimp (maxSteps := 2000000) [go_sem, -decide_eq_true_eq, -decide_eq_false_iff_not, q1, q4, q5, q6, htq, q8, hkl, hq]) | omega | exact True.intro)
            all_goals clear hk k
            all_goals (
              refine AW.retF (ow := []) (muts := []) ?_ (fun h => And.intro (.inr rfl) h)
              first | (simp [go_sem, Try.results5]; done) | (simp [go_sem, Try.results5]; exact congrArg _ (q9 hkl))))))

end Go.AM

