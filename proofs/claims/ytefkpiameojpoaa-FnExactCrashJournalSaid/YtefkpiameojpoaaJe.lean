/- Walks. -/
import Derived.Test.YtefkpiameojpoaaJ9
import Derived.Test.YtefkpiameojpoaaAm25
set_option linter.unusedVariables false
set_option linter.unusedSimpArgs false
namespace Go.AM
open Go.Proofs

set_option maxHeartbeats 600000 in
set_option linter.unusedSimpArgs false in
set_option maxRecDepth 100000 in
/-- impl.CrashJournal -/
theorem dc_impl_CrashJournal_bad (j : TJournal) (n : Int) (hz : j.sz ≤ 1048576) (hl : (firstC [jouF j, if inR n 0 (j.loose.length : Int) = true then 0 else 3]) ≠ 0) : DC Try.prog 66 [.agg j.ro, .int .i64 n] (.agg [.int .i64 ((firstC [jouF j, if inR n 0 (j.loose.length : Int) = true then 0 else 3])), .int .i64 0, .isl 1 [], .isl 1 []]) [] := by
  have hfc : firstC [jouF j, if (!inR n 0 (j.loose.length : Int)) = true then 3 else 0] = (firstC [jouF j, if inR n 0 (j.loose.length : Int) = true then 0 else 3]) := by cases inR n 0 (j.loose.length : Int) <;> simp
  have hfd : firstC [jouF j, if inR n 0 (j.loose.length : Int) = false then 3 else 0] = (firstC [jouF j, if inR n 0 (j.loose.length : Int) = true then 0 else 3]) := by cases inR n 0 (j.loose.length : Int) <;> simp
  refine DC.intro tiOk Try.func66 rfl rfl rfl rfl rfl rfl rfl rfl [1000] ?_
  refine AW.reg tiOk (fun _ => []) [1, 2, 4] ?_
  intro k hk; simp -dsimp [go_sem, -decide_eq_true_eq, -decide_eq_false_iff_not, hfc, hfd]
  repeat' (first | refine And.intro ?_ ?_ | refine hk _ ?_ | intro hg | omega | exact True.intro)
  all_goals clear hk k
  refine AW.seq ?_
  refine AW.reg tiOk (fun _ => []) [1, 2, 4, 5] ?_
  intro k hk; simp -dsimp (maxSteps := 2000000) [go_sem, -decide_eq_true_eq, -decide_eq_false_iff_not, hfc, hfd]
  repeat' (first | refine And.intro ?_ ?_ | (refine Chk.keys ?_; simp only [go_sem, List.map_cons, List.map_nil, List.flatMap_cons, List.flatMap_nil, List.flatMap_append, List.append_nil, List.nil_append, List.cons_append]; decide +kernel) | refine hk _ ?_ | intro hg | (refine CallK.intro (dc_impl_JournalFault j hz) ?_; simp -dsimp (maxSteps := 2000000) [go_sem, -decide_eq_true_eq, -decide_eq_false_iff_not, hfc, hfd]) | (refine CallK.intro (dc_impl_inRange _ _ _) ?_; simp -dsimp (maxSteps := 2000000) [go_sem, -decide_eq_true_eq, -decide_eq_false_iff_not, hfc, hfd]) | (refine CallK.intro (dc_impl_codeIf _ _) ?_; simp -dsimp (maxSteps := 2000000) [go_sem, -decide_eq_true_eq, -decide_eq_false_iff_not, hfc, hfd]) | (refine CallK.intro (dc_impl_firstCode [_, _] (by simp)) ?_; simp -dsimp (maxSteps := 2000000) [go_sem, -decide_eq_true_eq, -decide_eq_false_iff_not, hfc, hfd]) | (refine CallK.intro (dc_impl_firstCode [_, _, _] (by simp)) ?_; simp -dsimp (maxSteps := 2000000) [go_sem, -decide_eq_true_eq, -decide_eq_false_iff_not, hfc, hfd]) | (refine CallK.intro (dc_impl_firstCode [_, _, _, _] (by simp)) ?_; simp -dsimp (maxSteps := 2000000) [go_sem, -decide_eq_true_eq, -decide_eq_false_iff_not, hfc, hfd]) | omega | exact True.intro)
  all_goals clear hk k
  refine AW.reg tiOk (fun _ => []) [1, 2, 4, 5, 21] ?_
  intro k hk; simp -dsimp [go_sem, -decide_eq_true_eq, -decide_eq_false_iff_not, hfc, hfd]
  repeat' (first | refine And.intro ?_ ?_ | refine hk _ ?_ | intro hg | omega | exact True.intro)
  all_goals clear hk k
  refine AW.cond rfl ?_ ?_
  · intro hc; try simp at hc
    all_goals try (exfalso; contradiction; done)
    all_goals (
      refine AW.reg tiOk (fun _ => []) [4] ?_
      intro k hk; simp -dsimp [go_sem, -decide_eq_true_eq, -decide_eq_false_iff_not, hfc, hfd]
      repeat' (first | refine And.intro ?_ ?_ | refine hk _ ?_ | intro hg | omega | exact True.intro)
      all_goals clear hk k
      refine AW.retF (ow := [1000]) (muts := []) ?_ (fun h => And.intro (.inr rfl) h)
      simp [go_sem, Try.results66])
  · intro hc; try simp at hc
    all_goals try (exfalso; contradiction; done)
    all_goals (
      refine AW.skipN (fun _ h => h) ?_
      refine AW.reg tiOk (fun _ => []) [4, 6] ?_
      intro k hk; simp -dsimp (maxSteps := 2000000) [go_sem, -decide_eq_true_eq, -decide_eq_false_iff_not, hfc, hfd]
      repeat' (first | refine And.intro ?_ ?_ | (refine Chk.keys ?_; simp only [go_sem, List.map_cons, List.map_nil, List.flatMap_cons, List.flatMap_nil, List.flatMap_append, List.append_nil, List.nil_append, List.cons_append]; decide +kernel) | refine hk _ ?_ | intro hg | (refine CallK.intro (dc_slices_Concat_byte_byte _) ?_; simp -dsimp (maxSteps := 2000000) [go_sem, -decide_eq_true_eq, -decide_eq_false_iff_not, hfc, hfd]) | omega | exact True.intro)
      all_goals clear hk k
      refine AW.reg tiOk (fun _ => []) [4, 6, 8] ?_
      intro k hk; simp -dsimp (maxSteps := 2000000) [go_sem, -decide_eq_true_eq, -decide_eq_false_iff_not, hfc, hfd]
      repeat' (first | refine And.intro ?_ ?_ | refine hk _ ?_ | intro hg | (refine CallK.intro (dc_impl_readLines _ (by omega) (by omega)) ?_; simp -dsimp (maxSteps := 2000000) [go_sem, -decide_eq_true_eq, -decide_eq_false_iff_not, hfc, hfd]) | omega | exact True.intro)
      all_goals clear hk k
      refine AW.reg tiOk (fun _ => []) [4] ?_
      intro k hk; simp -dsimp (maxSteps := 2000000) [go_sem, -decide_eq_true_eq, -decide_eq_false_iff_not, hfc, hfd]
      repeat' (first | refine And.intro ?_ ?_ | refine hk _ ?_ | intro hg | (refine CallK.intro (dc_slices_Clone_byte_byte _) ?_; simp -dsimp (maxSteps := 2000000) [go_sem, -decide_eq_true_eq, -decide_eq_false_iff_not, hfc, hfd]) | (refine CallK.intro (dc_impl_told _) ?_; simp -dsimp (maxSteps := 2000000) [go_sem, -decide_eq_true_eq, -decide_eq_false_iff_not, hfc, hfd]) | omega | exact True.intro)
      all_goals clear hk k
      refine AW.retF (ow := [1000]) (muts := []) ?_ (fun h => And.intro (.inr rfl) h)
      simp [go_sem, Try.results66])
theorem dc_impl_CrashJournal_bad1 (j : TJournal) (n : Int) (hz : j.sz ≤ 1048576) (hj : jouF j ≠ 0) : DC Try.prog 66 [.agg j.ro, .int .i64 n] (.agg [.int .i64 (jouF j), .int .i64 0, .isl 1 [], .isl 1 []]) [] := by
  have e : (firstC [jouF j, if inR n 0 (j.loose.length : Int) = true then 0 else 3]) = jouF j := fc1 hj
  have h := dc_impl_CrashJournal_bad j n hz (by rw [e]; exact hj)
  rwa [e] at h
theorem dc_impl_CrashJournal_bad2 (j : TJournal) (n : Int) (hz : j.sz ≤ 1048576) (hj : jouF j = 0) (hr : inR n 0 (j.loose.length : Int) = false) : DC Try.prog 66 [.agg j.ro, .int .i64 n] (.agg [.int .i64 (3), .int .i64 0, .isl 1 [], .isl 1 []]) [] := by
  have e : (firstC [jouF j, if inR n 0 (j.loose.length : Int) = true then 0 else 3]) = 3 := by rw [fc2 hj, hr]; rfl
  have h := dc_impl_CrashJournal_bad j n hz (by rw [e]; decide)
  rwa [e] at h

set_option maxHeartbeats 600000 in
set_option linter.unusedSimpArgs false in
set_option maxRecDepth 100000 in
/-- impl.CrashJournal -/
theorem dc_impl_CrashJournal_p (j : TJournal) (u : Nat) (L D X : List UInt8) (hz : j.sz ≤ 1048576) (hj : jouF j = 0) (hu : u ≤ j.loose.length) (hL : j.loose.take u = L) (hD : cat [j.sure, L] = D) (hX : D.take (rd D).2 = X) (hn : 0 < (rd D).2) : DC Try.prog 66 [.agg j.ro, .int .i64 (u : Nat)] (.agg [.int .i64 0, .int .i64 ((rd X).1.length : Nat), .osl 1 (X.map B1), .isl 1 []]) [] := by
  have hz2 := hz
  unfold TJournal.sz at hz2
  have hLl : L.length = u := by rw [← hL, List.length_take]; omega
  have hDl : D.length = j.sure.length + u := by rw [← hD, cat_two, List.length_append, hLl]
  have hlk : List.take u (j.loose.map B1) = L.map B1 := by rw [← List.map_take, hL]
  have hin : inR (u : Int) 0 (j.loose.length : Int) = true := inR_iff.2 (by omega)
  have hrl := rd_le D
  have htm : List.take (rd D).2 (D.map B1) = X.map B1 := by rw [← List.map_take, hX]
  have hXl : X.length = (rd D).2 := by rw [← hX, List.length_take]; omega
  have hfz : firstC [jouF j, 0] = 0 := by rw [hj]; rfl
  have hcp := dc_slices_Concat_byte_byte_p [j.sure, L] (by simp) (by rw [hD]; omega) (by rw [hD]; omega)
  rw [hD] at hcp
  refine DC.intro tiOk Try.func66 rfl rfl rfl rfl rfl rfl rfl rfl [1000] ?_
  refine AW.reg tiOk (fun _ => []) [1, 2, 4] ?_
  intro k hk; simp -dsimp [go_sem, -decide_eq_true_eq, -decide_eq_false_iff_not, hj, hin, hfz, hlk, hD]
  repeat' (first | refine And.intro ?_ ?_ | refine hk _ ?_ | intro hg | omega | exact True.intro)
  all_goals clear hk k
  refine AW.seq ?_
  refine AW.reg tiOk (fun _ => []) [1, 2, 4, 5] ?_
  intro k hk; simp -dsimp (maxSteps := 2000000) [go_sem, -decide_eq_true_eq, -decide_eq_false_iff_not, hj, hin, hfz, hlk, hD]
  repeat' (first | refine And.intro ?_ ?_ | (refine Chk.keys ?_; simp only [go_sem, List.map_cons, List.map_nil, List.flatMap_cons, List.flatMap_nil, List.flatMap_append, List.append_nil, List.nil_append, List.cons_append]; decide +kernel) | refine hk _ ?_ | intro hg | (refine CallK.intro (dc_impl_JournalFault j hz) ?_; simp -dsimp (maxSteps := 2000000) [go_sem, -decide_eq_true_eq, -decide_eq_false_iff_not, hj, hin, hfz, hlk, hD]) | (refine CallK.intro (dc_impl_inRange _ _ _) ?_; simp -dsimp (maxSteps := 2000000) [go_sem, -decide_eq_true_eq, -decide_eq_false_iff_not, hj, hin, hfz, hlk, hD]) | (refine CallK.intro (dc_impl_codeIf _ _) ?_; simp -dsimp (maxSteps := 2000000) [go_sem, -decide_eq_true_eq, -decide_eq_false_iff_not, hj, hin, hfz, hlk, hD]) | (refine CallK.intro (dc_impl_firstCode [_, _] (by simp)) ?_; simp -dsimp (maxSteps := 2000000) [go_sem, -decide_eq_true_eq, -decide_eq_false_iff_not, hj, hin, hfz, hlk, hD]) | (refine CallK.intro (dc_impl_firstCode [_, _, _] (by simp)) ?_; simp -dsimp (maxSteps := 2000000) [go_sem, -decide_eq_true_eq, -decide_eq_false_iff_not, hj, hin, hfz, hlk, hD]) | (refine CallK.intro (dc_impl_firstCode [_, _, _, _] (by simp)) ?_; simp -dsimp (maxSteps := 2000000) [go_sem, -decide_eq_true_eq, -decide_eq_false_iff_not, hj, hin, hfz, hlk, hD]) | omega | exact True.intro)
  all_goals clear hk k
  refine AW.reg tiOk (fun _ => []) [1, 2, 4, 5, 21] ?_
  intro k hk; simp -dsimp [go_sem, -decide_eq_true_eq, -decide_eq_false_iff_not, hj, hin, hfz, hlk, hD]
  repeat' (first | refine And.intro ?_ ?_ | refine hk _ ?_ | intro hg | omega | exact True.intro)
  all_goals clear hk k
  refine AW.cond rfl ?_ ?_
  · intro hc; try simp at hc
    all_goals try (exfalso; contradiction; done)
    all_goals (
      refine AW.reg tiOk (fun _ => []) [4] ?_
      intro k hk; simp -dsimp [go_sem, -decide_eq_true_eq, -decide_eq_false_iff_not, hj, hin, hfz, hlk, hD]
      repeat' (first | refine And.intro ?_ ?_ | refine hk _ ?_ | intro hg | omega | exact True.intro)
      all_goals clear hk k
      refine AW.retF (ow := [1000]) (muts := []) ?_ (fun h => And.intro (.inr rfl) h)
      simp [go_sem, Try.results66])
  · intro hc; try simp at hc
    all_goals try (exfalso; contradiction; done)
    all_goals (
      refine AW.skipN (fun _ h => h) ?_
      refine AW.reg tiOk (fun _ => []) [4, 6] ?_
      intro k hk; simp -dsimp (maxSteps := 2000000) [go_sem, -decide_eq_true_eq, -decide_eq_false_iff_not, hj, hin, hfz, hlk, hD]
      repeat' (first | refine And.intro ?_ ?_ | (refine Chk.keys ?_; simp only [go_sem, List.map_cons, List.map_nil, List.flatMap_cons, List.flatMap_nil, List.flatMap_append, List.append_nil, List.nil_append, List.cons_append]; decide +kernel) | refine hk _ ?_ | intro hg | (refine CallK.intro (hcp) ?_; simp -dsimp (maxSteps := 2000000) [go_sem, -decide_eq_true_eq, -decide_eq_false_iff_not, hj, hin, hfz, hlk, hD]) | omega | exact True.intro)
      all_goals clear hk k
      refine AW.freeze (es := ?es_1) (i := ?i_1) (len := ?len_1) (nd := ?nd_1) (l' := ?l'_1) 6 1031 ?h1_1 ?h2_1 ?h3_1 ?h4_1 ?h5_1 ?h6_1 ?kk_1
      (case h1_1 => exact rfl)
      (case h2_1 => exact rfl)
      (case h3_1 => exact rfl)
      (case h4_1 => simp [go_sem])
      (case h5_1 => simp [go_sem])
      (case h6_1 => simp [go_sem]; exact rfl)
      refine AW.reg tiOk (fun _ => []) [4, 6, 8] ?_
      intro k hk; simp -dsimp (maxSteps := 2000000) [go_sem, -decide_eq_true_eq, -decide_eq_false_iff_not, hj, hin, hfz, hlk, hD]
      repeat' (first | refine And.intro ?_ ?_ | refine hk _ ?_ | intro hg | (refine CallK.intro (dc_impl_readLines D (by omega) (by omega)) ?_; simp -dsimp (maxSteps := 2000000) [go_sem, -decide_eq_true_eq, -decide_eq_false_iff_not, hj, hin, hfz, hlk, hD]) | omega | exact True.intro)
      all_goals clear hk k
      have hwr : IntKind.wrap .i64 ((D.length : Int) - ((D.length - (rd D).2 : Nat) : Int)) = (((rd D).2 : Nat) : Int) := by rw [wrap64 (by omega) (by omega)]; omega
      refine AW.reg tiOk (fun i => if i = 9 then [0] else []) [4] ?_
      intro k hk; simp -dsimp (maxSteps := 2000000) [go_sem, -decide_eq_true_eq, -decide_eq_false_iff_not, hj, hin, hfz, hlk, hD, hwr, htm]
      repeat' (first | refine And.intro ?_ ?_ | refine hk _ ?_ | intro hg | (refine CallK.intro (dc_Clone_ne X (by intro h; rw [h] at hXl; simp at hXl; omega) (by omega)) ?_; simp -dsimp (maxSteps := 2000000) [go_sem, -decide_eq_true_eq, -decide_eq_false_iff_not, hj, hin, hfz, hlk, hD, hwr, htm]) | (refine CallK.intro (dc_impl_told_on X (by omega)) ?_; simp -dsimp (maxSteps := 2000000) [go_sem, -decide_eq_true_eq, -decide_eq_false_iff_not, hj, hin, hfz, hlk, hD, hwr, htm]) | omega | exact True.intro)
      all_goals clear hk k
      refine AW.retF (ow := [1000]) (muts := []) ?_ (fun h => And.intro (.inr rfl) h)
      simp [go_sem, Try.results66])

set_option maxHeartbeats 600000 in
set_option linter.unusedSimpArgs false in
set_option maxRecDepth 100000 in
/-- impl.CrashJournal -/
theorem dc_impl_CrashJournal_z1 (j : TJournal) (u : Nat) (L D X : List UInt8) (hz : j.sz ≤ 1048576) (hj : jouF j = 0) (hu : u ≤ j.loose.length) (hL : j.loose.take u = L) (hD : cat [j.sure, L] = D) (hX : D.take (rd D).2 = X) (hn : (rd D).2 = 0) (h0 : 0 < D.length) : DC Try.prog 66 [.agg j.ro, .int .i64 (u : Nat)] (.agg [.int .i64 0, .int .i64 0, .isl 1 [], .isl 1 []]) [] := by
  have hz2 := hz
  unfold TJournal.sz at hz2
  have hLl : L.length = u := by rw [← hL, List.length_take]; omega
  have hDl : D.length = j.sure.length + u := by rw [← hD, cat_two, List.length_append, hLl]
  have hlk : List.take u (j.loose.map B1) = L.map B1 := by rw [← List.map_take, hL]
  have hin : inR (u : Int) 0 (j.loose.length : Int) = true := inR_iff.2 (by omega)
  have hrl := rd_le D
  have htm : List.take (rd D).2 (D.map B1) = X.map B1 := by rw [← List.map_take, hX]
  have hXl : X.length = (rd D).2 := by rw [← hX, List.length_take]; omega
  have hfz : firstC [jouF j, 0] = 0 := by rw [hj]; rfl
  have hcp := dc_slices_Concat_byte_byte_p [j.sure, L] (by simp) (by rw [hD]; omega) (by rw [hD]; omega)
  rw [hD] at hcp
  have hw0 : IntKind.wrap .i64 0 = 0 := wrap64 (by omega) (by omega)
  refine DC.intro tiOk Try.func66 rfl rfl rfl rfl rfl rfl rfl rfl [1000] ?_
  refine AW.reg tiOk (fun _ => []) [1, 2, 4] ?_
  intro k hk; simp -dsimp [go_sem, -decide_eq_true_eq, -decide_eq_false_iff_not, hj, hin, hfz, hlk, hD, hn, hw0]
  repeat' (first | refine And.intro ?_ ?_ | refine hk _ ?_ | intro hg | omega | exact True.intro)
  all_goals clear hk k
  refine AW.seq ?_
  refine AW.reg tiOk (fun _ => []) [1, 2, 4, 5] ?_
  intro k hk; simp -dsimp (maxSteps := 2000000) [go_sem, -decide_eq_true_eq, -decide_eq_false_iff_not, hj, hin, hfz, hlk, hD, hn, hw0]
  repeat' (first | refine And.intro ?_ ?_ | (refine Chk.keys ?_; simp only [go_sem, List.map_cons, List.map_nil, List.flatMap_cons, List.flatMap_nil, List.flatMap_append, List.append_nil, List.nil_append, List.cons_append]; decide +kernel) | refine hk _ ?_ | intro hg | (refine CallK.intro (dc_impl_JournalFault j hz) ?_; simp -dsimp (maxSteps := 2000000) [go_sem, -decide_eq_true_eq, -decide_eq_false_iff_not, hj, hin, hfz, hlk, hD, hn, hw0]) | (refine CallK.intro (dc_impl_inRange _ _ _) ?_; simp -dsimp (maxSteps := 2000000) [go_sem, -decide_eq_true_eq, -decide_eq_false_iff_not, hj, hin, hfz, hlk, hD, hn, hw0]) | (refine CallK.intro (dc_impl_codeIf _ _) ?_; simp -dsimp (maxSteps := 2000000) [go_sem, -decide_eq_true_eq, -decide_eq_false_iff_not, hj, hin, hfz, hlk, hD, hn, hw0]) | (refine CallK.intro (dc_impl_firstCode [_, _] (by simp)) ?_; simp -dsimp (maxSteps := 2000000) [go_sem, -decide_eq_true_eq, -decide_eq_false_iff_not, hj, hin, hfz, hlk, hD, hn, hw0]) | (refine CallK.intro (dc_impl_firstCode [_, _, _] (by simp)) ?_; simp -dsimp (maxSteps := 2000000) [go_sem, -decide_eq_true_eq, -decide_eq_false_iff_not, hj, hin, hfz, hlk, hD, hn, hw0]) | (refine CallK.intro (dc_impl_firstCode [_, _, _, _] (by simp)) ?_; simp -dsimp (maxSteps := 2000000) [go_sem, -decide_eq_true_eq, -decide_eq_false_iff_not, hj, hin, hfz, hlk, hD, hn, hw0]) | omega | exact True.intro)
  all_goals clear hk k
  refine AW.reg tiOk (fun _ => []) [1, 2, 4, 5, 21] ?_
  intro k hk; simp -dsimp [go_sem, -decide_eq_true_eq, -decide_eq_false_iff_not, hj, hin, hfz, hlk, hD, hn, hw0]
  repeat' (first | refine And.intro ?_ ?_ | refine hk _ ?_ | intro hg | omega | exact True.intro)
  all_goals clear hk k
  refine AW.cond rfl ?_ ?_
  · intro hc; try simp at hc
    all_goals try (exfalso; contradiction; done)
    all_goals (
      refine AW.reg tiOk (fun _ => []) [4] ?_
      intro k hk; simp -dsimp [go_sem, -decide_eq_true_eq, -decide_eq_false_iff_not, hj, hin, hfz, hlk, hD, hn, hw0]
      repeat' (first | refine And.intro ?_ ?_ | refine hk _ ?_ | intro hg | omega | exact True.intro)
      all_goals clear hk k
      refine AW.retF (ow := [1000]) (muts := []) ?_ (fun h => And.intro (.inr rfl) h)
      simp [go_sem, Try.results66])
  · intro hc; try simp at hc
    all_goals try (exfalso; contradiction; done)
    all_goals (
      refine AW.skipN (fun _ h => h) ?_
      refine AW.reg tiOk (fun _ => []) [4, 6] ?_
      intro k hk; simp -dsimp (maxSteps := 2000000) [go_sem, -decide_eq_true_eq, -decide_eq_false_iff_not, hj, hin, hfz, hlk, hD, hn, hw0]
      repeat' (first | refine And.intro ?_ ?_ | (refine Chk.keys ?_; simp only [go_sem, List.map_cons, List.map_nil, List.flatMap_cons, List.flatMap_nil, List.flatMap_append, List.append_nil, List.nil_append, List.cons_append]; decide +kernel) | refine hk _ ?_ | intro hg | (refine CallK.intro (hcp) ?_; simp -dsimp (maxSteps := 2000000) [go_sem, -decide_eq_true_eq, -decide_eq_false_iff_not, hj, hin, hfz, hlk, hD, hn, hw0]) | omega | exact True.intro)
      all_goals clear hk k
      refine AW.freeze (es := ?es_1) (i := ?i_1) (len := ?len_1) (nd := ?nd_1) (l' := ?l'_1) 6 1031 ?h1_1 ?h2_1 ?h3_1 ?h4_1 ?h5_1 ?h6_1 ?kk_1
      (case h1_1 => exact rfl)
      (case h2_1 => exact rfl)
      (case h3_1 => exact rfl)
      (case h4_1 => simp [go_sem])
      (case h5_1 => simp [go_sem])
      (case h6_1 => simp [go_sem]; exact rfl)
      refine AW.reg tiOk (fun _ => []) [4, 6, 8] ?_
      intro k hk; simp -dsimp (maxSteps := 2000000) [go_sem, -decide_eq_true_eq, -decide_eq_false_iff_not, hj, hin, hfz, hlk, hD, hn, hw0]
      repeat' (first | refine And.intro ?_ ?_ | refine hk _ ?_ | intro hg | (refine CallK.intro (dc_impl_readLines D (by omega) (by omega)) ?_; simp -dsimp (maxSteps := 2000000) [go_sem, -decide_eq_true_eq, -decide_eq_false_iff_not, hj, hin, hfz, hlk, hD, hn, hw0]) | omega | exact True.intro)
      all_goals clear hk k
      refine AW.reg tiOk (fun i => if i = 9 then [0] else []) [4] ?_
      intro k hk; simp -dsimp (maxSteps := 2000000) [go_sem, -decide_eq_true_eq, -decide_eq_false_iff_not, hj, hin, hfz, hlk, hD, hn, hw0]
      repeat' (first | refine And.intro ?_ ?_ | refine hk _ ?_ | intro hg | (refine CallK.intro (dc_Clone_nil) ?_; simp -dsimp (maxSteps := 2000000) [go_sem, -decide_eq_true_eq, -decide_eq_false_iff_not, hj, hin, hfz, hlk, hD, hn, hw0]) | (refine CallK.intro (dc_impl_told_nn) ?_; simp -dsimp (maxSteps := 2000000) [go_sem, -decide_eq_true_eq, -decide_eq_false_iff_not, hj, hin, hfz, hlk, hD, hn, hw0]) | omega | exact True.intro)
      all_goals clear hk k
      refine AW.retF (ow := [1000]) (muts := []) ?_ (fun h => And.intro (.inr rfl) h)
      simp [go_sem, Try.results66])

set_option maxHeartbeats 600000 in
set_option linter.unusedSimpArgs false in
set_option maxRecDepth 100000 in
/-- impl.CrashJournal -/
theorem dc_impl_CrashJournal_z0 (j : TJournal) (u : Nat) (L D X : List UInt8) (hz : j.sz ≤ 1048576) (hj : jouF j = 0) (hu : u ≤ j.loose.length) (hL : j.loose.take u = L) (hD : cat [j.sure, L] = D) (hX : D.take (rd D).2 = X) (h0 : D = []) : DC Try.prog 66 [.agg j.ro, .int .i64 (u : Nat)] (.agg [.int .i64 0, .int .i64 0, .isl 1 [], .isl 1 []]) [] := by
  have hz2 := hz
  unfold TJournal.sz at hz2
  have hLl : L.length = u := by rw [← hL, List.length_take]; omega
  have hDl : D.length = j.sure.length + u := by rw [← hD, cat_two, List.length_append, hLl]
  have hlk : List.take u (j.loose.map B1) = L.map B1 := by rw [← List.map_take, hL]
  have hin : inR (u : Int) 0 (j.loose.length : Int) = true := inR_iff.2 (by omega)
  have hrl := rd_le D
  have htm : List.take (rd D).2 (D.map B1) = X.map B1 := by rw [← List.map_take, hX]
  have hXl : X.length = (rd D).2 := by rw [← hX, List.length_take]; omega
  have hfz : firstC [jouF j, 0] = 0 := by rw [hj]; rfl
  have hr0 : rd [] = ([], 0) := rd_no isL_nil
  have hw0 : IntKind.wrap .i64 0 = 0 := wrap64 (by omega) (by omega)
  refine DC.intro tiOk Try.func66 rfl rfl rfl rfl rfl rfl rfl rfl [1000] ?_
  refine AW.reg tiOk (fun _ => []) [1, 2, 4] ?_
  intro k hk; simp -dsimp [go_sem, -decide_eq_true_eq, -decide_eq_false_iff_not, hj, hin, hfz, hlk, hD, hr0, hw0]
  repeat' (first | refine And.intro ?_ ?_ | refine hk _ ?_ | intro hg | omega | exact True.intro)
  all_goals clear hk k
  refine AW.seq ?_
  refine AW.reg tiOk (fun _ => []) [1, 2, 4, 5] ?_
  intro k hk; simp -dsimp (maxSteps := 2000000) [go_sem, -decide_eq_true_eq, -decide_eq_false_iff_not, hj, hin, hfz, hlk, hD, hr0, hw0]
  repeat' (first | refine And.intro ?_ ?_ | (refine Chk.keys ?_; simp only [go_sem, List.map_cons, List.map_nil, List.flatMap_cons, List.flatMap_nil, List.flatMap_append, List.append_nil, List.nil_append, List.cons_append]; decide +kernel) | refine hk _ ?_ | intro hg | (refine CallK.intro (dc_impl_JournalFault j hz) ?_; simp -dsimp (maxSteps := 2000000) [go_sem, -decide_eq_true_eq, -decide_eq_false_iff_not, hj, hin, hfz, hlk, hD, hr0, hw0]) | (refine CallK.intro (dc_impl_inRange _ _ _) ?_; simp -dsimp (maxSteps := 2000000) [go_sem, -decide_eq_true_eq, -decide_eq_false_iff_not, hj, hin, hfz, hlk, hD, hr0, hw0]) | (refine CallK.intro (dc_impl_codeIf _ _) ?_; simp -dsimp (maxSteps := 2000000) [go_sem, -decide_eq_true_eq, -decide_eq_false_iff_not, hj, hin, hfz, hlk, hD, hr0, hw0]) | (refine CallK.intro (dc_impl_firstCode [_, _] (by simp)) ?_; simp -dsimp (maxSteps := 2000000) [go_sem, -decide_eq_true_eq, -decide_eq_false_iff_not, hj, hin, hfz, hlk, hD, hr0, hw0]) | (refine CallK.intro (dc_impl_firstCode [_, _, _] (by simp)) ?_; simp -dsimp (maxSteps := 2000000) [go_sem, -decide_eq_true_eq, -decide_eq_false_iff_not, hj, hin, hfz, hlk, hD, hr0, hw0]) | (refine CallK.intro (dc_impl_firstCode [_, _, _, _] (by simp)) ?_; simp -dsimp (maxSteps := 2000000) [go_sem, -decide_eq_true_eq, -decide_eq_false_iff_not, hj, hin, hfz, hlk, hD, hr0, hw0]) | omega | exact True.intro)
  all_goals clear hk k
  refine AW.reg tiOk (fun _ => []) [1, 2, 4, 5, 21] ?_
  intro k hk; simp -dsimp [go_sem, -decide_eq_true_eq, -decide_eq_false_iff_not, hj, hin, hfz, hlk, hD, hr0, hw0]
  repeat' (first | refine And.intro ?_ ?_ | refine hk _ ?_ | intro hg | omega | exact True.intro)
  all_goals clear hk k
  refine AW.cond rfl ?_ ?_
  · intro hc; try simp at hc
    all_goals try (exfalso; contradiction; done)
    all_goals (
      refine AW.reg tiOk (fun _ => []) [4] ?_
      intro k hk; simp -dsimp [go_sem, -decide_eq_true_eq, -decide_eq_false_iff_not, hj, hin, hfz, hlk, hD, hr0, hw0]
      repeat' (first | refine And.intro ?_ ?_ | refine hk _ ?_ | intro hg | omega | exact True.intro)
      all_goals clear hk k
      refine AW.retF (ow := [1000]) (muts := []) ?_ (fun h => And.intro (.inr rfl) h)
      simp [go_sem, Try.results66])
  · intro hc; try simp at hc
    all_goals try (exfalso; contradiction; done)
    all_goals (
      refine AW.skipN (fun _ h => h) ?_
      refine AW.reg tiOk (fun _ => []) [4, 6] ?_
      intro k hk; simp -dsimp (maxSteps := 2000000) [go_sem, -decide_eq_true_eq, -decide_eq_false_iff_not, hj, hin, hfz, hlk, hD, hr0, hw0]
      repeat' (first | refine And.intro ?_ ?_ | (refine Chk.keys ?_; simp only [go_sem, List.map_cons, List.map_nil, List.flatMap_cons, List.flatMap_nil, List.flatMap_append, List.append_nil, List.nil_append, List.cons_append]; decide +kernel) | refine hk _ ?_ | intro hg | (refine CallK.intro (dc_slices_Concat_byte_byte_z [j.sure, L] (by simp) (by rw [hD]; exact h0)) ?_; simp -dsimp (maxSteps := 2000000) [go_sem, -decide_eq_true_eq, -decide_eq_false_iff_not, hj, hin, hfz, hlk, hD, hr0, hw0]) | omega | exact True.intro)
      all_goals clear hk k
      refine AW.reg tiOk (fun _ => []) [4, 6, 8] ?_
      intro k hk; simp -dsimp (maxSteps := 2000000) [go_sem, -decide_eq_true_eq, -decide_eq_false_iff_not, hj, hin, hfz, hlk, hD, hr0, hw0]
      repeat' (first | refine And.intro ?_ ?_ | refine hk _ ?_ | intro hg | (refine CallK.intro (dc_impl_readLines [] (by simp) (by simp)) ?_; simp -dsimp (maxSteps := 2000000) [go_sem, -decide_eq_true_eq, -decide_eq_false_iff_not, hj, hin, hfz, hlk, hD, hr0, hw0]) | omega | exact True.intro)
      all_goals clear hk k
      refine AW.reg tiOk (fun i => if i = 9 then [0] else []) [4] ?_
      intro k hk; simp -dsimp (maxSteps := 2000000) [go_sem, -decide_eq_true_eq, -decide_eq_false_iff_not, hj, hin, hfz, hlk, hD, hr0, hw0]
      repeat' (first | refine And.intro ?_ ?_ | refine hk _ ?_ | intro hg | (refine CallK.intro (dc_Clone_nil) ?_; simp -dsimp (maxSteps := 2000000) [go_sem, -decide_eq_true_eq, -decide_eq_false_iff_not, hj, hin, hfz, hlk, hD, hr0, hw0]) | (refine CallK.intro (dc_impl_told_nn) ?_; simp -dsimp (maxSteps := 2000000) [go_sem, -decide_eq_true_eq, -decide_eq_false_iff_not, hj, hin, hfz, hlk, hD, hr0, hw0]) | omega | exact True.intro)
      all_goals clear hk k
      refine AW.retF (ow := [1000]) (muts := []) ?_ (fun h => And.intro (.inr rfl) h)
      simp [go_sem, Try.results66])
theorem dc_impl_CrashJournal_z (j : TJournal) (u : Nat) (L D X : List UInt8) (hz : j.sz ≤ 1048576) (hj : jouF j = 0) (hu : u ≤ j.loose.length) (hL : j.loose.take u = L) (hD : cat [j.sure, L] = D) (hX : D.take (rd D).2 = X) (hn : (rd D).2 = 0) : DC Try.prog 66 [.agg j.ro, .int .i64 (u : Nat)] (.agg [.int .i64 0, .int .i64 0, .isl 1 [], .isl 1 []]) [] := by
  rcases Nat.eq_zero_or_pos D.length with h | h
  · exact dc_impl_CrashJournal_z0 j u L D X hz hj hu hL hD hX (List.eq_nil_of_length_eq_zero h)
  · exact dc_impl_CrashJournal_z1 j u L D X hz hj hu hL hD hX hn h

end Go.AM
