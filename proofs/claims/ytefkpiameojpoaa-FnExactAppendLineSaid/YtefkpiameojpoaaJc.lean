/- Walks. -/
import Derived.Test.YtefkpiameojpoaaJ9
namespace Go.AM
open Go.Proofs

set_option maxHeartbeats 600000 in
set_option linter.unusedSimpArgs false in
set_option maxRecDepth 100000 in
/-- impl.AppendLine -/
theorem dc_impl_AppendLine_bad (j : TJournal) (s : List UInt8) (hz : j.sz ≤ 1048576) (hs : s.length ≤ 1048576) (hl : firstC [jouF j, lineF s] ≠ 0) : DC Try.prog 64 [.agg j.ro, .str s] (.agg [.int .i64 (firstC [jouF j, lineF s]), .int .i64 0, .isl 1 [], .isl 1 []]) [] := by
  refine DC.intro tiOk Try.func64 rfl rfl rfl rfl rfl rfl rfl rfl [1000] ?_
  refine AW.reg tiOk (fun _ => []) [1, 2, 4] ?_
  intro k hk; simp -dsimp (maxSteps := 2000000) [go_sem, -decide_eq_true_eq, -decide_eq_false_iff_not, hl]
  repeat' (first | refine And.intro ?_ ?_ | refine hk _ ?_ | (intro hg; try simp only [decide_eq_true_eq, decide_eq_false_iff_not] at hg) | omega | exact True.intro)
  all_goals clear hk k
  refine AW.seq ?_
  refine AW.reg tiOk (fun _ => []) [1, 2, 4, 5] ?_
  intro k hk; simp -dsimp (maxSteps := 2000000) [go_sem, -decide_eq_true_eq, -decide_eq_false_iff_not, hl]
  repeat' (first | refine And.intro ?_ ?_ | refine hk _ ?_ | (intro hg; try simp only [decide_eq_true_eq, decide_eq_false_iff_not] at hg) | (refine CallK.intro (dc_impl_JournalFault j hz) ?_; simp -dsimp (maxSteps := 2000000) [go_sem, -decide_eq_true_eq, -decide_eq_false_iff_not, hl]) | (refine CallK.intro (dc_impl_LineFault s (by omega)) ?_; simp -dsimp (maxSteps := 2000000) [go_sem, -decide_eq_true_eq, -decide_eq_false_iff_not, hl]) | (refine CallK.intro (dc_impl_firstCode [_, _] (by simp)) ?_; simp -dsimp (maxSteps := 2000000) [go_sem, -decide_eq_true_eq, -decide_eq_false_iff_not, hl]) | (refine CallK.intro (dc_impl_firstCode [_, _, _] (by simp)) ?_; simp -dsimp (maxSteps := 2000000) [go_sem, -decide_eq_true_eq, -decide_eq_false_iff_not, hl]) | (refine CallK.intro (dc_impl_firstCode [_, _, _, _] (by simp)) ?_; simp -dsimp (maxSteps := 2000000) [go_sem, -decide_eq_true_eq, -decide_eq_false_iff_not, hl]) | omega | exact True.intro)
  all_goals clear hk k
  refine AW.reg tiOk (fun _ => []) [1, 2, 4, 5, 14] ?_
  intro k hk; simp -dsimp (maxSteps := 2000000) [go_sem, -decide_eq_true_eq, -decide_eq_false_iff_not, hl]
  repeat' (first | refine And.intro ?_ ?_ | refine hk _ ?_ | (intro hg; try simp only [decide_eq_true_eq, decide_eq_false_iff_not] at hg) | omega | exact True.intro)
  all_goals clear hk k
  refine AW.cond rfl ?_ ?_
  · intro hc; try simp at hc
    all_goals try (exfalso; contradiction; done)
    all_goals (
      refine AW.reg tiOk (fun _ => []) [4] ?_
      intro k hk; simp -dsimp (maxSteps := 2000000) [go_sem, -decide_eq_true_eq, -decide_eq_false_iff_not, hl]
      repeat' (first | refine And.intro ?_ ?_ | refine hk _ ?_ | (intro hg; try simp only [decide_eq_true_eq, decide_eq_false_iff_not] at hg) | omega | exact True.intro)
      all_goals clear hk k
      refine AW.retF (ow := [1000]) (muts := []) ?_ (fun h => And.intro (.inr rfl) h)
      simp [go_sem, Try.results64])
  · intro hc; try simp at hc
    all_goals try (exfalso; contradiction; done)
    all_goals (
      refine AW.skipN (fun _ h => h) ?_
      refine AW.reg tiOk (fun _ => []) [4, 6] ?_
      intro k hk; simp -dsimp (maxSteps := 2000000) [go_sem, -decide_eq_true_eq, -decide_eq_false_iff_not, hl]
      repeat' (first | refine And.intro ?_ ?_ | (refine Chk.keys ?_; simp only [go_sem, List.map_cons, List.map_nil, List.flatMap_cons, List.flatMap_nil, List.flatMap_append, List.append_nil, List.nil_append, List.cons_append]; decide +kernel) | refine hk _ ?_ | (intro hg; try simp only [decide_eq_true_eq, decide_eq_false_iff_not] at hg) | (refine CallK.intro (dc_slices_Clone_byte_byte _) ?_; simp -dsimp (maxSteps := 2000000) [go_sem, -decide_eq_true_eq, -decide_eq_false_iff_not, hl]) | (refine CallK.intro (dc_impl_pack _ (by omega)) ?_; simp -dsimp (maxSteps := 2000000) [go_sem, -decide_eq_true_eq, -decide_eq_false_iff_not, hl]) | (refine CallK.intro (dc_slices_Concat_byte_byte _) ?_; simp -dsimp (maxSteps := 2000000) [go_sem, -decide_eq_true_eq, -decide_eq_false_iff_not, hl]) | omega | exact True.intro)
      all_goals clear hk k
      refine AW.seq ?_
      refine AW.reg tiOk (fun _ => []) [4, 6, 34] ?_
      intro k hk; simp -dsimp (maxSteps := 2000000) [go_sem, -decide_eq_true_eq, -decide_eq_false_iff_not, hl]
      repeat' (first | refine And.intro ?_ ?_ | refine hk _ ?_ | (intro hg; try simp only [decide_eq_true_eq, decide_eq_false_iff_not] at hg) | omega | exact True.intro)
      all_goals clear hk k
      refine AW.cond rfl ?_ ?_
      · intro hc; try simp at hc
        all_goals try (exfalso; contradiction; done)
        all_goals (
          refine AW.reg tiOk (fun _ => []) [4] ?_
          intro k hk; simp -dsimp (maxSteps := 2000000) [go_sem, -decide_eq_true_eq, -decide_eq_false_iff_not, hl]
          repeat' (first | refine And.intro ?_ ?_ | refine hk _ ?_ | (intro hg; try simp only [decide_eq_true_eq, decide_eq_false_iff_not] at hg) | omega | exact True.intro)
          all_goals clear hk k
          refine AW.retF (ow := [1000]) (muts := []) ?_ (fun h => And.intro (.inr rfl) h)
          simp [go_sem, Try.results64])
      · intro hc; try simp at hc
        all_goals try (exfalso; contradiction; done)
        all_goals (
          refine AW.skipN (fun _ h => h) ?_
          refine AW.reg tiOk (fun _ => []) [4] ?_
          intro k hk; simp -dsimp (maxSteps := 2000000) [go_sem, -decide_eq_true_eq, -decide_eq_false_iff_not, hl]
          repeat' (first | refine And.intro ?_ ?_ | refine hk _ ?_ | (intro hg; try simp only [decide_eq_true_eq, decide_eq_false_iff_not] at hg) | (refine CallK.intro (dc_impl_told _) ?_; simp -dsimp (maxSteps := 2000000) [go_sem, -decide_eq_true_eq, -decide_eq_false_iff_not, hl]) | omega | exact True.intro)
          all_goals clear hk k
          refine AW.retF (ow := [1000]) (muts := []) ?_ (fun h => And.intro (.inr rfl) h)
          simp [go_sem, Try.results64]))

set_option maxHeartbeats 600000 in
set_option linter.unusedSimpArgs false in
set_option maxRecDepth 100000 in
/-- impl.AppendLine -/
theorem dc_impl_AppendLine_bign (j : TJournal) (s : List UInt8) (hz : j.sz ≤ 1048576) (hs : s.length ≤ 1048576) (hl : firstC [jouF j, lineF s] = 0) (h1 : j.sure = []) (hb : 2400 < j.sure.length + (cat [j.loose, pk s]).length) : DC Try.prog 64 [.agg j.ro, .str s] (.agg [.int .i64 2, .int .i64 0, .isl 1 [], .isl 1 []]) [] := by
  have hz2 := hz
  unfold TJournal.sz at hz2
  have hpl := pk_len s
  have hcl : (cat [j.loose, pk s]).length = j.loose.length + (s.length + 3) := by rw [cat_two, List.length_append, hpl]
  have hwa : IntKind.wrap .i64 ((j.sure.length : Int) + ((cat [j.loose, pk s]).length : Int)) = (j.sure.length : Int) + ((cat [j.loose, pk s]).length : Int) := wrap64 (by omega) (by omega)
  have h0p : 0 < (cat [j.loose, pk s]).length := by omega
  have h1l : j.sure.length = 0 := by rw [h1]; rfl
  have hwn : IntKind.wrap .i64 ((cat [j.loose, pk s]).length : Int) = ((cat [j.loose, pk s]).length : Int) := wrap64 (by omega) (by omega)
  refine DC.intro tiOk Try.func64 rfl rfl rfl rfl rfl rfl rfl rfl [1000] ?_
  refine AW.reg tiOk (fun _ => []) [1, 2, 4] ?_
  intro k hk; simp -dsimp (maxSteps := 2000000) [go_sem, -decide_eq_true_eq, -decide_eq_false_iff_not, hl, hwa, hwn]
  repeat' (first | refine And.intro ?_ ?_ | refine hk _ ?_ | (intro hg; try simp only [decide_eq_true_eq, decide_eq_false_iff_not] at hg) | omega | exact True.intro)
  all_goals clear hk k
  refine AW.seq ?_
  refine AW.reg tiOk (fun _ => []) [1, 2, 4, 5] ?_
  intro k hk; simp -dsimp (maxSteps := 2000000) [go_sem, -decide_eq_true_eq, -decide_eq_false_iff_not, hl, hwa, hwn]
  repeat' (first | refine And.intro ?_ ?_ | refine hk _ ?_ | (intro hg; try simp only [decide_eq_true_eq, decide_eq_false_iff_not] at hg) | (refine CallK.intro (dc_impl_JournalFault j hz) ?_; simp -dsimp (maxSteps := 2000000) [go_sem, -decide_eq_true_eq, -decide_eq_false_iff_not, hl, hwa, hwn]) | (refine CallK.intro (dc_impl_LineFault s (by omega)) ?_; simp -dsimp (maxSteps := 2000000) [go_sem, -decide_eq_true_eq, -decide_eq_false_iff_not, hl, hwa, hwn]) | (refine CallK.intro (dc_impl_firstCode [_, _] (by simp)) ?_; simp -dsimp (maxSteps := 2000000) [go_sem, -decide_eq_true_eq, -decide_eq_false_iff_not, hl, hwa, hwn]) | (refine CallK.intro (dc_impl_firstCode [_, _, _] (by simp)) ?_; simp -dsimp (maxSteps := 2000000) [go_sem, -decide_eq_true_eq, -decide_eq_false_iff_not, hl, hwa, hwn]) | (refine CallK.intro (dc_impl_firstCode [_, _, _, _] (by simp)) ?_; simp -dsimp (maxSteps := 2000000) [go_sem, -decide_eq_true_eq, -decide_eq_false_iff_not, hl, hwa, hwn]) | omega | exact True.intro)
  all_goals clear hk k
  refine AW.reg tiOk (fun _ => []) [1, 2, 4, 5, 14] ?_
  intro k hk; simp -dsimp (maxSteps := 2000000) [go_sem, -decide_eq_true_eq, -decide_eq_false_iff_not, hl, hwa, hwn]
  repeat' (first | refine And.intro ?_ ?_ | refine hk _ ?_ | (intro hg; try simp only [decide_eq_true_eq, decide_eq_false_iff_not] at hg) | omega | exact True.intro)
  all_goals clear hk k
  refine AW.cond rfl ?_ ?_
  · intro hc; try simp at hc
    all_goals try (exfalso; first | contradiction | omega; done)
    all_goals (
      refine AW.reg tiOk (fun _ => []) [4] ?_
      intro k hk; simp -dsimp (maxSteps := 2000000) [go_sem, -decide_eq_true_eq, -decide_eq_false_iff_not, hl, hwa, hwn]
      repeat' (first | refine And.intro ?_ ?_ | refine hk _ ?_ | (intro hg; try simp only [decide_eq_true_eq, decide_eq_false_iff_not] at hg) | omega | exact True.intro)
      all_goals clear hk k
      refine AW.retF (ow := [1000]) (muts := []) ?_ (fun h => And.intro (.inr rfl) h)
      simp [go_sem, Try.results64, h1])
  · intro hc; try simp at hc
    all_goals try (exfalso; first | contradiction | omega; done)
    all_goals (
      refine AW.skipN (fun _ h => h) ?_
      refine AW.reg tiOk (fun _ => []) [4, 6] ?_
      intro k hk; simp -dsimp (maxSteps := 2000000) [go_sem, -decide_eq_true_eq, -decide_eq_false_iff_not, hl, hwa, hwn, h1]
      repeat' (first | refine And.intro ?_ ?_ | (refine Chk.keys ?_; simp only [go_sem, List.map_cons, List.map_nil, List.flatMap_cons, List.flatMap_nil, List.flatMap_append, List.append_nil, List.nil_append, List.cons_append]; decide +kernel) | refine hk _ ?_ | (intro hg; try simp only [decide_eq_true_eq, decide_eq_false_iff_not] at hg) | (refine CallK.intro (dc_Clone_nil) ?_; simp -dsimp (maxSteps := 2000000) [go_sem, -decide_eq_true_eq, -decide_eq_false_iff_not, hl, hwa, hwn, h1]) | (refine CallK.intro (dc_pack_I s hs) ?_; simp -dsimp (maxSteps := 2000000) [go_sem, -decide_eq_true_eq, -decide_eq_false_iff_not, hl, hwa, hwn, h1]) | (refine CallK.intro (dc_slices_Concat_byte_byte_p [j.loose, pk s] (by simp) h0p (by omega)) ?_; simp -dsimp (maxSteps := 2000000) [go_sem, -decide_eq_true_eq, -decide_eq_false_iff_not, hl, hwa, hwn, h1]) | omega | exact True.intro)
      all_goals clear hk k
      refine AW.seq ?_
      refine AW.reg tiOk (fun _ => []) [4, 6, 34] ?_
      intro k hk; simp -dsimp (maxSteps := 2000000) [go_sem, -decide_eq_true_eq, -decide_eq_false_iff_not, hl, hwa, hwn]
      repeat' (first | refine And.intro ?_ ?_ | refine hk _ ?_ | (intro hg; try simp only [decide_eq_true_eq, decide_eq_false_iff_not] at hg) | omega | exact True.intro)
      all_goals clear hk k
      refine AW.cond rfl ?_ ?_
      · intro hc; try simp at hc
        all_goals try (exfalso; first | contradiction | omega; done)
        all_goals (
          refine AW.reg tiOk (fun _ => []) [4] ?_
          intro k hk; simp -dsimp (maxSteps := 2000000) [go_sem, -decide_eq_true_eq, -decide_eq_false_iff_not, hl, hwa, hwn]
          repeat' (first | refine And.intro ?_ ?_ | refine hk _ ?_ | (intro hg; try simp only [decide_eq_true_eq, decide_eq_false_iff_not] at hg) | omega | exact True.intro)
          all_goals clear hk k
          refine AW.retF (ow := [1000]) (muts := []) ?_ (fun h => And.intro (.inr rfl) h)
          simp [go_sem, Try.results64, h1])
      · intro hc; try simp at hc
        all_goals try (exfalso; first | contradiction | omega; done)
        all_goals (
          refine AW.skipN (fun _ h => h) ?_
          refine AW.reg tiOk (fun i => if i = 1 then [0] else []) [4] ?_
          intro k hk; simp -dsimp (maxSteps := 2000000) [go_sem, -decide_eq_true_eq, -decide_eq_false_iff_not, hl, hwa, hwn]
          repeat' (first | refine And.intro ?_ ?_ | refine hk _ ?_ | (intro hg; try simp only [decide_eq_true_eq, decide_eq_false_iff_not] at hg) | (refine CallK.intro (dc_impl_told_no _ (by omega)) ?_; simp -dsimp (maxSteps := 2000000) [go_sem, -decide_eq_true_eq, -decide_eq_false_iff_not, hl, hwa, hwn]) | omega | exact True.intro)
          all_goals clear hk k
          refine AW.retF (ow := [1000]) (muts := []) ?_ (fun h => And.intro (.inr rfl) h)
          simp [go_sem, Try.results64, h1]))

set_option maxHeartbeats 600000 in
set_option linter.unusedSimpArgs false in
set_option maxRecDepth 100000 in
/-- impl.AppendLine -/
theorem dc_impl_AppendLine_bigo (j : TJournal) (s : List UInt8) (hz : j.sz ≤ 1048576) (hs : s.length ≤ 1048576) (hl : firstC [jouF j, lineF s] = 0) (h1 : j.sure ≠ []) (hb : 2400 < j.sure.length + (cat [j.loose, pk s]).length) : DC Try.prog 64 [.agg j.ro, .str s] (.agg [.int .i64 2, .int .i64 0, .isl 1 [], .isl 1 []]) [] := by
  have hz2 := hz
  unfold TJournal.sz at hz2
  have hpl := pk_len s
  have hcl : (cat [j.loose, pk s]).length = j.loose.length + (s.length + 3) := by rw [cat_two, List.length_append, hpl]
  have hwa : IntKind.wrap .i64 ((j.sure.length : Int) + ((cat [j.loose, pk s]).length : Int)) = (j.sure.length : Int) + ((cat [j.loose, pk s]).length : Int) := wrap64 (by omega) (by omega)
  have h0p : 0 < (cat [j.loose, pk s]).length := by omega
  refine DC.intro tiOk Try.func64 rfl rfl rfl rfl rfl rfl rfl rfl [1000] ?_
  refine AW.reg tiOk (fun _ => []) [1, 2, 4] ?_
  intro k hk; simp -dsimp (maxSteps := 2000000) [go_sem, -decide_eq_true_eq, -decide_eq_false_iff_not, hl, hwa]
  repeat' (first | refine And.intro ?_ ?_ | refine hk _ ?_ | (intro hg; try simp only [decide_eq_true_eq, decide_eq_false_iff_not] at hg) | omega | exact True.intro)
  all_goals clear hk k
  refine AW.seq ?_
  refine AW.reg tiOk (fun _ => []) [1, 2, 4, 5] ?_
  intro k hk; simp -dsimp (maxSteps := 2000000) [go_sem, -decide_eq_true_eq, -decide_eq_false_iff_not, hl, hwa]
  repeat' (first | refine And.intro ?_ ?_ | refine hk _ ?_ | (intro hg; try simp only [decide_eq_true_eq, decide_eq_false_iff_not] at hg) | (refine CallK.intro (dc_impl_JournalFault j hz) ?_; simp -dsimp (maxSteps := 2000000) [go_sem, -decide_eq_true_eq, -decide_eq_false_iff_not, hl, hwa]) | (refine CallK.intro (dc_impl_LineFault s (by omega)) ?_; simp -dsimp (maxSteps := 2000000) [go_sem, -decide_eq_true_eq, -decide_eq_false_iff_not, hl, hwa]) | (refine CallK.intro (dc_impl_firstCode [_, _] (by simp)) ?_; simp -dsimp (maxSteps := 2000000) [go_sem, -decide_eq_true_eq, -decide_eq_false_iff_not, hl, hwa]) | (refine CallK.intro (dc_impl_firstCode [_, _, _] (by simp)) ?_; simp -dsimp (maxSteps := 2000000) [go_sem, -decide_eq_true_eq, -decide_eq_false_iff_not, hl, hwa]) | (refine CallK.intro (dc_impl_firstCode [_, _, _, _] (by simp)) ?_; simp -dsimp (maxSteps := 2000000) [go_sem, -decide_eq_true_eq, -decide_eq_false_iff_not, hl, hwa]) | omega | exact True.intro)
  all_goals clear hk k
  refine AW.reg tiOk (fun _ => []) [1, 2, 4, 5, 14] ?_
  intro k hk; simp -dsimp (maxSteps := 2000000) [go_sem, -decide_eq_true_eq, -decide_eq_false_iff_not, hl, hwa]
  repeat' (first | refine And.intro ?_ ?_ | refine hk _ ?_ | (intro hg; try simp only [decide_eq_true_eq, decide_eq_false_iff_not] at hg) | omega | exact True.intro)
  all_goals clear hk k
  refine AW.cond rfl ?_ ?_
  · intro hc; try simp at hc
    all_goals try (exfalso; first | contradiction | omega; done)
    all_goals (
      refine AW.reg tiOk (fun _ => []) [4] ?_
      intro k hk; simp -dsimp (maxSteps := 2000000) [go_sem, -decide_eq_true_eq, -decide_eq_false_iff_not, hl, hwa]
      repeat' (first | refine And.intro ?_ ?_ | refine hk _ ?_ | (intro hg; try simp only [decide_eq_true_eq, decide_eq_false_iff_not] at hg) | omega | exact True.intro)
      all_goals clear hk k
      refine AW.retF (ow := [1000]) (muts := []) ?_ (fun h => And.intro (.inr rfl) h)
      simp [go_sem, Try.results64])
  · intro hc; try simp at hc
    all_goals try (exfalso; first | contradiction | omega; done)
    all_goals (
      refine AW.skipN (fun _ h => h) ?_
      refine AW.reg tiOk (fun _ => []) [4, 6] ?_
      intro k hk; simp -dsimp (maxSteps := 2000000) [go_sem, -decide_eq_true_eq, -decide_eq_false_iff_not, hl, hwa]
      repeat' (first | refine And.intro ?_ ?_ | (refine Chk.keys ?_; simp only [go_sem, List.map_cons, List.map_nil, List.flatMap_cons, List.flatMap_nil, List.flatMap_append, List.append_nil, List.nil_append, List.cons_append]; decide +kernel) | refine hk _ ?_ | (intro hg; try simp only [decide_eq_true_eq, decide_eq_false_iff_not] at hg) | (refine CallK.intro (dc_Clone_ne j.sure h1 (by omega)) ?_; simp -dsimp (maxSteps := 2000000) [go_sem, -decide_eq_true_eq, -decide_eq_false_iff_not, hl, hwa]) | (refine CallK.intro (dc_pack_I s hs) ?_; simp -dsimp (maxSteps := 2000000) [go_sem, -decide_eq_true_eq, -decide_eq_false_iff_not, hl, hwa]) | (refine CallK.intro (dc_slices_Concat_byte_byte_p [j.loose, pk s] (by simp) h0p (by omega)) ?_; simp -dsimp (maxSteps := 2000000) [go_sem, -decide_eq_true_eq, -decide_eq_false_iff_not, hl, hwa]) | omega | exact True.intro)
      all_goals clear hk k
      refine AW.seq ?_
      refine AW.reg tiOk (fun _ => []) [4, 6, 34] ?_
      intro k hk; simp -dsimp (maxSteps := 2000000) [go_sem, -decide_eq_true_eq, -decide_eq_false_iff_not, hl, hwa]
      repeat' (first | refine And.intro ?_ ?_ | refine hk _ ?_ | (intro hg; try simp only [decide_eq_true_eq, decide_eq_false_iff_not] at hg) | omega | exact True.intro)
      all_goals clear hk k
      refine AW.cond rfl ?_ ?_
      · intro hc; try simp at hc
        all_goals try (exfalso; first | contradiction | omega; done)
        all_goals (
          refine AW.reg tiOk (fun _ => []) [4] ?_
          intro k hk; simp -dsimp (maxSteps := 2000000) [go_sem, -decide_eq_true_eq, -decide_eq_false_iff_not, hl, hwa]
          repeat' (first | refine And.intro ?_ ?_ | refine hk _ ?_ | (intro hg; try simp only [decide_eq_true_eq, decide_eq_false_iff_not] at hg) | omega | exact True.intro)
          all_goals clear hk k
          refine AW.retF (ow := [1000]) (muts := []) ?_ (fun h => And.intro (.inr rfl) h)
          simp [go_sem, Try.results64])
      · intro hc; try simp at hc
        all_goals try (exfalso; first | contradiction | omega; done)
        all_goals (
          refine AW.skipN (fun _ h => h) ?_
          refine AW.reg tiOk (fun i => if i = 1 then [0] else []) [4] ?_
          intro k hk; simp -dsimp (maxSteps := 2000000) [go_sem, -decide_eq_true_eq, -decide_eq_false_iff_not, hl, hwa]
          repeat' (first | refine And.intro ?_ ?_ | refine hk _ ?_ | (intro hg; try simp only [decide_eq_true_eq, decide_eq_false_iff_not] at hg) | (refine CallK.intro (dc_impl_told_oo _ _ (by omega)) ?_; simp -dsimp (maxSteps := 2000000) [go_sem, -decide_eq_true_eq, -decide_eq_false_iff_not, hl, hwa]) | omega | exact True.intro)
          all_goals clear hk k
          refine AW.retF (ow := [1000]) (muts := []) ?_ (fun h => And.intro (.inr rfl) h)
          simp [go_sem, Try.results64]))

set_option maxHeartbeats 600000 in
set_option linter.unusedSimpArgs false in
set_option maxRecDepth 100000 in
/-- impl.AppendLine -/
theorem dc_impl_AppendLine_okn (j : TJournal) (s : List UInt8) (hz : j.sz ≤ 1048576) (hs : s.length ≤ 1048576) (hl : firstC [jouF j, lineF s] = 0) (h1 : j.sure = []) (hb : j.sure.length + (cat [j.loose, pk s]).length ≤ 2400) : DC Try.prog 64 [.agg j.ro, .str s] (.agg [.int .i64 0, .int .i64 ((rd (cat [j.sure, (cat [j.loose, pk s])])).1.length : Nat), .isl 1 [], .osl 1 ((cat [j.loose, pk s]).map B1)]) [] := by
  have hz2 := hz
  unfold TJournal.sz at hz2
  have hpl := pk_len s
  have hcl : (cat [j.loose, pk s]).length = j.loose.length + (s.length + 3) := by rw [cat_two, List.length_append, hpl]
  have hwa : IntKind.wrap .i64 ((j.sure.length : Int) + ((cat [j.loose, pk s]).length : Int)) = (j.sure.length : Int) + ((cat [j.loose, pk s]).length : Int) := wrap64 (by omega) (by omega)
  have h0p : 0 < (cat [j.loose, pk s]).length := by omega
  have h1l : j.sure.length = 0 := by rw [h1]; rfl
  have hwn : IntKind.wrap .i64 ((cat [j.loose, pk s]).length : Int) = ((cat [j.loose, pk s]).length : Int) := wrap64 (by omega) (by omega)
  refine DC.intro tiOk Try.func64 rfl rfl rfl rfl rfl rfl rfl rfl [1000] ?_
  refine AW.reg tiOk (fun _ => []) [1, 2, 4] ?_
  intro k hk; simp -dsimp (maxSteps := 2000000) [go_sem, -decide_eq_true_eq, -decide_eq_false_iff_not, hl, hwa, hwn]
  repeat' (first | refine And.intro ?_ ?_ | refine hk _ ?_ | (intro hg; try simp only [decide_eq_true_eq, decide_eq_false_iff_not] at hg) | omega | exact True.intro)
  all_goals clear hk k
  refine AW.seq ?_
  refine AW.reg tiOk (fun _ => []) [1, 2, 4, 5] ?_
  intro k hk; simp -dsimp (maxSteps := 2000000) [go_sem, -decide_eq_true_eq, -decide_eq_false_iff_not, hl, hwa, hwn]
  repeat' (first | refine And.intro ?_ ?_ | refine hk _ ?_ | (intro hg; try simp only [decide_eq_true_eq, decide_eq_false_iff_not] at hg) | (refine CallK.intro (dc_impl_JournalFault j hz) ?_; simp -dsimp (maxSteps := 2000000) [go_sem, -decide_eq_true_eq, -decide_eq_false_iff_not, hl, hwa, hwn]) | (refine CallK.intro (dc_impl_LineFault s (by omega)) ?_; simp -dsimp (maxSteps := 2000000) [go_sem, -decide_eq_true_eq, -decide_eq_false_iff_not, hl, hwa, hwn]) | (refine CallK.intro (dc_impl_firstCode [_, _] (by simp)) ?_; simp -dsimp (maxSteps := 2000000) [go_sem, -decide_eq_true_eq, -decide_eq_false_iff_not, hl, hwa, hwn]) | (refine CallK.intro (dc_impl_firstCode [_, _, _] (by simp)) ?_; simp -dsimp (maxSteps := 2000000) [go_sem, -decide_eq_true_eq, -decide_eq_false_iff_not, hl, hwa, hwn]) | (refine CallK.intro (dc_impl_firstCode [_, _, _, _] (by simp)) ?_; simp -dsimp (maxSteps := 2000000) [go_sem, -decide_eq_true_eq, -decide_eq_false_iff_not, hl, hwa, hwn]) | omega | exact True.intro)
  all_goals clear hk k
  refine AW.reg tiOk (fun _ => []) [1, 2, 4, 5, 14] ?_
  intro k hk; simp -dsimp (maxSteps := 2000000) [go_sem, -decide_eq_true_eq, -decide_eq_false_iff_not, hl, hwa, hwn]
  repeat' (first | refine And.intro ?_ ?_ | refine hk _ ?_ | (intro hg; try simp only [decide_eq_true_eq, decide_eq_false_iff_not] at hg) | omega | exact True.intro)
  all_goals clear hk k
  refine AW.cond rfl ?_ ?_
  · intro hc; try simp at hc
    all_goals try (exfalso; first | contradiction | omega; done)
    all_goals (
      refine AW.reg tiOk (fun _ => []) [4] ?_
      intro k hk; simp -dsimp (maxSteps := 2000000) [go_sem, -decide_eq_true_eq, -decide_eq_false_iff_not, hl, hwa, hwn]
      repeat' (first | refine And.intro ?_ ?_ | refine hk _ ?_ | (intro hg; try simp only [decide_eq_true_eq, decide_eq_false_iff_not] at hg) | omega | exact True.intro)
      all_goals clear hk k
      refine AW.retF (ow := [1000]) (muts := []) ?_ (fun h => And.intro (.inr rfl) h)
      simp [go_sem, Try.results64, h1])
  · intro hc; try simp at hc
    all_goals try (exfalso; first | contradiction | omega; done)
    all_goals (
      refine AW.skipN (fun _ h => h) ?_
      refine AW.reg tiOk (fun _ => []) [4, 6] ?_
      intro k hk; simp -dsimp (maxSteps := 2000000) [go_sem, -decide_eq_true_eq, -decide_eq_false_iff_not, hl, hwa, hwn, h1]
      repeat' (first | refine And.intro ?_ ?_ | (refine Chk.keys ?_; simp only [go_sem, List.map_cons, List.map_nil, List.flatMap_cons, List.flatMap_nil, List.flatMap_append, List.append_nil, List.nil_append, List.cons_append]; decide +kernel) | refine hk _ ?_ | (intro hg; try simp only [decide_eq_true_eq, decide_eq_false_iff_not] at hg) | (refine CallK.intro (dc_Clone_nil) ?_; simp -dsimp (maxSteps := 2000000) [go_sem, -decide_eq_true_eq, -decide_eq_false_iff_not, hl, hwa, hwn, h1]) | (refine CallK.intro (dc_pack_I s hs) ?_; simp -dsimp (maxSteps := 2000000) [go_sem, -decide_eq_true_eq, -decide_eq_false_iff_not, hl, hwa, hwn, h1]) | (refine CallK.intro (dc_slices_Concat_byte_byte_p [j.loose, pk s] (by simp) h0p (by omega)) ?_; simp -dsimp (maxSteps := 2000000) [go_sem, -decide_eq_true_eq, -decide_eq_false_iff_not, hl, hwa, hwn, h1]) | omega | exact True.intro)
      all_goals clear hk k
      refine AW.seq ?_
      refine AW.reg tiOk (fun _ => []) [4, 6, 34] ?_
      intro k hk; simp -dsimp (maxSteps := 2000000) [go_sem, -decide_eq_true_eq, -decide_eq_false_iff_not, hl, hwa, hwn]
      repeat' (first | refine And.intro ?_ ?_ | refine hk _ ?_ | (intro hg; try simp only [decide_eq_true_eq, decide_eq_false_iff_not] at hg) | omega | exact True.intro)
      all_goals clear hk k
      refine AW.cond rfl ?_ ?_
      · intro hc; try simp at hc
        all_goals try (exfalso; first | contradiction | omega; done)
        all_goals (
          refine AW.reg tiOk (fun _ => []) [4] ?_
          intro k hk; simp -dsimp (maxSteps := 2000000) [go_sem, -decide_eq_true_eq, -decide_eq_false_iff_not, hl, hwa, hwn]
          repeat' (first | refine And.intro ?_ ?_ | refine hk _ ?_ | (intro hg; try simp only [decide_eq_true_eq, decide_eq_false_iff_not] at hg) | omega | exact True.intro)
          all_goals clear hk k
          refine AW.retF (ow := [1000]) (muts := []) ?_ (fun h => And.intro (.inr rfl) h)
          simp [go_sem, Try.results64, h1])
      · intro hc; try simp at hc
        all_goals try (exfalso; first | contradiction | omega; done)
        all_goals (
          refine AW.skipN (fun _ h => h) ?_
          refine AW.reg tiOk (fun i => if i = 1 then [0] else []) [4] ?_
          intro k hk; simp -dsimp (maxSteps := 2000000) [go_sem, -decide_eq_true_eq, -decide_eq_false_iff_not, hl, hwa, hwn]
          repeat' (first | refine And.intro ?_ ?_ | refine hk _ ?_ | (intro hg; try simp only [decide_eq_true_eq, decide_eq_false_iff_not] at hg) | (refine CallK.intro (dc_impl_told_no _ (by omega)) ?_; simp -dsimp (maxSteps := 2000000) [go_sem, -decide_eq_true_eq, -decide_eq_false_iff_not, hl, hwa, hwn]) | omega | exact True.intro)
          all_goals clear hk k
          refine AW.retF (ow := [1000]) (muts := []) ?_ (fun h => And.intro (.inr rfl) h)
          simp [go_sem, Try.results64, h1]))

set_option maxHeartbeats 600000 in
set_option linter.unusedSimpArgs false in
set_option maxRecDepth 100000 in
/-- impl.AppendLine -/
theorem dc_impl_AppendLine_oko (j : TJournal) (s : List UInt8) (hz : j.sz ≤ 1048576) (hs : s.length ≤ 1048576) (hl : firstC [jouF j, lineF s] = 0) (h1 : j.sure ≠ []) (hb : j.sure.length + (cat [j.loose, pk s]).length ≤ 2400) : DC Try.prog 64 [.agg j.ro, .str s] (.agg [.int .i64 0, .int .i64 ((rd (cat [j.sure, (cat [j.loose, pk s])])).1.length : Nat), .osl 1 (j.sure.map B1), .osl 1 ((cat [j.loose, pk s]).map B1)]) [] := by
  have hz2 := hz
  unfold TJournal.sz at hz2
  have hpl := pk_len s
  have hcl : (cat [j.loose, pk s]).length = j.loose.length + (s.length + 3) := by rw [cat_two, List.length_append, hpl]
  have hwa : IntKind.wrap .i64 ((j.sure.length : Int) + ((cat [j.loose, pk s]).length : Int)) = (j.sure.length : Int) + ((cat [j.loose, pk s]).length : Int) := wrap64 (by omega) (by omega)
  have h0p : 0 < (cat [j.loose, pk s]).length := by omega
  refine DC.intro tiOk Try.func64 rfl rfl rfl rfl rfl rfl rfl rfl [1000] ?_
  refine AW.reg tiOk (fun _ => []) [1, 2, 4] ?_
  intro k hk; simp -dsimp (maxSteps := 2000000) [go_sem, -decide_eq_true_eq, -decide_eq_false_iff_not, hl, hwa]
  repeat' (first | refine And.intro ?_ ?_ | refine hk _ ?_ | (intro hg; try simp only [decide_eq_true_eq, decide_eq_false_iff_not] at hg) | omega | exact True.intro)
  all_goals clear hk k
  refine AW.seq ?_
  refine AW.reg tiOk (fun _ => []) [1, 2, 4, 5] ?_
  intro k hk; simp -dsimp (maxSteps := 2000000) [go_sem, -decide_eq_true_eq, -decide_eq_false_iff_not, hl, hwa]
  repeat' (first | refine And.intro ?_ ?_ | refine hk _ ?_ | (intro hg; try simp only [decide_eq_true_eq, decide_eq_false_iff_not] at hg) | (refine CallK.intro (dc_impl_JournalFault j hz) ?_; simp -dsimp (maxSteps := 2000000) [go_sem, -decide_eq_true_eq, -decide_eq_false_iff_not, hl, hwa]) | (refine CallK.intro (dc_impl_LineFault s (by omega)) ?_; simp -dsimp (maxSteps := 2000000) [go_sem, -decide_eq_true_eq, -decide_eq_false_iff_not, hl, hwa]) | (refine CallK.intro (dc_impl_firstCode [_, _] (by simp)) ?_; simp -dsimp (maxSteps := 2000000) [go_sem, -decide_eq_true_eq, -decide_eq_false_iff_not, hl, hwa]) | (refine CallK.intro (dc_impl_firstCode [_, _, _] (by simp)) ?_; simp -dsimp (maxSteps := 2000000) [go_sem, -decide_eq_true_eq, -decide_eq_false_iff_not, hl, hwa]) | (refine CallK.intro (dc_impl_firstCode [_, _, _, _] (by simp)) ?_; simp -dsimp (maxSteps := 2000000) [go_sem, -decide_eq_true_eq, -decide_eq_false_iff_not, hl, hwa]) | omega | exact True.intro)
  all_goals clear hk k
  refine AW.reg tiOk (fun _ => []) [1, 2, 4, 5, 14] ?_
  intro k hk; simp -dsimp (maxSteps := 2000000) [go_sem, -decide_eq_true_eq, -decide_eq_false_iff_not, hl, hwa]
  repeat' (first | refine And.intro ?_ ?_ | refine hk _ ?_ | (intro hg; try simp only [decide_eq_true_eq, decide_eq_false_iff_not] at hg) | omega | exact True.intro)
  all_goals clear hk k
  refine AW.cond rfl ?_ ?_
  · intro hc; try simp at hc
    all_goals try (exfalso; first | contradiction | omega; done)
    all_goals (
      refine AW.reg tiOk (fun _ => []) [4] ?_
      intro k hk; simp -dsimp (maxSteps := 2000000) [go_sem, -decide_eq_true_eq, -decide_eq_false_iff_not, hl, hwa]
      repeat' (first | refine And.intro ?_ ?_ | refine hk _ ?_ | (intro hg; try simp only [decide_eq_true_eq, decide_eq_false_iff_not] at hg) | omega | exact True.intro)
      all_goals clear hk k
      refine AW.retF (ow := [1000]) (muts := []) ?_ (fun h => And.intro (.inr rfl) h)
      simp [go_sem, Try.results64])
  · intro hc; try simp at hc
    all_goals try (exfalso; first | contradiction | omega; done)
    all_goals (
      refine AW.skipN (fun _ h => h) ?_
      refine AW.reg tiOk (fun _ => []) [4, 6] ?_
      intro k hk; simp -dsimp (maxSteps := 2000000) [go_sem, -decide_eq_true_eq, -decide_eq_false_iff_not, hl, hwa]
      repeat' (first | refine And.intro ?_ ?_ | (refine Chk.keys ?_; simp only [go_sem, List.map_cons, List.map_nil, List.flatMap_cons, List.flatMap_nil, List.flatMap_append, List.append_nil, List.nil_append, List.cons_append]; decide +kernel) | refine hk _ ?_ | (intro hg; try simp only [decide_eq_true_eq, decide_eq_false_iff_not] at hg) | (refine CallK.intro (dc_Clone_ne j.sure h1 (by omega)) ?_; simp -dsimp (maxSteps := 2000000) [go_sem, -decide_eq_true_eq, -decide_eq_false_iff_not, hl, hwa]) | (refine CallK.intro (dc_pack_I s hs) ?_; simp -dsimp (maxSteps := 2000000) [go_sem, -decide_eq_true_eq, -decide_eq_false_iff_not, hl, hwa]) | (refine CallK.intro (dc_slices_Concat_byte_byte_p [j.loose, pk s] (by simp) h0p (by omega)) ?_; simp -dsimp (maxSteps := 2000000) [go_sem, -decide_eq_true_eq, -decide_eq_false_iff_not, hl, hwa]) | omega | exact True.intro)
      all_goals clear hk k
      refine AW.seq ?_
      refine AW.reg tiOk (fun _ => []) [4, 6, 34] ?_
      intro k hk; simp -dsimp (maxSteps := 2000000) [go_sem, -decide_eq_true_eq, -decide_eq_false_iff_not, hl, hwa]
      repeat' (first | refine And.intro ?_ ?_ | refine hk _ ?_ | (intro hg; try simp only [decide_eq_true_eq, decide_eq_false_iff_not] at hg) | omega | exact True.intro)
      all_goals clear hk k
      refine AW.cond rfl ?_ ?_
      · intro hc; try simp at hc
        all_goals try (exfalso; first | contradiction | omega; done)
        all_goals (
          refine AW.reg tiOk (fun _ => []) [4] ?_
          intro k hk; simp -dsimp (maxSteps := 2000000) [go_sem, -decide_eq_true_eq, -decide_eq_false_iff_not, hl, hwa]
          repeat' (first | refine And.intro ?_ ?_ | refine hk _ ?_ | (intro hg; try simp only [decide_eq_true_eq, decide_eq_false_iff_not] at hg) | omega | exact True.intro)
          all_goals clear hk k
          refine AW.retF (ow := [1000]) (muts := []) ?_ (fun h => And.intro (.inr rfl) h)
          simp [go_sem, Try.results64])
      · intro hc; try simp at hc
        all_goals try (exfalso; first | contradiction | omega; done)
        all_goals (
          refine AW.skipN (fun _ h => h) ?_
          refine AW.reg tiOk (fun i => if i = 1 then [0] else []) [4] ?_
          intro k hk; simp -dsimp (maxSteps := 2000000) [go_sem, -decide_eq_true_eq, -decide_eq_false_iff_not, hl, hwa]
          repeat' (first | refine And.intro ?_ ?_ | refine hk _ ?_ | (intro hg; try simp only [decide_eq_true_eq, decide_eq_false_iff_not] at hg) | (refine CallK.intro (dc_impl_told_oo _ _ (by omega)) ?_; simp -dsimp (maxSteps := 2000000) [go_sem, -decide_eq_true_eq, -decide_eq_false_iff_not, hl, hwa]) | omega | exact True.intro)
          all_goals clear hk k
          refine AW.retF (ow := [1000]) (muts := []) ?_ (fun h => And.intro (.inr rfl) h)
          simp [go_sem, Try.results64]))
theorem dc_impl_AppendLine_bad1 (j : TJournal) (s : List UInt8) (hz : j.sz ≤ 1048576) (hs : s.length ≤ 1048576) (hj : jouF j ≠ 0) : DC Try.prog 64 [.agg j.ro, .str s] (.agg [.int .i64 (jouF j), .int .i64 0, .isl 1 [], .isl 1 []]) [] := by
  have e := fc1 (b := lineF s) hj
  have h := dc_impl_AppendLine_bad j s hz hs (by rw [e]; exact hj)
  rwa [e] at h
theorem dc_impl_AppendLine_bad2 (j : TJournal) (s : List UInt8) (hz : j.sz ≤ 1048576) (hs : s.length ≤ 1048576) (hj : jouF j = 0) (hl : lineF s ≠ 0) : DC Try.prog 64 [.agg j.ro, .str s] (.agg [.int .i64 (lineF s), .int .i64 0, .isl 1 [], .isl 1 []]) [] := by
  have e := fc2 (b := lineF s) hj
  have h := dc_impl_AppendLine_bad j s hz hs (by rw [e]; exact hl)
  rwa [e] at h

end Go.AM
