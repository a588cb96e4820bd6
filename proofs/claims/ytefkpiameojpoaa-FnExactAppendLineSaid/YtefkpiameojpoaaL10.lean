/- Walks. -/
import Derived.Test.YtefkpiameojpoaaJc
import Derived.Test.YtefkpiameojpoaaJd
import Derived.Test.YtefkpiameojpoaaM3
namespace Go.AM
open Go.Proofs

set_option maxHeartbeats 20000000 in
set_option linter.unusedSimpArgs false in
set_option maxRecDepth 100000 in
/-- laws.FnExactAppendLine -/
theorem dc_laws_FnExactAppendLine_bad1 (j : TJournal) (gj : j.gok) (s : List UInt8) (gs : s.length ≤ 9223372036854775807) (hj : jouF j ≠ 0) : DC Try.prog 15 [.agg j.ro, .str s] (.bool true) [] := by
  refine DC.intro tiOk Try.func15 rfl rfl rfl rfl rfl rfl rfl rfl [] ?_
  refine AW.reg tiOk (fun _ => []) [1, 2, 45, 46, 47, 48] ?_
  intro k hk; simp -dsimp (maxSteps := 2000000) [go_sem, -decide_eq_true_eq, -decide_eq_false_iff_not]
  repeat' (first | refine And.intro ?_ ?_ | refine hk _ ?_ | (intro hg; try simp only [decide_eq_true_eq, decide_eq_false_iff_not] at hg) | omega | exact True.intro)
  all_goals clear hk k
  refine AW.seq ?_
  refine AW.reg tiOk (fun _ => []) [1, 2, 15, 45, 46, 47, 48] ?_
  intro k hk; simp -dsimp (maxSteps := 2000000) [go_sem, -decide_eq_true_eq, -decide_eq_false_iff_not]
  repeat' (first | refine And.intro ?_ ?_ | refine hk _ ?_ | (intro hg; try simp only [decide_eq_true_eq, decide_eq_false_iff_not] at hg) | omega | exact True.intro)
  all_goals clear hk k
  refine AW.cond rfl ?_ ?_
  · intro hc; try simp [subz_neg, subz_nn] at hc
    all_goals try (exfalso; omega; done)
    all_goals (
      refine AW.reg tiOk (fun _ => []) [4] ?_
      intro k hk; simp -dsimp (maxSteps := 2000000) [go_sem, -decide_eq_true_eq, -decide_eq_false_iff_not]
      repeat' (first | refine And.intro ?_ ?_ | refine hk _ ?_ | (intro hg; try simp only [decide_eq_true_eq, decide_eq_false_iff_not] at hg) | omega | exact True.intro)
      all_goals clear hk k
      refine AW.retF (ow := []) (muts := []) ?_ (fun h => And.intro (.inr rfl) h)
      simp [go_sem, Try.results15])
  · intro hc; try simp [subz_neg, subz_nn] at hc
    all_goals try (exfalso; omega; done)
    all_goals (
      refine AW.skipN (fun _ h => h) ?_
      refine AW.reg tiOk (fun _ => []) [1, 2, 5, 45, 46, 47, 48] ?_
      intro k hk; simp -dsimp (maxSteps := 2000000) [go_sem, -decide_eq_true_eq, -decide_eq_false_iff_not]
      repeat' (first | refine And.intro ?_ ?_ | refine hk _ ?_ | (intro hg; try simp only [decide_eq_true_eq, decide_eq_false_iff_not] at hg) | omega | exact True.intro)
      all_goals clear hk k
      refine AW.reg tiOk (fun _ => []) [1, 2, 5, 45, 46, 47, 48] ?_
      intro k hk; simp -dsimp (maxSteps := 2000000) [go_sem, -decide_eq_true_eq, -decide_eq_false_iff_not]
      repeat' (first | refine And.intro ?_ ?_ | refine hk _ ?_ | (intro hg; try simp only [decide_eq_true_eq, decide_eq_false_iff_not] at hg) | (refine CallK.intro (dc_laws_szJournal _ _ (by first | assumption | (constructor <;> first | assumption | omega | grind [subz])) (by assumption)) ?_; simp -dsimp (maxSteps := 2000000) [go_sem, -decide_eq_true_eq, -decide_eq_false_iff_not]) | omega | exact True.intro)
      all_goals clear hk k
      refine AW.seq ?_
      refine AW.reg tiOk (fun _ => []) [1, 2, 20, 45, 46, 47, 48] ?_
      intro k hk; simp -dsimp (maxSteps := 2000000) [go_sem, -decide_eq_true_eq, -decide_eq_false_iff_not]
      repeat' (first | refine And.intro ?_ ?_ | refine hk _ ?_ | (intro hg; try simp only [decide_eq_true_eq, decide_eq_false_iff_not] at hg) | omega | exact True.intro)
      all_goals clear hk k
      refine AW.cond rfl ?_ ?_
      · intro hc; try simp [subz_neg, subz_nn] at hc
        all_goals try (exfalso; omega; done)
        all_goals (
          refine AW.reg tiOk (fun _ => []) [4] ?_
          intro k hk; simp -dsimp (maxSteps := 2000000) [go_sem, -decide_eq_true_eq, -decide_eq_false_iff_not]
          repeat' (first | refine And.intro ?_ ?_ | refine hk _ ?_ | (intro hg; try simp only [decide_eq_true_eq, decide_eq_false_iff_not] at hg) | omega | exact True.intro)
          all_goals clear hk k
          refine AW.retF (ow := []) (muts := []) ?_ (fun h => And.intro (.inr rfl) h)
          simp [go_sem, Try.results15])
      · intro hc; try simp [subz_neg, subz_nn] at hc
        all_goals try (exfalso; omega; done)
        all_goals (
          refine AW.skipN (fun _ h => h) ?_
          have bj : j.sz ≤ 1048576 := by grind [subz]
          have hjz : j.sure.length + j.loose.length ≤ 1048576 := by have := bj; unfold TJournal.sz at this; exact this
          have hcl : (cat [j.sure, j.loose]).length = j.sure.length + j.loose.length := by rw [cat_two, List.length_append]
          have bs : s.length ≤ 1048576 := by grind [subz]
          have hpl := pk_len s
          have hcl2 : (cat [j.loose, pk s]).length = j.loose.length + (s.length + 3) := by rw [cat_two, List.length_append, hpl]
          refine AW.reg tiOk (fun _ => []) [1, 2, 6, 45, 46, 47, 48] ?_
          intro k hk; simp -dsimp (maxSteps := 2000000) [go_sem, -decide_eq_true_eq, -decide_eq_false_iff_not]
          repeat' (first | refine And.intro ?_ ?_ | refine hk _ ?_ | (intro hg; try simp only [decide_eq_true_eq, decide_eq_false_iff_not] at hg) | (refine CallK.intro (dc_laws_toJournal j bj) ?_; simp -dsimp (maxSteps := 2000000) [go_sem, -decide_eq_true_eq, -decide_eq_false_iff_not]) | (refine CallK.intro (dc_spec_AppendLine_bad1 j s bj bs hj) ?_; simp -dsimp (maxSteps := 2000000) [go_sem, -decide_eq_true_eq, -decide_eq_false_iff_not]) | omega | exact True.intro)
          all_goals clear hk k
          refine AW.reg tiOk (fun _ => []) [1, 2, 6, 7, 45, 46, 47, 48] ?_
          intro k hk; simp -dsimp (maxSteps := 2000000) [go_sem, -decide_eq_true_eq, -decide_eq_false_iff_not]
          repeat' (first | refine And.intro ?_ ?_ | refine hk _ ?_ | (intro hg; try simp only [decide_eq_true_eq, decide_eq_false_iff_not] at hg) | (refine CallK.intro (dc_laws_toJournal j bj) ?_; simp -dsimp (maxSteps := 2000000) [go_sem, -decide_eq_true_eq, -decide_eq_false_iff_not]) | omega | exact True.intro)
          all_goals clear hk k
          refine AW.reg tiOk (fun _ => []) [1, 2, 6, 7, 8, 45, 46, 47, 48] ?_
          intro k hk; simp -dsimp (maxSteps := 2000000) [go_sem, -decide_eq_true_eq, -decide_eq_false_iff_not]
          repeat' (first | refine And.intro ?_ ?_ | refine hk _ ?_ | (intro hg; try simp only [decide_eq_true_eq, decide_eq_false_iff_not] at hg) | (refine CallK.intro (dc_impl_AppendLine_bad1 j s bj bs hj) ?_; simp -dsimp (maxSteps := 2000000) [go_sem, -decide_eq_true_eq, -decide_eq_false_iff_not]) | omega | exact True.intro)
          all_goals clear hk k
          refine AW.seq ?_
          refine AW.reg tiOk (fun _ => []) [1, 2, 6, 7, 8, 33, 45, 46, 47, 48] ?_
          intro k hk; simp -dsimp (maxSteps := 2000000) [go_sem, -decide_eq_true_eq, -decide_eq_false_iff_not]
          repeat' (first | refine And.intro ?_ ?_ | refine hk _ ?_ | (intro hg; try simp only [decide_eq_true_eq, decide_eq_false_iff_not] at hg) | (refine CallK.intro (dc_laws_eqJournalResult (⟨jouF j, 0, ⟨[], []⟩⟩ : TJournalResult) (⟨jouF j, 0, ⟨[], []⟩⟩ : TJournalResult) (by simp [TJournalResult.gok, TJournal.gok] <;> omega)) ?_; simp -dsimp (maxSteps := 2000000) [go_sem, -decide_eq_true_eq, -decide_eq_false_iff_not]) | omega | exact True.intro)
          all_goals clear hk k
          refine AW.cond rfl ?_ ?_
          · intro hc; try simp [subz_neg, subz_nn] at hc
            all_goals try (exfalso; omega; done)
            all_goals (
              refine AW.reg tiOk (fun _ => []) [4] ?_
              intro k hk; simp -dsimp (maxSteps := 2000000) [go_sem, -decide_eq_true_eq, -decide_eq_false_iff_not]
              repeat' (first | refine And.intro ?_ ?_ | refine hk _ ?_ | (intro hg; try simp only [decide_eq_true_eq, decide_eq_false_iff_not] at hg) | omega | exact True.intro)
              all_goals clear hk k
              refine AW.retF (ow := []) (muts := []) ?_ (fun h => And.intro (.inr rfl) h)
              simp [go_sem, Try.results15])
          · intro hc; try simp [subz_neg, subz_nn] at hc
            all_goals try (exfalso; omega; done)
            all_goals (
              refine AW.skipN (fun _ h => h) ?_
              refine AW.seq ?_
              refine AW.reg tiOk (fun _ => []) [1, 2, 6, 7, 8, 38, 45, 46, 47, 48] ?_
              intro k hk; simp -dsimp (maxSteps := 2000000) [go_sem, -decide_eq_true_eq, -decide_eq_false_iff_not]
              repeat' (first | refine And.intro ?_ ?_ | (refine Chk.keys ?_; simp only [go_sem, List.map_cons, List.map_nil, List.flatMap_cons, List.flatMap_nil, List.flatMap_append, List.append_nil, List.nil_append, List.cons_append]; decide +kernel) | refine hk _ ?_ | (intro hg; try simp only [decide_eq_true_eq, decide_eq_false_iff_not] at hg) | (refine CallK.intro (dc_laws_toJournal j bj) ?_; simp -dsimp (maxSteps := 2000000) [go_sem, -decide_eq_true_eq, -decide_eq_false_iff_not]) | (refine CallK.intro (dc_laws_eqJournal j j gj) ?_; simp -dsimp (maxSteps := 2000000) [go_sem, -decide_eq_true_eq, -decide_eq_false_iff_not]) | omega | exact True.intro)
              all_goals clear hk k
              refine AW.cond rfl ?_ ?_
              · intro hc; try simp [subz_neg, subz_nn] at hc
                all_goals try (exfalso; omega; done)
                all_goals (
                  refine AW.reg tiOk (fun _ => []) [4] ?_
                  intro k hk; simp -dsimp (maxSteps := 2000000) [go_sem, -decide_eq_true_eq, -decide_eq_false_iff_not]
                  repeat' (first | refine And.intro ?_ ?_ | refine hk _ ?_ | (intro hg; try simp only [decide_eq_true_eq, decide_eq_false_iff_not] at hg) | omega | exact True.intro)
                  all_goals clear hk k
                  refine AW.retF (ow := []) (muts := []) ?_ (fun h => And.intro (.inr rfl) h)
                  simp [go_sem, Try.results15])
              · intro hc; try simp [subz_neg, subz_nn] at hc
                all_goals try (exfalso; omega; done)
                all_goals (
                  refine AW.skipN (fun _ h => h) ?_
                  refine AW.reg tiOk (fun _ => []) [1, 2, 6, 7, 8, 9, 45, 46, 47, 48] ?_
                  intro k hk; simp -dsimp (maxSteps := 2000000) [go_sem, -decide_eq_true_eq, -decide_eq_false_iff_not]
                  repeat' (first | refine And.intro ?_ ?_ | refine hk _ ?_ | (intro hg; try simp only [decide_eq_true_eq, decide_eq_false_iff_not] at hg) | omega | exact True.intro)
                  all_goals clear hk k
                  refine AW.reg tiOk (fun _ => [0]) [1, 2, 6, 8, 9, 45, 46, 47, 48] ?_
                  intro k hk; simp -dsimp (maxSteps := 2000000) [go_sem, -decide_eq_true_eq, -decide_eq_false_iff_not]
                  repeat' (first | refine And.intro ?_ ?_ | refine hk _ ?_ | (intro hg; try simp only [decide_eq_true_eq, decide_eq_false_iff_not] at hg) | (refine CallK.intro (dc_laws_markJournal_oo j.sure j.loose 1 (by constructor <;> omega)) ?_; simp -dsimp (maxSteps := 2000000) [go_sem, -decide_eq_true_eq, -decide_eq_false_iff_not]) | omega | exact True.intro)
                  all_goals clear hk k
                  refine AW.seq ?_
                  refine AW.reg tiOk (fun _ => []) [1, 2, 6, 8, 49] ?_
                  intro k hk; simp +contextual -dsimp (maxSteps := 2000000) [go_sem, -decide_eq_true_eq, -decide_eq_false_iff_not]
                  repeat' (first | refine And.intro ?_ ?_ | refine hk _ ?_ | (intro hg; try simp only [decide_eq_true_eq, decide_eq_false_iff_not] at hg) | (refine CallK.intro (dc_laws_eqJournalResult (⟨jouF j, 0, ⟨[], []⟩⟩ : TJournalResult) (⟨jouF j, 0, ⟨[], []⟩⟩ : TJournalResult) (by simp [TJournalResult.gok, TJournal.gok] <;> omega)) ?_; simp +contextual -dsimp (maxSteps := 2000000) [go_sem, -decide_eq_true_eq, -decide_eq_false_iff_not]) | omega | exact True.intro)
                  all_goals clear hk k
                  all_goals (
                    refine AW.cond rfl ?_ ?_
                    · intro hc; try simp [subz_neg, subz_nn] at hc
                      all_goals try (exfalso; omega; done)
                      all_goals (
                        refine AW.reg tiOk (fun _ => []) [4] ?_
                        intro k hk; simp -dsimp (maxSteps := 2000000) [go_sem, -decide_eq_true_eq, -decide_eq_false_iff_not]
                        repeat' (first | refine And.intro ?_ ?_ | refine hk _ ?_ | (intro hg; try simp only [decide_eq_true_eq, decide_eq_false_iff_not] at hg) | omega | exact True.intro)
                        all_goals clear hk k
                        refine AW.retF (ow := []) (muts := []) ?_ (fun h => And.intro (.inr rfl) h)
                        simp [go_sem, Try.results15])
                    · intro hc; try simp [subz_neg, subz_nn] at hc
                      all_goals try (exfalso; omega; done)
                      all_goals (
                        refine AW.skipN (fun _ h => h) ?_
                        refine AW.reg tiOk (fun _ => []) [1, 2, 6, 8, 10] ?_
                        intro k hk; simp -dsimp (maxSteps := 2000000) [go_sem, -decide_eq_true_eq, -decide_eq_false_iff_not]
                        repeat' (first | refine And.intro ?_ ?_ | refine hk _ ?_ | (intro hg; try simp only [decide_eq_true_eq, decide_eq_false_iff_not] at hg) | omega | exact True.intro)
                        all_goals clear hk k
                        refine AW.reg tiOk (fun _ => [0]) [1, 2, 6, 8, 10] ?_
                        intro k hk; simp -dsimp (maxSteps := 2000000) [go_sem, -decide_eq_true_eq, -decide_eq_false_iff_not]
                        repeat' (first | refine And.intro ?_ ?_ | refine hk _ ?_ | (intro hg; try simp only [decide_eq_true_eq, decide_eq_false_iff_not] at hg) | (refine CallK.intro (dc_laws_markJournalResult_nn (jouF j) (0) 1 (by constructor <;> omega)) ?_; simp -dsimp (maxSteps := 2000000) [go_sem, -decide_eq_true_eq, -decide_eq_false_iff_not]) | omega | exact True.intro)
                        all_goals clear hk k
                        refine AW.reg tiOk (fun _ => []) [1, 2, 6, 8, 10, 11] ?_
                        intro k hk; simp -dsimp (maxSteps := 2000000) [go_sem, -decide_eq_true_eq, -decide_eq_false_iff_not]
                        repeat' (first | refine And.intro ?_ ?_ | refine hk _ ?_ | (intro hg; try simp only [decide_eq_true_eq, decide_eq_false_iff_not] at hg) | omega | exact True.intro)
                        all_goals clear hk k
                        refine AW.reg tiOk (fun _ => []) [1, 2, 6, 8, 10, 11] ?_
                        intro k hk; simp -dsimp (maxSteps := 2000000) [go_sem, -decide_eq_true_eq, -decide_eq_false_iff_not]
                        repeat' (first | refine And.intro ?_ ?_ | refine hk _ ?_ | (intro hg; try simp only [decide_eq_true_eq, decide_eq_false_iff_not] at hg) | (refine CallK.intro (dc_laws_heldJournalResult_nn (jouF j) (0) 1 (by constructor <;> omega)) ?_; simp -dsimp (maxSteps := 2000000) [go_sem, -decide_eq_true_eq, -decide_eq_false_iff_not]) | omega | exact True.intro)
                        all_goals clear hk k
                        refine AW.seq ?_
                        refine AW.reg tiOk (fun _ => []) [1, 2, 6, 8, 10, 11, 57] ?_
                        intro k hk; simp -dsimp (maxSteps := 2000000) [go_sem, -decide_eq_true_eq, -decide_eq_false_iff_not]
                        repeat' (first | refine And.intro ?_ ?_ | refine hk _ ?_ | (intro hg; try simp only [decide_eq_true_eq, decide_eq_false_iff_not] at hg) | omega | exact True.intro)
                        all_goals clear hk k
                        refine AW.cond rfl ?_ ?_
                        · intro hc; try simp [subz_neg, subz_nn] at hc
                          all_goals try (exfalso; omega; done)
                          all_goals (
                            refine AW.reg tiOk (fun _ => []) [4] ?_
                            intro k hk; simp -dsimp (maxSteps := 2000000) [go_sem, -decide_eq_true_eq, -decide_eq_false_iff_not]
                            repeat' (first | refine And.intro ?_ ?_ | refine hk _ ?_ | (intro hg; try simp only [decide_eq_true_eq, decide_eq_false_iff_not] at hg) | omega | exact True.intro)
                            all_goals clear hk k
                            refine AW.retF (ow := []) (muts := []) ?_ (fun h => And.intro (.inr rfl) h)
                            simp [go_sem, Try.results15])
                        · intro hc; try simp [subz_neg, subz_nn] at hc
                          all_goals try (exfalso; omega; done)
                          all_goals (
                            refine AW.skipN (fun _ h => h) ?_
                            refine AW.seq ?_
                            refine AW.reg tiOk (fun _ => []) [1, 2, 6, 8, 10, 60] ?_
                            intro k hk; simp -dsimp (maxSteps := 2000000) [go_sem, -decide_eq_true_eq, -decide_eq_false_iff_not]
                            repeat' (first | refine And.intro ?_ ?_ | refine hk _ ?_ | (intro hg; try simp only [decide_eq_true_eq, decide_eq_false_iff_not] at hg) | omega | exact True.intro)
                            all_goals clear hk k
                            refine AW.cond rfl ?_ ?_
                            · intro hc; try simp [subz_neg, subz_nn] at hc
                              all_goals try (exfalso; omega; done)
                              all_goals (
                                refine AW.reg tiOk (fun _ => []) [4] ?_
                                intro k hk; simp -dsimp (maxSteps := 2000000) [go_sem, -decide_eq_true_eq, -decide_eq_false_iff_not]
                                repeat' (first | refine And.intro ?_ ?_ | refine hk _ ?_ | (intro hg; try simp only [decide_eq_true_eq, decide_eq_false_iff_not] at hg) | omega | exact True.intro)
                                all_goals clear hk k
                                refine AW.retF (ow := []) (muts := []) ?_ (fun h => And.intro (.inr rfl) h)
                                simp [go_sem, Try.results15])
                            · intro hc; try simp [subz_neg, subz_nn] at hc
                              all_goals try (exfalso; omega; done)
                              all_goals (
                                refine AW.skipN (fun _ h => h) ?_
                                refine AW.reg tiOk (fun _ => []) [6, 8, 10, 12] ?_
                                intro k hk; simp -dsimp (maxSteps := 2000000) [go_sem, -decide_eq_true_eq, -decide_eq_false_iff_not]
                                repeat' (first | refine And.intro ?_ ?_ | refine hk _ ?_ | (intro hg; try simp only [decide_eq_true_eq, decide_eq_false_iff_not] at hg) | (refine CallK.intro (dc_laws_toJournal j bj) ?_; simp -dsimp (maxSteps := 2000000) [go_sem, -decide_eq_true_eq, -decide_eq_false_iff_not]) | (refine CallK.intro (dc_impl_AppendLine_bad1 j s bj bs hj) ?_; simp -dsimp (maxSteps := 2000000) [go_sem, -decide_eq_true_eq, -decide_eq_false_iff_not]) | omega | exact True.intro)
                                all_goals clear hk k
                                refine AW.seq ?_
                                refine AW.reg tiOk (fun _ => []) [8, 10, 68] ?_
                                intro k hk; simp -dsimp (maxSteps := 2000000) [go_sem, -decide_eq_true_eq, -decide_eq_false_iff_not]
                                repeat' (first | refine And.intro ?_ ?_ | refine hk _ ?_ | (intro hg; try simp only [decide_eq_true_eq, decide_eq_false_iff_not] at hg) | (refine CallK.intro (dc_laws_eqJournalResult (⟨jouF j, 0, ⟨[], []⟩⟩ : TJournalResult) (⟨jouF j, 0, ⟨[], []⟩⟩ : TJournalResult) (by simp [TJournalResult.gok, TJournal.gok] <;> omega)) ?_; simp -dsimp (maxSteps := 2000000) [go_sem, -decide_eq_true_eq, -decide_eq_false_iff_not]) | omega | exact True.intro)
                                all_goals clear hk k
                                refine AW.cond rfl ?_ ?_
                                · intro hc; try simp [subz_neg, subz_nn] at hc
                                  all_goals try (exfalso; omega; done)
                                  all_goals (
                                    refine AW.reg tiOk (fun _ => []) [4] ?_
                                    intro k hk; simp -dsimp (maxSteps := 2000000) [go_sem, -decide_eq_true_eq, -decide_eq_false_iff_not]
                                    repeat' (first | refine And.intro ?_ ?_ | refine hk _ ?_ | (intro hg; try simp only [decide_eq_true_eq, decide_eq_false_iff_not] at hg) | omega | exact True.intro)
                                    all_goals clear hk k
                                    refine AW.retF (ow := []) (muts := []) ?_ (fun h => And.intro (.inr rfl) h)
                                    simp [go_sem, Try.results15])
                                · intro hc; try simp [subz_neg, subz_nn] at hc
                                  all_goals try (exfalso; omega; done)
                                  all_goals (
                                    refine AW.skipN (fun _ h => h) ?_
                                    refine AW.reg tiOk (fun _ => []) [8, 10, 11] ?_
                                    intro k hk; simp -dsimp (maxSteps := 2000000) [go_sem, -decide_eq_true_eq, -decide_eq_false_iff_not]
                                    repeat' (first | refine And.intro ?_ ?_ | refine hk _ ?_ | (intro hg; try simp only [decide_eq_true_eq, decide_eq_false_iff_not] at hg) | omega | exact True.intro)
                                    all_goals clear hk k
                                    refine AW.reg tiOk (fun _ => []) [10, 11] ?_
                                    intro k hk; simp -dsimp (maxSteps := 2000000) [go_sem, -decide_eq_true_eq, -decide_eq_false_iff_not]
                                    repeat' (first | refine And.intro ?_ ?_ | refine hk _ ?_ | (intro hg; try simp only [decide_eq_true_eq, decide_eq_false_iff_not] at hg) | (refine CallK.intro (dc_laws_heldJournalResult_nn (jouF j) (0) 1 (by constructor <;> omega)) ?_; simp -dsimp (maxSteps := 2000000) [go_sem, -decide_eq_true_eq, -decide_eq_false_iff_not]) | omega | exact True.intro)
                                    all_goals clear hk k
                                    refine AW.seq ?_
                                    refine AW.reg tiOk (fun _ => []) [10, 11, 73] ?_
                                    intro k hk; simp -dsimp (maxSteps := 2000000) [go_sem, -decide_eq_true_eq, -decide_eq_false_iff_not]
                                    repeat' (first | refine And.intro ?_ ?_ | refine hk _ ?_ | (intro hg; try simp only [decide_eq_true_eq, decide_eq_false_iff_not] at hg) | omega | exact True.intro)
                                    all_goals clear hk k
                                    refine AW.cond rfl ?_ ?_
                                    · intro hc; try simp [subz_neg, subz_nn] at hc
                                      all_goals try (exfalso; omega; done)
                                      all_goals (
                                        refine AW.reg tiOk (fun _ => []) [4] ?_
                                        intro k hk; simp -dsimp (maxSteps := 2000000) [go_sem, -decide_eq_true_eq, -decide_eq_false_iff_not]
                                        repeat' (first | refine And.intro ?_ ?_ | refine hk _ ?_ | (intro hg; try simp only [decide_eq_true_eq, decide_eq_false_iff_not] at hg) | omega | exact True.intro)
                                        all_goals clear hk k
                                        refine AW.retF (ow := []) (muts := []) ?_ (fun h => And.intro (.inr rfl) h)
                                        simp [go_sem, Try.results15])
                                    · intro hc; try simp [subz_neg, subz_nn] at hc
                                      all_goals try (exfalso; omega; done)
                                      all_goals (
                                        refine AW.skipN (fun _ h => h) ?_
                                        refine AW.seq ?_
                                        refine AW.reg tiOk (fun _ => []) [76] ?_
                                        intro k hk; simp -dsimp (maxSteps := 2000000) [go_sem, -decide_eq_true_eq, -decide_eq_false_iff_not]
                                        repeat' (first | refine And.intro ?_ ?_ | refine hk _ ?_ | (intro hg; try simp only [decide_eq_true_eq, decide_eq_false_iff_not] at hg) | omega | exact True.intro)
                                        all_goals clear hk k
                                        refine AW.cond rfl ?_ ?_
                                        · intro hc; try simp [subz_neg, subz_nn] at hc
                                          all_goals try (exfalso; omega; done)
                                          all_goals (
                                            refine AW.reg tiOk (fun _ => []) [4] ?_
                                            intro k hk; simp -dsimp (maxSteps := 2000000) [go_sem, -decide_eq_true_eq, -decide_eq_false_iff_not]
                                            repeat' (first | refine And.intro ?_ ?_ | refine hk _ ?_ | (intro hg; try simp only [decide_eq_true_eq, decide_eq_false_iff_not] at hg) | omega | exact True.intro)
                                            all_goals clear hk k
                                            refine AW.retF (ow := []) (muts := []) ?_ (fun h => And.intro (.inr rfl) h)
                                            simp [go_sem, Try.results15])
                                        · intro hc; try simp [subz_neg, subz_nn] at hc
                                          all_goals try (exfalso; omega; done)
                                          all_goals (
                                            refine AW.skipN (fun _ h => h) ?_
                                            refine AW.reg tiOk (fun _ => []) [4] ?_
                                            intro k hk; simp -dsimp (maxSteps := 2000000) [go_sem, -decide_eq_true_eq, -decide_eq_false_iff_not]
                                            repeat' (first | refine And.intro ?_ ?_ | refine hk _ ?_ | (intro hg; try simp only [decide_eq_true_eq, decide_eq_false_iff_not] at hg) | omega | exact True.intro)
                                            all_goals clear hk k
                                            refine AW.retF (ow := []) (muts := []) ?_ (fun h => And.intro (.inr rfl) h)
                                            simp [go_sem, Try.results15])))))))))))

set_option maxHeartbeats 20000000 in
set_option linter.unusedSimpArgs false in
set_option maxRecDepth 100000 in
/-- laws.FnExactAppendLine -/
theorem dc_laws_FnExactAppendLine_bad2 (j : TJournal) (gj : j.gok) (s : List UInt8) (gs : s.length ≤ 9223372036854775807) (hj : jouF j = 0) (hl : lineF s ≠ 0) : DC Try.prog 15 [.agg j.ro, .str s] (.bool true) [] := by
  refine DC.intro tiOk Try.func15 rfl rfl rfl rfl rfl rfl rfl rfl [] ?_
  refine AW.reg tiOk (fun _ => []) [1, 2, 45, 46, 47, 48] ?_
  intro k hk; simp -dsimp (maxSteps := 2000000) [go_sem, -decide_eq_true_eq, -decide_eq_false_iff_not]
  repeat' (first | refine And.intro ?_ ?_ | refine hk _ ?_ | (intro hg; try simp only [decide_eq_true_eq, decide_eq_false_iff_not] at hg) | omega | exact True.intro)
  all_goals clear hk k
  refine AW.seq ?_
  refine AW.reg tiOk (fun _ => []) [1, 2, 15, 45, 46, 47, 48] ?_
  intro k hk; simp -dsimp (maxSteps := 2000000) [go_sem, -decide_eq_true_eq, -decide_eq_false_iff_not]
  repeat' (first | refine And.intro ?_ ?_ | refine hk _ ?_ | (intro hg; try simp only [decide_eq_true_eq, decide_eq_false_iff_not] at hg) | omega | exact True.intro)
  all_goals clear hk k
  refine AW.cond rfl ?_ ?_
  · intro hc; try simp [subz_neg, subz_nn] at hc
    all_goals try (exfalso; omega; done)
    all_goals (
      refine AW.reg tiOk (fun _ => []) [4] ?_
      intro k hk; simp -dsimp (maxSteps := 2000000) [go_sem, -decide_eq_true_eq, -decide_eq_false_iff_not]
      repeat' (first | refine And.intro ?_ ?_ | refine hk _ ?_ | (intro hg; try simp only [decide_eq_true_eq, decide_eq_false_iff_not] at hg) | omega | exact True.intro)
      all_goals clear hk k
      refine AW.retF (ow := []) (muts := []) ?_ (fun h => And.intro (.inr rfl) h)
      simp [go_sem, Try.results15])
  · intro hc; try simp [subz_neg, subz_nn] at hc
    all_goals try (exfalso; omega; done)
    all_goals (
      refine AW.skipN (fun _ h => h) ?_
      refine AW.reg tiOk (fun _ => []) [1, 2, 5, 45, 46, 47, 48] ?_
      intro k hk; simp -dsimp (maxSteps := 2000000) [go_sem, -decide_eq_true_eq, -decide_eq_false_iff_not]
      repeat' (first | refine And.intro ?_ ?_ | refine hk _ ?_ | (intro hg; try simp only [decide_eq_true_eq, decide_eq_false_iff_not] at hg) | omega | exact True.intro)
      all_goals clear hk k
      refine AW.reg tiOk (fun _ => []) [1, 2, 5, 45, 46, 47, 48] ?_
      intro k hk; simp -dsimp (maxSteps := 2000000) [go_sem, -decide_eq_true_eq, -decide_eq_false_iff_not]
      repeat' (first | refine And.intro ?_ ?_ | refine hk _ ?_ | (intro hg; try simp only [decide_eq_true_eq, decide_eq_false_iff_not] at hg) | (refine CallK.intro (dc_laws_szJournal _ _ (by first | assumption | (constructor <;> first | assumption | omega | grind [subz])) (by assumption)) ?_; simp -dsimp (maxSteps := 2000000) [go_sem, -decide_eq_true_eq, -decide_eq_false_iff_not]) | omega | exact True.intro)
      all_goals clear hk k
      refine AW.seq ?_
      refine AW.reg tiOk (fun _ => []) [1, 2, 20, 45, 46, 47, 48] ?_
      intro k hk; simp -dsimp (maxSteps := 2000000) [go_sem, -decide_eq_true_eq, -decide_eq_false_iff_not]
      repeat' (first | refine And.intro ?_ ?_ | refine hk _ ?_ | (intro hg; try simp only [decide_eq_true_eq, decide_eq_false_iff_not] at hg) | omega | exact True.intro)
      all_goals clear hk k
      refine AW.cond rfl ?_ ?_
      · intro hc; try simp [subz_neg, subz_nn] at hc
        all_goals try (exfalso; omega; done)
        all_goals (
          refine AW.reg tiOk (fun _ => []) [4] ?_
          intro k hk; simp -dsimp (maxSteps := 2000000) [go_sem, -decide_eq_true_eq, -decide_eq_false_iff_not]
          repeat' (first | refine And.intro ?_ ?_ | refine hk _ ?_ | (intro hg; try simp only [decide_eq_true_eq, decide_eq_false_iff_not] at hg) | omega | exact True.intro)
          all_goals clear hk k
          refine AW.retF (ow := []) (muts := []) ?_ (fun h => And.intro (.inr rfl) h)
          simp [go_sem, Try.results15])
      · intro hc; try simp [subz_neg, subz_nn] at hc
        all_goals try (exfalso; omega; done)
        all_goals (
          refine AW.skipN (fun _ h => h) ?_
          have bj : j.sz ≤ 1048576 := by grind [subz]
          have hjz : j.sure.length + j.loose.length ≤ 1048576 := by have := bj; unfold TJournal.sz at this; exact this
          have hcl : (cat [j.sure, j.loose]).length = j.sure.length + j.loose.length := by rw [cat_two, List.length_append]
          have bs : s.length ≤ 1048576 := by grind [subz]
          have hpl := pk_len s
          have hcl2 : (cat [j.loose, pk s]).length = j.loose.length + (s.length + 3) := by rw [cat_two, List.length_append, hpl]
          refine AW.reg tiOk (fun _ => []) [1, 2, 6, 45, 46, 47, 48] ?_
          intro k hk; simp -dsimp (maxSteps := 2000000) [go_sem, -decide_eq_true_eq, -decide_eq_false_iff_not]
          repeat' (first | refine And.intro ?_ ?_ | refine hk _ ?_ | (intro hg; try simp only [decide_eq_true_eq, decide_eq_false_iff_not] at hg) | (refine CallK.intro (dc_laws_toJournal j bj) ?_; simp -dsimp (maxSteps := 2000000) [go_sem, -decide_eq_true_eq, -decide_eq_false_iff_not]) | (refine CallK.intro (dc_spec_AppendLine_bad2 j s bj bs hj hl) ?_; simp -dsimp (maxSteps := 2000000) [go_sem, -decide_eq_true_eq, -decide_eq_false_iff_not]) | omega | exact True.intro)
          all_goals clear hk k
          refine AW.reg tiOk (fun _ => []) [1, 2, 6, 7, 45, 46, 47, 48] ?_
          intro k hk; simp -dsimp (maxSteps := 2000000) [go_sem, -decide_eq_true_eq, -decide_eq_false_iff_not]
          repeat' (first | refine And.intro ?_ ?_ | refine hk _ ?_ | (intro hg; try simp only [decide_eq_true_eq, decide_eq_false_iff_not] at hg) | (refine CallK.intro (dc_laws_toJournal j bj) ?_; simp -dsimp (maxSteps := 2000000) [go_sem, -decide_eq_true_eq, -decide_eq_false_iff_not]) | omega | exact True.intro)
          all_goals clear hk k
          refine AW.reg tiOk (fun _ => []) [1, 2, 6, 7, 8, 45, 46, 47, 48] ?_
          intro k hk; simp -dsimp (maxSteps := 2000000) [go_sem, -decide_eq_true_eq, -decide_eq_false_iff_not]
          repeat' (first | refine And.intro ?_ ?_ | refine hk _ ?_ | (intro hg; try simp only [decide_eq_true_eq, decide_eq_false_iff_not] at hg) | (refine CallK.intro (dc_impl_AppendLine_bad2 j s bj bs hj hl) ?_; simp -dsimp (maxSteps := 2000000) [go_sem, -decide_eq_true_eq, -decide_eq_false_iff_not]) | omega | exact True.intro)
          all_goals clear hk k
          refine AW.seq ?_
          refine AW.reg tiOk (fun _ => []) [1, 2, 6, 7, 8, 33, 45, 46, 47, 48] ?_
          intro k hk; simp -dsimp (maxSteps := 2000000) [go_sem, -decide_eq_true_eq, -decide_eq_false_iff_not]
          repeat' (first | refine And.intro ?_ ?_ | refine hk _ ?_ | (intro hg; try simp only [decide_eq_true_eq, decide_eq_false_iff_not] at hg) | (refine CallK.intro (dc_laws_eqJournalResult (⟨lineF s, 0, ⟨[], []⟩⟩ : TJournalResult) (⟨lineF s, 0, ⟨[], []⟩⟩ : TJournalResult) (by simp [TJournalResult.gok, TJournal.gok] <;> omega)) ?_; simp -dsimp (maxSteps := 2000000) [go_sem, -decide_eq_true_eq, -decide_eq_false_iff_not]) | omega | exact True.intro)
          all_goals clear hk k
          refine AW.cond rfl ?_ ?_
          · intro hc; try simp [subz_neg, subz_nn] at hc
            all_goals try (exfalso; omega; done)
            all_goals (
              refine AW.reg tiOk (fun _ => []) [4] ?_
              intro k hk; simp -dsimp (maxSteps := 2000000) [go_sem, -decide_eq_true_eq, -decide_eq_false_iff_not]
              repeat' (first | refine And.intro ?_ ?_ | refine hk _ ?_ | (intro hg; try simp only [decide_eq_true_eq, decide_eq_false_iff_not] at hg) | omega | exact True.intro)
              all_goals clear hk k
              refine AW.retF (ow := []) (muts := []) ?_ (fun h => And.intro (.inr rfl) h)
              simp [go_sem, Try.results15])
          · intro hc; try simp [subz_neg, subz_nn] at hc
            all_goals try (exfalso; omega; done)
            all_goals (
              refine AW.skipN (fun _ h => h) ?_
              refine AW.seq ?_
              refine AW.reg tiOk (fun _ => []) [1, 2, 6, 7, 8, 38, 45, 46, 47, 48] ?_
              intro k hk; simp -dsimp (maxSteps := 2000000) [go_sem, -decide_eq_true_eq, -decide_eq_false_iff_not]
              repeat' (first | refine And.intro ?_ ?_ | (refine Chk.keys ?_; simp only [go_sem, List.map_cons, List.map_nil, List.flatMap_cons, List.flatMap_nil, List.flatMap_append, List.append_nil, List.nil_append, List.cons_append]; decide +kernel) | refine hk _ ?_ | (intro hg; try simp only [decide_eq_true_eq, decide_eq_false_iff_not] at hg) | (refine CallK.intro (dc_laws_toJournal j bj) ?_; simp -dsimp (maxSteps := 2000000) [go_sem, -decide_eq_true_eq, -decide_eq_false_iff_not]) | (refine CallK.intro (dc_laws_eqJournal j j gj) ?_; simp -dsimp (maxSteps := 2000000) [go_sem, -decide_eq_true_eq, -decide_eq_false_iff_not]) | omega | exact True.intro)
              all_goals clear hk k
              refine AW.cond rfl ?_ ?_
              · intro hc; try simp [subz_neg, subz_nn] at hc
                all_goals try (exfalso; omega; done)
                all_goals (
                  refine AW.reg tiOk (fun _ => []) [4] ?_
                  intro k hk; simp -dsimp (maxSteps := 2000000) [go_sem, -decide_eq_true_eq, -decide_eq_false_iff_not]
                  repeat' (first | refine And.intro ?_ ?_ | refine hk _ ?_ | (intro hg; try simp only [decide_eq_true_eq, decide_eq_false_iff_not] at hg) | omega | exact True.intro)
                  all_goals clear hk k
                  refine AW.retF (ow := []) (muts := []) ?_ (fun h => And.intro (.inr rfl) h)
                  simp [go_sem, Try.results15])
              · intro hc; try simp [subz_neg, subz_nn] at hc
                all_goals try (exfalso; omega; done)
                all_goals (
                  refine AW.skipN (fun _ h => h) ?_
                  refine AW.reg tiOk (fun _ => []) [1, 2, 6, 7, 8, 9, 45, 46, 47, 48] ?_
                  intro k hk; simp -dsimp (maxSteps := 2000000) [go_sem, -decide_eq_true_eq, -decide_eq_false_iff_not]
                  repeat' (first | refine And.intro ?_ ?_ | refine hk _ ?_ | (intro hg; try simp only [decide_eq_true_eq, decide_eq_false_iff_not] at hg) | omega | exact True.intro)
                  all_goals clear hk k
                  refine AW.reg tiOk (fun _ => [0]) [1, 2, 6, 8, 9, 45, 46, 47, 48] ?_
                  intro k hk; simp -dsimp (maxSteps := 2000000) [go_sem, -decide_eq_true_eq, -decide_eq_false_iff_not]
                  repeat' (first | refine And.intro ?_ ?_ | refine hk _ ?_ | (intro hg; try simp only [decide_eq_true_eq, decide_eq_false_iff_not] at hg) | (refine CallK.intro (dc_laws_markJournal_oo j.sure j.loose 1 (by constructor <;> omega)) ?_; simp -dsimp (maxSteps := 2000000) [go_sem, -decide_eq_true_eq, -decide_eq_false_iff_not]) | omega | exact True.intro)
                  all_goals clear hk k
                  refine AW.seq ?_
                  refine AW.reg tiOk (fun _ => []) [1, 2, 6, 8, 49] ?_
                  intro k hk; simp +contextual -dsimp (maxSteps := 2000000) [go_sem, -decide_eq_true_eq, -decide_eq_false_iff_not]
                  repeat' (first | refine And.intro ?_ ?_ | refine hk _ ?_ | (intro hg; try simp only [decide_eq_true_eq, decide_eq_false_iff_not] at hg) | (refine CallK.intro (dc_laws_eqJournalResult (⟨lineF s, 0, ⟨[], []⟩⟩ : TJournalResult) (⟨lineF s, 0, ⟨[], []⟩⟩ : TJournalResult) (by simp [TJournalResult.gok, TJournal.gok] <;> omega)) ?_; simp +contextual -dsimp (maxSteps := 2000000) [go_sem, -decide_eq_true_eq, -decide_eq_false_iff_not]) | omega | exact True.intro)
                  all_goals clear hk k
                  all_goals (
                    refine AW.cond rfl ?_ ?_
                    · intro hc; try simp [subz_neg, subz_nn] at hc
                      all_goals try (exfalso; omega; done)
                      all_goals (
                        refine AW.reg tiOk (fun _ => []) [4] ?_
                        intro k hk; simp -dsimp (maxSteps := 2000000) [go_sem, -decide_eq_true_eq, -decide_eq_false_iff_not]
                        repeat' (first | refine And.intro ?_ ?_ | refine hk _ ?_ | (intro hg; try simp only [decide_eq_true_eq, decide_eq_false_iff_not] at hg) | omega | exact True.intro)
                        all_goals clear hk k
                        refine AW.retF (ow := []) (muts := []) ?_ (fun h => And.intro (.inr rfl) h)
                        simp [go_sem, Try.results15])
                    · intro hc; try simp [subz_neg, subz_nn] at hc
                      all_goals try (exfalso; omega; done)
                      all_goals (
                        refine AW.skipN (fun _ h => h) ?_
                        refine AW.reg tiOk (fun _ => []) [1, 2, 6, 8, 10] ?_
                        intro k hk; simp -dsimp (maxSteps := 2000000) [go_sem, -decide_eq_true_eq, -decide_eq_false_iff_not]
                        repeat' (first | refine And.intro ?_ ?_ | refine hk _ ?_ | (intro hg; try simp only [decide_eq_true_eq, decide_eq_false_iff_not] at hg) | omega | exact True.intro)
                        all_goals clear hk k
                        refine AW.reg tiOk (fun _ => [0]) [1, 2, 6, 8, 10] ?_
                        intro k hk; simp -dsimp (maxSteps := 2000000) [go_sem, -decide_eq_true_eq, -decide_eq_false_iff_not]
                        repeat' (first | refine And.intro ?_ ?_ | refine hk _ ?_ | (intro hg; try simp only [decide_eq_true_eq, decide_eq_false_iff_not] at hg) | (refine CallK.intro (dc_laws_markJournalResult_nn (lineF s) (0) 1 (by constructor <;> omega)) ?_; simp -dsimp (maxSteps := 2000000) [go_sem, -decide_eq_true_eq, -decide_eq_false_iff_not]) | omega | exact True.intro)
                        all_goals clear hk k
                        refine AW.reg tiOk (fun _ => []) [1, 2, 6, 8, 10, 11] ?_
                        intro k hk; simp -dsimp (maxSteps := 2000000) [go_sem, -decide_eq_true_eq, -decide_eq_false_iff_not]
                        repeat' (first | refine And.intro ?_ ?_ | refine hk _ ?_ | (intro hg; try simp only [decide_eq_true_eq, decide_eq_false_iff_not] at hg) | omega | exact True.intro)
                        all_goals clear hk k
                        refine AW.reg tiOk (fun _ => []) [1, 2, 6, 8, 10, 11] ?_
                        intro k hk; simp -dsimp (maxSteps := 2000000) [go_sem, -decide_eq_true_eq, -decide_eq_false_iff_not]
                        repeat' (first | refine And.intro ?_ ?_ | refine hk _ ?_ | (intro hg; try simp only [decide_eq_true_eq, decide_eq_false_iff_not] at hg) | (refine CallK.intro (dc_laws_heldJournalResult_nn (lineF s) (0) 1 (by constructor <;> omega)) ?_; simp -dsimp (maxSteps := 2000000) [go_sem, -decide_eq_true_eq, -decide_eq_false_iff_not]) | omega | exact True.intro)
                        all_goals clear hk k
                        refine AW.seq ?_
                        refine AW.reg tiOk (fun _ => []) [1, 2, 6, 8, 10, 11, 57] ?_
                        intro k hk; simp -dsimp (maxSteps := 2000000) [go_sem, -decide_eq_true_eq, -decide_eq_false_iff_not]
                        repeat' (first | refine And.intro ?_ ?_ | refine hk _ ?_ | (intro hg; try simp only [decide_eq_true_eq, decide_eq_false_iff_not] at hg) | omega | exact True.intro)
                        all_goals clear hk k
                        refine AW.cond rfl ?_ ?_
                        · intro hc; try simp [subz_neg, subz_nn] at hc
                          all_goals try (exfalso; omega; done)
                          all_goals (
                            refine AW.reg tiOk (fun _ => []) [4] ?_
                            intro k hk; simp -dsimp (maxSteps := 2000000) [go_sem, -decide_eq_true_eq, -decide_eq_false_iff_not]
                            repeat' (first | refine And.intro ?_ ?_ | refine hk _ ?_ | (intro hg; try simp only [decide_eq_true_eq, decide_eq_false_iff_not] at hg) | omega | exact True.intro)
                            all_goals clear hk k
                            refine AW.retF (ow := []) (muts := []) ?_ (fun h => And.intro (.inr rfl) h)
                            simp [go_sem, Try.results15])
                        · intro hc; try simp [subz_neg, subz_nn] at hc
                          all_goals try (exfalso; omega; done)
                          all_goals (
                            refine AW.skipN (fun _ h => h) ?_
                            refine AW.seq ?_
                            refine AW.reg tiOk (fun _ => []) [1, 2, 6, 8, 10, 60] ?_
                            intro k hk; simp -dsimp (maxSteps := 2000000) [go_sem, -decide_eq_true_eq, -decide_eq_false_iff_not]
                            repeat' (first | refine And.intro ?_ ?_ | refine hk _ ?_ | (intro hg; try simp only [decide_eq_true_eq, decide_eq_false_iff_not] at hg) | omega | exact True.intro)
                            all_goals clear hk k
                            refine AW.cond rfl ?_ ?_
                            · intro hc; try simp [subz_neg, subz_nn] at hc
                              all_goals try (exfalso; omega; done)
                              all_goals (
                                refine AW.reg tiOk (fun _ => []) [4] ?_
                                intro k hk; simp -dsimp (maxSteps := 2000000) [go_sem, -decide_eq_true_eq, -decide_eq_false_iff_not]
                                repeat' (first | refine And.intro ?_ ?_ | refine hk _ ?_ | (intro hg; try simp only [decide_eq_true_eq, decide_eq_false_iff_not] at hg) | omega | exact True.intro)
                                all_goals clear hk k
                                refine AW.retF (ow := []) (muts := []) ?_ (fun h => And.intro (.inr rfl) h)
                                simp [go_sem, Try.results15])
                            · intro hc; try simp [subz_neg, subz_nn] at hc
                              all_goals try (exfalso; omega; done)
                              all_goals (
                                refine AW.skipN (fun _ h => h) ?_
                                refine AW.reg tiOk (fun _ => []) [6, 8, 10, 12] ?_
                                intro k hk; simp -dsimp (maxSteps := 2000000) [go_sem, -decide_eq_true_eq, -decide_eq_false_iff_not]
                                repeat' (first | refine And.intro ?_ ?_ | refine hk _ ?_ | (intro hg; try simp only [decide_eq_true_eq, decide_eq_false_iff_not] at hg) | (refine CallK.intro (dc_laws_toJournal j bj) ?_; simp -dsimp (maxSteps := 2000000) [go_sem, -decide_eq_true_eq, -decide_eq_false_iff_not]) | (refine CallK.intro (dc_impl_AppendLine_bad2 j s bj bs hj hl) ?_; simp -dsimp (maxSteps := 2000000) [go_sem, -decide_eq_true_eq, -decide_eq_false_iff_not]) | omega | exact True.intro)
                                all_goals clear hk k
                                refine AW.seq ?_
                                refine AW.reg tiOk (fun _ => []) [8, 10, 68] ?_
                                intro k hk; simp -dsimp (maxSteps := 2000000) [go_sem, -decide_eq_true_eq, -decide_eq_false_iff_not]
                                repeat' (first | refine And.intro ?_ ?_ | refine hk _ ?_ | (intro hg; try simp only [decide_eq_true_eq, decide_eq_false_iff_not] at hg) | (refine CallK.intro (dc_laws_eqJournalResult (⟨lineF s, 0, ⟨[], []⟩⟩ : TJournalResult) (⟨lineF s, 0, ⟨[], []⟩⟩ : TJournalResult) (by simp [TJournalResult.gok, TJournal.gok] <;> omega)) ?_; simp -dsimp (maxSteps := 2000000) [go_sem, -decide_eq_true_eq, -decide_eq_false_iff_not]) | omega | exact True.intro)
                                all_goals clear hk k
                                refine AW.cond rfl ?_ ?_
                                · intro hc; try simp [subz_neg, subz_nn] at hc
                                  all_goals try (exfalso; omega; done)
                                  all_goals (
                                    refine AW.reg tiOk (fun _ => []) [4] ?_
                                    intro k hk; simp -dsimp (maxSteps := 2000000) [go_sem, -decide_eq_true_eq, -decide_eq_false_iff_not]
                                    repeat' (first | refine And.intro ?_ ?_ | refine hk _ ?_ | (intro hg; try simp only [decide_eq_true_eq, decide_eq_false_iff_not] at hg) | omega | exact True.intro)
                                    all_goals clear hk k
                                    refine AW.retF (ow := []) (muts := []) ?_ (fun h => And.intro (.inr rfl) h)
                                    simp [go_sem, Try.results15])
                                · intro hc; try simp [subz_neg, subz_nn] at hc
                                  all_goals try (exfalso; omega; done)
                                  all_goals (
                                    refine AW.skipN (fun _ h => h) ?_
                                    refine AW.reg tiOk (fun _ => []) [8, 10, 11] ?_
                                    intro k hk; simp -dsimp (maxSteps := 2000000) [go_sem, -decide_eq_true_eq, -decide_eq_false_iff_not]
                                    repeat' (first | refine And.intro ?_ ?_ | refine hk _ ?_ | (intro hg; try simp only [decide_eq_true_eq, decide_eq_false_iff_not] at hg) | omega | exact True.intro)
                                    all_goals clear hk k
                                    refine AW.reg tiOk (fun _ => []) [10, 11] ?_
                                    intro k hk; simp -dsimp (maxSteps := 2000000) [go_sem, -decide_eq_true_eq, -decide_eq_false_iff_not]
                                    repeat' (first | refine And.intro ?_ ?_ | refine hk _ ?_ | (intro hg; try simp only [decide_eq_true_eq, decide_eq_false_iff_not] at hg) | (refine CallK.intro (dc_laws_heldJournalResult_nn (lineF s) (0) 1 (by constructor <;> omega)) ?_; simp -dsimp (maxSteps := 2000000) [go_sem, -decide_eq_true_eq, -decide_eq_false_iff_not]) | omega | exact True.intro)
                                    all_goals clear hk k
                                    refine AW.seq ?_
                                    refine AW.reg tiOk (fun _ => []) [10, 11, 73] ?_
                                    intro k hk; simp -dsimp (maxSteps := 2000000) [go_sem, -decide_eq_true_eq, -decide_eq_false_iff_not]
                                    repeat' (first | refine And.intro ?_ ?_ | refine hk _ ?_ | (intro hg; try simp only [decide_eq_true_eq, decide_eq_false_iff_not] at hg) | omega | exact True.intro)
                                    all_goals clear hk k
                                    refine AW.cond rfl ?_ ?_
                                    · intro hc; try simp [subz_neg, subz_nn] at hc
                                      all_goals try (exfalso; omega; done)
                                      all_goals (
                                        refine AW.reg tiOk (fun _ => []) [4] ?_
                                        intro k hk; simp -dsimp (maxSteps := 2000000) [go_sem, -decide_eq_true_eq, -decide_eq_false_iff_not]
                                        repeat' (first | refine And.intro ?_ ?_ | refine hk _ ?_ | (intro hg; try simp only [decide_eq_true_eq, decide_eq_false_iff_not] at hg) | omega | exact True.intro)
                                        all_goals clear hk k
                                        refine AW.retF (ow := []) (muts := []) ?_ (fun h => And.intro (.inr rfl) h)
                                        simp [go_sem, Try.results15])
                                    · intro hc; try simp [subz_neg, subz_nn] at hc
                                      all_goals try (exfalso; omega; done)
                                      all_goals (
                                        refine AW.skipN (fun _ h => h) ?_
                                        refine AW.seq ?_
                                        refine AW.reg tiOk (fun _ => []) [76] ?_
                                        intro k hk; simp -dsimp (maxSteps := 2000000) [go_sem, -decide_eq_true_eq, -decide_eq_false_iff_not]
                                        repeat' (first | refine And.intro ?_ ?_ | refine hk _ ?_ | (intro hg; try simp only [decide_eq_true_eq, decide_eq_false_iff_not] at hg) | omega | exact True.intro)
                                        all_goals clear hk k
                                        refine AW.cond rfl ?_ ?_
                                        · intro hc; try simp [subz_neg, subz_nn] at hc
                                          all_goals try (exfalso; omega; done)
                                          all_goals (
                                            refine AW.reg tiOk (fun _ => []) [4] ?_
                                            intro k hk; simp -dsimp (maxSteps := 2000000) [go_sem, -decide_eq_true_eq, -decide_eq_false_iff_not]
                                            repeat' (first | refine And.intro ?_ ?_ | refine hk _ ?_ | (intro hg; try simp only [decide_eq_true_eq, decide_eq_false_iff_not] at hg) | omega | exact True.intro)
                                            all_goals clear hk k
                                            refine AW.retF (ow := []) (muts := []) ?_ (fun h => And.intro (.inr rfl) h)
                                            simp [go_sem, Try.results15])
                                        · intro hc; try simp [subz_neg, subz_nn] at hc
                                          all_goals try (exfalso; omega; done)
                                          all_goals (
                                            refine AW.skipN (fun _ h => h) ?_
                                            refine AW.reg tiOk (fun _ => []) [4] ?_
                                            intro k hk; simp -dsimp (maxSteps := 2000000) [go_sem, -decide_eq_true_eq, -decide_eq_false_iff_not]
                                            repeat' (first | refine And.intro ?_ ?_ | refine hk _ ?_ | (intro hg; try simp only [decide_eq_true_eq, decide_eq_false_iff_not] at hg) | omega | exact True.intro)
                                            all_goals clear hk k
                                            refine AW.retF (ow := []) (muts := []) ?_ (fun h => And.intro (.inr rfl) h)
                                            simp [go_sem, Try.results15])))))))))))

set_option maxHeartbeats 20000000 in
set_option linter.unusedSimpArgs false in
set_option maxRecDepth 100000 in
/-- laws.FnExactAppendLine -/
theorem dc_laws_FnExactAppendLine_bign (j : TJournal) (gj : j.gok) (s : List UInt8) (gs : s.length ≤ 9223372036854775807) (hj : jouF j = 0) (hl : lineF s = 0) (h1 : j.sure = []) (hb : 2400 < j.sure.length + (cat [j.loose, pk s]).length) : DC Try.prog 15 [.agg j.ro, .str s] (.bool true) [] := by
  refine DC.intro tiOk Try.func15 rfl rfl rfl rfl rfl rfl rfl rfl [] ?_
  refine AW.reg tiOk (fun _ => []) [1, 2, 45, 46, 47, 48] ?_
  intro k hk; simp -dsimp (maxSteps := 2000000) [go_sem, -decide_eq_true_eq, -decide_eq_false_iff_not]
  repeat' (first | refine And.intro ?_ ?_ | refine hk _ ?_ | (intro hg; try simp only [decide_eq_true_eq, decide_eq_false_iff_not] at hg) | omega | exact True.intro)
  all_goals clear hk k
  refine AW.seq ?_
  refine AW.reg tiOk (fun _ => []) [1, 2, 15, 45, 46, 47, 48] ?_
  intro k hk; simp -dsimp (maxSteps := 2000000) [go_sem, -decide_eq_true_eq, -decide_eq_false_iff_not]
  repeat' (first | refine And.intro ?_ ?_ | refine hk _ ?_ | (intro hg; try simp only [decide_eq_true_eq, decide_eq_false_iff_not] at hg) | omega | exact True.intro)
  all_goals clear hk k
  refine AW.cond rfl ?_ ?_
  · intro hc; try simp [subz_neg, subz_nn] at hc
    all_goals try (exfalso; omega; done)
    all_goals (
      refine AW.reg tiOk (fun _ => []) [4] ?_
      intro k hk; simp -dsimp (maxSteps := 2000000) [go_sem, -decide_eq_true_eq, -decide_eq_false_iff_not]
      repeat' (first | refine And.intro ?_ ?_ | refine hk _ ?_ | (intro hg; try simp only [decide_eq_true_eq, decide_eq_false_iff_not] at hg) | omega | exact True.intro)
      all_goals clear hk k
      refine AW.retF (ow := []) (muts := []) ?_ (fun h => And.intro (.inr rfl) h)
      simp [go_sem, Try.results15])
  · intro hc; try simp [subz_neg, subz_nn] at hc
    all_goals try (exfalso; omega; done)
    all_goals (
      refine AW.skipN (fun _ h => h) ?_
      refine AW.reg tiOk (fun _ => []) [1, 2, 5, 45, 46, 47, 48] ?_
      intro k hk; simp -dsimp (maxSteps := 2000000) [go_sem, -decide_eq_true_eq, -decide_eq_false_iff_not]
      repeat' (first | refine And.intro ?_ ?_ | refine hk _ ?_ | (intro hg; try simp only [decide_eq_true_eq, decide_eq_false_iff_not] at hg) | omega | exact True.intro)
      all_goals clear hk k
      refine AW.reg tiOk (fun _ => []) [1, 2, 5, 45, 46, 47, 48] ?_
      intro k hk; simp -dsimp (maxSteps := 2000000) [go_sem, -decide_eq_true_eq, -decide_eq_false_iff_not]
      repeat' (first | refine And.intro ?_ ?_ | refine hk _ ?_ | (intro hg; try simp only [decide_eq_true_eq, decide_eq_false_iff_not] at hg) | (refine CallK.intro (dc_laws_szJournal _ _ (by first | assumption | (constructor <;> first | assumption | omega | grind [subz])) (by assumption)) ?_; simp -dsimp (maxSteps := 2000000) [go_sem, -decide_eq_true_eq, -decide_eq_false_iff_not]) | omega | exact True.intro)
      all_goals clear hk k
      refine AW.seq ?_
      refine AW.reg tiOk (fun _ => []) [1, 2, 20, 45, 46, 47, 48] ?_
      intro k hk; simp -dsimp (maxSteps := 2000000) [go_sem, -decide_eq_true_eq, -decide_eq_false_iff_not]
      repeat' (first | refine And.intro ?_ ?_ | refine hk _ ?_ | (intro hg; try simp only [decide_eq_true_eq, decide_eq_false_iff_not] at hg) | omega | exact True.intro)
      all_goals clear hk k
      refine AW.cond rfl ?_ ?_
      · intro hc; try simp [subz_neg, subz_nn] at hc
        all_goals try (exfalso; omega; done)
        all_goals (
          refine AW.reg tiOk (fun _ => []) [4] ?_
          intro k hk; simp -dsimp (maxSteps := 2000000) [go_sem, -decide_eq_true_eq, -decide_eq_false_iff_not]
          repeat' (first | refine And.intro ?_ ?_ | refine hk _ ?_ | (intro hg; try simp only [decide_eq_true_eq, decide_eq_false_iff_not] at hg) | omega | exact True.intro)
          all_goals clear hk k
          refine AW.retF (ow := []) (muts := []) ?_ (fun h => And.intro (.inr rfl) h)
          simp [go_sem, Try.results15])
      · intro hc; try simp [subz_neg, subz_nn] at hc
        all_goals try (exfalso; omega; done)
        all_goals (
          refine AW.skipN (fun _ h => h) ?_
          have bj : j.sz ≤ 1048576 := by grind [subz]
          have hjz : j.sure.length + j.loose.length ≤ 1048576 := by have := bj; unfold TJournal.sz at this; exact this
          have hcl : (cat [j.sure, j.loose]).length = j.sure.length + j.loose.length := by rw [cat_two, List.length_append]
          have bs : s.length ≤ 1048576 := by grind [subz]
          have hpl := pk_len s
          have hcl2 : (cat [j.loose, pk s]).length = j.loose.length + (s.length + 3) := by rw [cat_two, List.length_append, hpl]
          refine AW.reg tiOk (fun _ => []) [1, 2, 6, 45, 46, 47, 48] ?_
          intro k hk; simp -dsimp (maxSteps := 2000000) [go_sem, -decide_eq_true_eq, -decide_eq_false_iff_not]
          repeat' (first | refine And.intro ?_ ?_ | refine hk _ ?_ | (intro hg; try simp only [decide_eq_true_eq, decide_eq_false_iff_not] at hg) | (refine CallK.intro (dc_laws_toJournal j bj) ?_; simp -dsimp (maxSteps := 2000000) [go_sem, -decide_eq_true_eq, -decide_eq_false_iff_not]) | (refine CallK.intro (dc_spec_AppendLine_bign j s bj bs hj hl h1 hb) ?_; simp -dsimp (maxSteps := 2000000) [go_sem, -decide_eq_true_eq, -decide_eq_false_iff_not]) | omega | exact True.intro)
          all_goals clear hk k
          refine AW.reg tiOk (fun _ => []) [1, 2, 6, 7, 45, 46, 47, 48] ?_
          intro k hk; simp -dsimp (maxSteps := 2000000) [go_sem, -decide_eq_true_eq, -decide_eq_false_iff_not]
          repeat' (first | refine And.intro ?_ ?_ | refine hk _ ?_ | (intro hg; try simp only [decide_eq_true_eq, decide_eq_false_iff_not] at hg) | (refine CallK.intro (dc_laws_toJournal j bj) ?_; simp -dsimp (maxSteps := 2000000) [go_sem, -decide_eq_true_eq, -decide_eq_false_iff_not]) | omega | exact True.intro)
          all_goals clear hk k
          refine AW.reg tiOk (fun _ => []) [1, 2, 6, 7, 8, 45, 46, 47, 48] ?_
          intro k hk; simp -dsimp (maxSteps := 2000000) [go_sem, -decide_eq_true_eq, -decide_eq_false_iff_not]
          repeat' (first | refine And.intro ?_ ?_ | refine hk _ ?_ | (intro hg; try simp only [decide_eq_true_eq, decide_eq_false_iff_not] at hg) | (refine CallK.intro (dc_impl_AppendLine_bign j s bj bs (by rw [fc2 hj]; exact hl) h1 hb) ?_; simp -dsimp (maxSteps := 2000000) [go_sem, -decide_eq_true_eq, -decide_eq_false_iff_not]) | omega | exact True.intro)
          all_goals clear hk k
          refine AW.seq ?_
          refine AW.reg tiOk (fun _ => []) [1, 2, 6, 7, 8, 33, 45, 46, 47, 48] ?_
          intro k hk; simp -dsimp (maxSteps := 2000000) [go_sem, -decide_eq_true_eq, -decide_eq_false_iff_not]
          repeat' (first | refine And.intro ?_ ?_ | refine hk _ ?_ | (intro hg; try simp only [decide_eq_true_eq, decide_eq_false_iff_not] at hg) | (refine CallK.intro (dc_laws_eqJournalResult (⟨2, 0, ⟨[], []⟩⟩ : TJournalResult) (⟨2, 0, ⟨[], []⟩⟩ : TJournalResult) (by simp [TJournalResult.gok, TJournal.gok] <;> omega)) ?_; simp -dsimp (maxSteps := 2000000) [go_sem, -decide_eq_true_eq, -decide_eq_false_iff_not]) | omega | exact True.intro)
          all_goals clear hk k
          refine AW.cond rfl ?_ ?_
          · intro hc; try simp [subz_neg, subz_nn] at hc
            all_goals try (exfalso; omega; done)
            all_goals (
              refine AW.reg tiOk (fun _ => []) [4] ?_
              intro k hk; simp -dsimp (maxSteps := 2000000) [go_sem, -decide_eq_true_eq, -decide_eq_false_iff_not]
              repeat' (first | refine And.intro ?_ ?_ | refine hk _ ?_ | (intro hg; try simp only [decide_eq_true_eq, decide_eq_false_iff_not] at hg) | omega | exact True.intro)
              all_goals clear hk k
              refine AW.retF (ow := []) (muts := []) ?_ (fun h => And.intro (.inr rfl) h)
              simp [go_sem, Try.results15])
          · intro hc; try simp [subz_neg, subz_nn] at hc
            all_goals try (exfalso; omega; done)
            all_goals (
              refine AW.skipN (fun _ h => h) ?_
              refine AW.seq ?_
              refine AW.reg tiOk (fun _ => []) [1, 2, 6, 7, 8, 38, 45, 46, 47, 48] ?_
              intro k hk; simp -dsimp (maxSteps := 2000000) [go_sem, -decide_eq_true_eq, -decide_eq_false_iff_not]
              repeat' (first | refine And.intro ?_ ?_ | (refine Chk.keys ?_; simp only [go_sem, List.map_cons, List.map_nil, List.flatMap_cons, List.flatMap_nil, List.flatMap_append, List.append_nil, List.nil_append, List.cons_append]; decide +kernel) | refine hk _ ?_ | (intro hg; try simp only [decide_eq_true_eq, decide_eq_false_iff_not] at hg) | (refine CallK.intro (dc_laws_toJournal j bj) ?_; simp -dsimp (maxSteps := 2000000) [go_sem, -decide_eq_true_eq, -decide_eq_false_iff_not]) | (refine CallK.intro (dc_laws_eqJournal j j gj) ?_; simp -dsimp (maxSteps := 2000000) [go_sem, -decide_eq_true_eq, -decide_eq_false_iff_not]) | omega | exact True.intro)
              all_goals clear hk k
              refine AW.cond rfl ?_ ?_
              · intro hc; try simp [subz_neg, subz_nn] at hc
                all_goals try (exfalso; omega; done)
                all_goals (
                  refine AW.reg tiOk (fun _ => []) [4] ?_
                  intro k hk; simp -dsimp (maxSteps := 2000000) [go_sem, -decide_eq_true_eq, -decide_eq_false_iff_not]
                  repeat' (first | refine And.intro ?_ ?_ | refine hk _ ?_ | (intro hg; try simp only [decide_eq_true_eq, decide_eq_false_iff_not] at hg) | omega | exact True.intro)
                  all_goals clear hk k
                  refine AW.retF (ow := []) (muts := []) ?_ (fun h => And.intro (.inr rfl) h)
                  simp [go_sem, Try.results15])
              · intro hc; try simp [subz_neg, subz_nn] at hc
                all_goals try (exfalso; omega; done)
                all_goals (
                  refine AW.skipN (fun _ h => h) ?_
                  refine AW.reg tiOk (fun _ => []) [1, 2, 6, 7, 8, 9, 45, 46, 47, 48] ?_
                  intro k hk; simp -dsimp (maxSteps := 2000000) [go_sem, -decide_eq_true_eq, -decide_eq_false_iff_not]
                  repeat' (first | refine And.intro ?_ ?_ | refine hk _ ?_ | (intro hg; try simp only [decide_eq_true_eq, decide_eq_false_iff_not] at hg) | omega | exact True.intro)
                  all_goals clear hk k
                  refine AW.reg tiOk (fun _ => [0]) [1, 2, 6, 8, 9, 45, 46, 47, 48] ?_
                  intro k hk; simp -dsimp (maxSteps := 2000000) [go_sem, -decide_eq_true_eq, -decide_eq_false_iff_not]
                  repeat' (first | refine And.intro ?_ ?_ | refine hk _ ?_ | (intro hg; try simp only [decide_eq_true_eq, decide_eq_false_iff_not] at hg) | (refine CallK.intro (dc_laws_markJournal_oo j.sure j.loose 1 (by constructor <;> omega)) ?_; simp -dsimp (maxSteps := 2000000) [go_sem, -decide_eq_true_eq, -decide_eq_false_iff_not]) | omega | exact True.intro)
                  all_goals clear hk k
                  refine AW.seq ?_
                  refine AW.reg tiOk (fun _ => []) [1, 2, 6, 8, 49] ?_
                  intro k hk; simp +contextual -dsimp (maxSteps := 2000000) [go_sem, -decide_eq_true_eq, -decide_eq_false_iff_not]
                  repeat' (first | refine And.intro ?_ ?_ | refine hk _ ?_ | (intro hg; try simp only [decide_eq_true_eq, decide_eq_false_iff_not] at hg) | (refine CallK.intro (dc_laws_eqJournalResult (⟨2, 0, ⟨[], []⟩⟩ : TJournalResult) (⟨2, 0, ⟨[], []⟩⟩ : TJournalResult) (by simp [TJournalResult.gok, TJournal.gok] <;> omega)) ?_; simp +contextual -dsimp (maxSteps := 2000000) [go_sem, -decide_eq_true_eq, -decide_eq_false_iff_not]) | omega | exact True.intro)
                  all_goals clear hk k
                  all_goals (
                    refine AW.cond rfl ?_ ?_
                    · intro hc; try simp [subz_neg, subz_nn] at hc
                      all_goals try (exfalso; omega; done)
                      all_goals (
                        refine AW.reg tiOk (fun _ => []) [4] ?_
                        intro k hk; simp -dsimp (maxSteps := 2000000) [go_sem, -decide_eq_true_eq, -decide_eq_false_iff_not]
                        repeat' (first | refine And.intro ?_ ?_ | refine hk _ ?_ | (intro hg; try simp only [decide_eq_true_eq, decide_eq_false_iff_not] at hg) | omega | exact True.intro)
                        all_goals clear hk k
                        refine AW.retF (ow := []) (muts := []) ?_ (fun h => And.intro (.inr rfl) h)
                        simp [go_sem, Try.results15])
                    · intro hc; try simp [subz_neg, subz_nn] at hc
                      all_goals try (exfalso; omega; done)
                      all_goals (
                        refine AW.skipN (fun _ h => h) ?_
                        refine AW.reg tiOk (fun _ => []) [1, 2, 6, 8, 10] ?_
                        intro k hk; simp -dsimp (maxSteps := 2000000) [go_sem, -decide_eq_true_eq, -decide_eq_false_iff_not]
                        repeat' (first | refine And.intro ?_ ?_ | refine hk _ ?_ | (intro hg; try simp only [decide_eq_true_eq, decide_eq_false_iff_not] at hg) | omega | exact True.intro)
                        all_goals clear hk k
                        refine AW.reg tiOk (fun _ => [0]) [1, 2, 6, 8, 10] ?_
                        intro k hk; simp -dsimp (maxSteps := 2000000) [go_sem, -decide_eq_true_eq, -decide_eq_false_iff_not]
                        repeat' (first | refine And.intro ?_ ?_ | refine hk _ ?_ | (intro hg; try simp only [decide_eq_true_eq, decide_eq_false_iff_not] at hg) | (refine CallK.intro (dc_laws_markJournalResult_nn (2) (0) 1 (by constructor <;> omega)) ?_; simp -dsimp (maxSteps := 2000000) [go_sem, -decide_eq_true_eq, -decide_eq_false_iff_not]) | omega | exact True.intro)
                        all_goals clear hk k
                        refine AW.reg tiOk (fun _ => []) [1, 2, 6, 8, 10, 11] ?_
                        intro k hk; simp -dsimp (maxSteps := 2000000) [go_sem, -decide_eq_true_eq, -decide_eq_false_iff_not]
                        repeat' (first | refine And.intro ?_ ?_ | refine hk _ ?_ | (intro hg; try simp only [decide_eq_true_eq, decide_eq_false_iff_not] at hg) | omega | exact True.intro)
                        all_goals clear hk k
                        refine AW.reg tiOk (fun _ => []) [1, 2, 6, 8, 10, 11] ?_
                        intro k hk; simp -dsimp (maxSteps := 2000000) [go_sem, -decide_eq_true_eq, -decide_eq_false_iff_not]
                        repeat' (first | refine And.intro ?_ ?_ | refine hk _ ?_ | (intro hg; try simp only [decide_eq_true_eq, decide_eq_false_iff_not] at hg) | (refine CallK.intro (dc_laws_heldJournalResult_nn (2) (0) 1 (by constructor <;> omega)) ?_; simp -dsimp (maxSteps := 2000000) [go_sem, -decide_eq_true_eq, -decide_eq_false_iff_not]) | omega | exact True.intro)
                        all_goals clear hk k
                        refine AW.seq ?_
                        refine AW.reg tiOk (fun _ => []) [1, 2, 6, 8, 10, 11, 57] ?_
                        intro k hk; simp -dsimp (maxSteps := 2000000) [go_sem, -decide_eq_true_eq, -decide_eq_false_iff_not]
                        repeat' (first | refine And.intro ?_ ?_ | refine hk _ ?_ | (intro hg; try simp only [decide_eq_true_eq, decide_eq_false_iff_not] at hg) | omega | exact True.intro)
                        all_goals clear hk k
                        refine AW.cond rfl ?_ ?_
                        · intro hc; try simp [subz_neg, subz_nn] at hc
                          all_goals try (exfalso; omega; done)
                          all_goals (
                            refine AW.reg tiOk (fun _ => []) [4] ?_
                            intro k hk; simp -dsimp (maxSteps := 2000000) [go_sem, -decide_eq_true_eq, -decide_eq_false_iff_not]
                            repeat' (first | refine And.intro ?_ ?_ | refine hk _ ?_ | (intro hg; try simp only [decide_eq_true_eq, decide_eq_false_iff_not] at hg) | omega | exact True.intro)
                            all_goals clear hk k
                            refine AW.retF (ow := []) (muts := []) ?_ (fun h => And.intro (.inr rfl) h)
                            simp [go_sem, Try.results15])
                        · intro hc; try simp [subz_neg, subz_nn] at hc
                          all_goals try (exfalso; omega; done)
                          all_goals (
                            refine AW.skipN (fun _ h => h) ?_
                            refine AW.seq ?_
                            refine AW.reg tiOk (fun _ => []) [1, 2, 6, 8, 10, 60] ?_
                            intro k hk; simp -dsimp (maxSteps := 2000000) [go_sem, -decide_eq_true_eq, -decide_eq_false_iff_not]
                            repeat' (first | refine And.intro ?_ ?_ | refine hk _ ?_ | (intro hg; try simp only [decide_eq_true_eq, decide_eq_false_iff_not] at hg) | omega | exact True.intro)
                            all_goals clear hk k
                            refine AW.cond rfl ?_ ?_
                            · intro hc; try simp [subz_neg, subz_nn] at hc
                              all_goals try (exfalso; omega; done)
                              all_goals (
                                refine AW.reg tiOk (fun _ => []) [4] ?_
                                intro k hk; simp -dsimp (maxSteps := 2000000) [go_sem, -decide_eq_true_eq, -decide_eq_false_iff_not]
                                repeat' (first | refine And.intro ?_ ?_ | refine hk _ ?_ | (intro hg; try simp only [decide_eq_true_eq, decide_eq_false_iff_not] at hg) | omega | exact True.intro)
                                all_goals clear hk k
                                refine AW.retF (ow := []) (muts := []) ?_ (fun h => And.intro (.inr rfl) h)
                                simp [go_sem, Try.results15])
                            · intro hc; try simp [subz_neg, subz_nn] at hc
                              all_goals try (exfalso; omega; done)
                              all_goals (
                                refine AW.skipN (fun _ h => h) ?_
                                refine AW.reg tiOk (fun _ => []) [6, 8, 10, 12] ?_
                                intro k hk; simp -dsimp (maxSteps := 2000000) [go_sem, -decide_eq_true_eq, -decide_eq_false_iff_not]
                                repeat' (first | refine And.intro ?_ ?_ | refine hk _ ?_ | (intro hg; try simp only [decide_eq_true_eq, decide_eq_false_iff_not] at hg) | (refine CallK.intro (dc_laws_toJournal j bj) ?_; simp -dsimp (maxSteps := 2000000) [go_sem, -decide_eq_true_eq, -decide_eq_false_iff_not]) | (refine CallK.intro (dc_impl_AppendLine_bign j s bj bs (by rw [fc2 hj]; exact hl) h1 hb) ?_; simp -dsimp (maxSteps := 2000000) [go_sem, -decide_eq_true_eq, -decide_eq_false_iff_not]) | omega | exact True.intro)
                                all_goals clear hk k
                                refine AW.seq ?_
                                refine AW.reg tiOk (fun _ => []) [8, 10, 68] ?_
                                intro k hk; simp -dsimp (maxSteps := 2000000) [go_sem, -decide_eq_true_eq, -decide_eq_false_iff_not]
                                repeat' (first | refine And.intro ?_ ?_ | refine hk _ ?_ | (intro hg; try simp only [decide_eq_true_eq, decide_eq_false_iff_not] at hg) | (refine CallK.intro (dc_laws_eqJournalResult (⟨2, 0, ⟨[], []⟩⟩ : TJournalResult) (⟨2, 0, ⟨[], []⟩⟩ : TJournalResult) (by simp [TJournalResult.gok, TJournal.gok] <;> omega)) ?_; simp -dsimp (maxSteps := 2000000) [go_sem, -decide_eq_true_eq, -decide_eq_false_iff_not]) | omega | exact True.intro)
                                all_goals clear hk k
                                refine AW.cond rfl ?_ ?_
                                · intro hc; try simp [subz_neg, subz_nn] at hc
                                  all_goals try (exfalso; omega; done)
                                  all_goals (
                                    refine AW.reg tiOk (fun _ => []) [4] ?_
                                    intro k hk; simp -dsimp (maxSteps := 2000000) [go_sem, -decide_eq_true_eq, -decide_eq_false_iff_not]
                                    repeat' (first | refine And.intro ?_ ?_ | refine hk _ ?_ | (intro hg; try simp only [decide_eq_true_eq, decide_eq_false_iff_not] at hg) | omega | exact True.intro)
                                    all_goals clear hk k
                                    refine AW.retF (ow := []) (muts := []) ?_ (fun h => And.intro (.inr rfl) h)
                                    simp [go_sem, Try.results15])
                                · intro hc; try simp [subz_neg, subz_nn] at hc
                                  all_goals try (exfalso; omega; done)
                                  all_goals (
                                    refine AW.skipN (fun _ h => h) ?_
                                    refine AW.reg tiOk (fun _ => []) [8, 10, 11] ?_
                                    intro k hk; simp -dsimp (maxSteps := 2000000) [go_sem, -decide_eq_true_eq, -decide_eq_false_iff_not]
                                    repeat' (first | refine And.intro ?_ ?_ | refine hk _ ?_ | (intro hg; try simp only [decide_eq_true_eq, decide_eq_false_iff_not] at hg) | omega | exact True.intro)
                                    all_goals clear hk k
                                    refine AW.reg tiOk (fun _ => []) [10, 11] ?_
                                    intro k hk; simp -dsimp (maxSteps := 2000000) [go_sem, -decide_eq_true_eq, -decide_eq_false_iff_not]
                                    repeat' (first | refine And.intro ?_ ?_ | refine hk _ ?_ | (intro hg; try simp only [decide_eq_true_eq, decide_eq_false_iff_not] at hg) | (refine CallK.intro (dc_laws_heldJournalResult_nn (2) (0) 1 (by constructor <;> omega)) ?_; simp -dsimp (maxSteps := 2000000) [go_sem, -decide_eq_true_eq, -decide_eq_false_iff_not]) | omega | exact True.intro)
                                    all_goals clear hk k
                                    refine AW.seq ?_
                                    refine AW.reg tiOk (fun _ => []) [10, 11, 73] ?_
                                    intro k hk; simp -dsimp (maxSteps := 2000000) [go_sem, -decide_eq_true_eq, -decide_eq_false_iff_not]
                                    repeat' (first | refine And.intro ?_ ?_ | refine hk _ ?_ | (intro hg; try simp only [decide_eq_true_eq, decide_eq_false_iff_not] at hg) | omega | exact True.intro)
                                    all_goals clear hk k
                                    refine AW.cond rfl ?_ ?_
                                    · intro hc; try simp [subz_neg, subz_nn] at hc
                                      all_goals try (exfalso; omega; done)
                                      all_goals (
                                        refine AW.reg tiOk (fun _ => []) [4] ?_
                                        intro k hk; simp -dsimp (maxSteps := 2000000) [go_sem, -decide_eq_true_eq, -decide_eq_false_iff_not]
                                        repeat' (first | refine And.intro ?_ ?_ | refine hk _ ?_ | (intro hg; try simp only [decide_eq_true_eq, decide_eq_false_iff_not] at hg) | omega | exact True.intro)
                                        all_goals clear hk k
                                        refine AW.retF (ow := []) (muts := []) ?_ (fun h => And.intro (.inr rfl) h)
                                        simp [go_sem, Try.results15])
                                    · intro hc; try simp [subz_neg, subz_nn] at hc
                                      all_goals try (exfalso; omega; done)
                                      all_goals (
                                        refine AW.skipN (fun _ h => h) ?_
                                        refine AW.seq ?_
                                        refine AW.reg tiOk (fun _ => []) [76] ?_
                                        intro k hk; simp -dsimp (maxSteps := 2000000) [go_sem, -decide_eq_true_eq, -decide_eq_false_iff_not]
                                        repeat' (first | refine And.intro ?_ ?_ | refine hk _ ?_ | (intro hg; try simp only [decide_eq_true_eq, decide_eq_false_iff_not] at hg) | omega | exact True.intro)
                                        all_goals clear hk k
                                        refine AW.cond rfl ?_ ?_
                                        · intro hc; try simp [subz_neg, subz_nn] at hc
                                          all_goals try (exfalso; omega; done)
                                          all_goals (
                                            refine AW.reg tiOk (fun _ => []) [4] ?_
                                            intro k hk; simp -dsimp (maxSteps := 2000000) [go_sem, -decide_eq_true_eq, -decide_eq_false_iff_not]
                                            repeat' (first | refine And.intro ?_ ?_ | refine hk _ ?_ | (intro hg; try simp only [decide_eq_true_eq, decide_eq_false_iff_not] at hg) | omega | exact True.intro)
                                            all_goals clear hk k
                                            refine AW.retF (ow := []) (muts := []) ?_ (fun h => And.intro (.inr rfl) h)
                                            simp [go_sem, Try.results15])
                                        · intro hc; try simp [subz_neg, subz_nn] at hc
                                          all_goals try (exfalso; omega; done)
                                          all_goals (
                                            refine AW.skipN (fun _ h => h) ?_
                                            refine AW.reg tiOk (fun _ => []) [4] ?_
                                            intro k hk; simp -dsimp (maxSteps := 2000000) [go_sem, -decide_eq_true_eq, -decide_eq_false_iff_not]
                                            repeat' (first | refine And.intro ?_ ?_ | refine hk _ ?_ | (intro hg; try simp only [decide_eq_true_eq, decide_eq_false_iff_not] at hg) | omega | exact True.intro)
                                            all_goals clear hk k
                                            refine AW.retF (ow := []) (muts := []) ?_ (fun h => And.intro (.inr rfl) h)
                                            simp [go_sem, Try.results15])))))))))))

set_option maxHeartbeats 20000000 in
set_option linter.unusedSimpArgs false in
set_option maxRecDepth 100000 in
/-- laws.FnExactAppendLine -/
theorem dc_laws_FnExactAppendLine_bigo (j : TJournal) (gj : j.gok) (s : List UInt8) (gs : s.length ≤ 9223372036854775807) (hj : jouF j = 0) (hl : lineF s = 0) (h1 : j.sure ≠ []) (hb : 2400 < j.sure.length + (cat [j.loose, pk s]).length) : DC Try.prog 15 [.agg j.ro, .str s] (.bool true) [] := by
  refine DC.intro tiOk Try.func15 rfl rfl rfl rfl rfl rfl rfl rfl [] ?_
  refine AW.reg tiOk (fun _ => []) [1, 2, 45, 46, 47, 48] ?_
  intro k hk; simp -dsimp (maxSteps := 2000000) [go_sem, -decide_eq_true_eq, -decide_eq_false_iff_not]
  repeat' (first | refine And.intro ?_ ?_ | refine hk _ ?_ | (intro hg; try simp only [decide_eq_true_eq, decide_eq_false_iff_not] at hg) | omega | exact True.intro)
  all_goals clear hk k
  refine AW.seq ?_
  refine AW.reg tiOk (fun _ => []) [1, 2, 15, 45, 46, 47, 48] ?_
  intro k hk; simp -dsimp (maxSteps := 2000000) [go_sem, -decide_eq_true_eq, -decide_eq_false_iff_not]
  repeat' (first | refine And.intro ?_ ?_ | refine hk _ ?_ | (intro hg; try simp only [decide_eq_true_eq, decide_eq_false_iff_not] at hg) | omega | exact True.intro)
  all_goals clear hk k
  refine AW.cond rfl ?_ ?_
  · intro hc; try simp [subz_neg, subz_nn] at hc
    all_goals try (exfalso; omega; done)
    all_goals (
      refine AW.reg tiOk (fun _ => []) [4] ?_
      intro k hk; simp -dsimp (maxSteps := 2000000) [go_sem, -decide_eq_true_eq, -decide_eq_false_iff_not]
      repeat' (first | refine And.intro ?_ ?_ | refine hk _ ?_ | (intro hg; try simp only [decide_eq_true_eq, decide_eq_false_iff_not] at hg) | omega | exact True.intro)
      all_goals clear hk k
      refine AW.retF (ow := []) (muts := []) ?_ (fun h => And.intro (.inr rfl) h)
      simp [go_sem, Try.results15])
  · intro hc; try simp [subz_neg, subz_nn] at hc
    all_goals try (exfalso; omega; done)
    all_goals (
      refine AW.skipN (fun _ h => h) ?_
      refine AW.reg tiOk (fun _ => []) [1, 2, 5, 45, 46, 47, 48] ?_
      intro k hk; simp -dsimp (maxSteps := 2000000) [go_sem, -decide_eq_true_eq, -decide_eq_false_iff_not]
      repeat' (first | refine And.intro ?_ ?_ | refine hk _ ?_ | (intro hg; try simp only [decide_eq_true_eq, decide_eq_false_iff_not] at hg) | omega | exact True.intro)
      all_goals clear hk k
      refine AW.reg tiOk (fun _ => []) [1, 2, 5, 45, 46, 47, 48] ?_
      intro k hk; simp -dsimp (maxSteps := 2000000) [go_sem, -decide_eq_true_eq, -decide_eq_false_iff_not]
      repeat' (first | refine And.intro ?_ ?_ | refine hk _ ?_ | (intro hg; try simp only [decide_eq_true_eq, decide_eq_false_iff_not] at hg) | (refine CallK.intro (dc_laws_szJournal _ _ (by first | assumption | (constructor <;> first | assumption | omega | grind [subz])) (by assumption)) ?_; simp -dsimp (maxSteps := 2000000) [go_sem, -decide_eq_true_eq, -decide_eq_false_iff_not]) | omega | exact True.intro)
      all_goals clear hk k
      refine AW.seq ?_
      refine AW.reg tiOk (fun _ => []) [1, 2, 20, 45, 46, 47, 48] ?_
      intro k hk; simp -dsimp (maxSteps := 2000000) [go_sem, -decide_eq_true_eq, -decide_eq_false_iff_not]
      repeat' (first | refine And.intro ?_ ?_ | refine hk _ ?_ | (intro hg; try simp only [decide_eq_true_eq, decide_eq_false_iff_not] at hg) | omega | exact True.intro)
      all_goals clear hk k
      refine AW.cond rfl ?_ ?_
      · intro hc; try simp [subz_neg, subz_nn] at hc
        all_goals try (exfalso; omega; done)
        all_goals (
          refine AW.reg tiOk (fun _ => []) [4] ?_
          intro k hk; simp -dsimp (maxSteps := 2000000) [go_sem, -decide_eq_true_eq, -decide_eq_false_iff_not]
          repeat' (first | refine And.intro ?_ ?_ | refine hk _ ?_ | (intro hg; try simp only [decide_eq_true_eq, decide_eq_false_iff_not] at hg) | omega | exact True.intro)
          all_goals clear hk k
          refine AW.retF (ow := []) (muts := []) ?_ (fun h => And.intro (.inr rfl) h)
          simp [go_sem, Try.results15])
      · intro hc; try simp [subz_neg, subz_nn] at hc
        all_goals try (exfalso; omega; done)
        all_goals (
          refine AW.skipN (fun _ h => h) ?_
          have bj : j.sz ≤ 1048576 := by grind [subz]
          have hjz : j.sure.length + j.loose.length ≤ 1048576 := by have := bj; unfold TJournal.sz at this; exact this
          have hcl : (cat [j.sure, j.loose]).length = j.sure.length + j.loose.length := by rw [cat_two, List.length_append]
          have bs : s.length ≤ 1048576 := by grind [subz]
          have hpl := pk_len s
          have hcl2 : (cat [j.loose, pk s]).length = j.loose.length + (s.length + 3) := by rw [cat_two, List.length_append, hpl]
          refine AW.reg tiOk (fun _ => []) [1, 2, 6, 45, 46, 47, 48] ?_
          intro k hk; simp -dsimp (maxSteps := 2000000) [go_sem, -decide_eq_true_eq, -decide_eq_false_iff_not]
          repeat' (first | refine And.intro ?_ ?_ | refine hk _ ?_ | (intro hg; try simp only [decide_eq_true_eq, decide_eq_false_iff_not] at hg) | (refine CallK.intro (dc_laws_toJournal j bj) ?_; simp -dsimp (maxSteps := 2000000) [go_sem, -decide_eq_true_eq, -decide_eq_false_iff_not]) | (refine CallK.intro (dc_spec_AppendLine_bigo j s bj bs hj hl h1 hb) ?_; simp -dsimp (maxSteps := 2000000) [go_sem, -decide_eq_true_eq, -decide_eq_false_iff_not]) | omega | exact True.intro)
          all_goals clear hk k
          refine AW.reg tiOk (fun _ => []) [1, 2, 6, 7, 45, 46, 47, 48] ?_
          intro k hk; simp -dsimp (maxSteps := 2000000) [go_sem, -decide_eq_true_eq, -decide_eq_false_iff_not]
          repeat' (first | refine And.intro ?_ ?_ | refine hk _ ?_ | (intro hg; try simp only [decide_eq_true_eq, decide_eq_false_iff_not] at hg) | (refine CallK.intro (dc_laws_toJournal j bj) ?_; simp -dsimp (maxSteps := 2000000) [go_sem, -decide_eq_true_eq, -decide_eq_false_iff_not]) | omega | exact True.intro)
          all_goals clear hk k
          refine AW.reg tiOk (fun _ => []) [1, 2, 6, 7, 8, 45, 46, 47, 48] ?_
          intro k hk; simp -dsimp (maxSteps := 2000000) [go_sem, -decide_eq_true_eq, -decide_eq_false_iff_not]
          repeat' (first | refine And.intro ?_ ?_ | refine hk _ ?_ | (intro hg; try simp only [decide_eq_true_eq, decide_eq_false_iff_not] at hg) | (refine CallK.intro (dc_impl_AppendLine_bigo j s bj bs (by rw [fc2 hj]; exact hl) h1 hb) ?_; simp -dsimp (maxSteps := 2000000) [go_sem, -decide_eq_true_eq, -decide_eq_false_iff_not]) | omega | exact True.intro)
          all_goals clear hk k
          refine AW.seq ?_
          refine AW.reg tiOk (fun _ => []) [1, 2, 6, 7, 8, 33, 45, 46, 47, 48] ?_
          intro k hk; simp -dsimp (maxSteps := 2000000) [go_sem, -decide_eq_true_eq, -decide_eq_false_iff_not]
          repeat' (first | refine And.intro ?_ ?_ | refine hk _ ?_ | (intro hg; try simp only [decide_eq_true_eq, decide_eq_false_iff_not] at hg) | (refine CallK.intro (dc_laws_eqJournalResult (⟨2, 0, ⟨[], []⟩⟩ : TJournalResult) (⟨2, 0, ⟨[], []⟩⟩ : TJournalResult) (by simp [TJournalResult.gok, TJournal.gok] <;> omega)) ?_; simp -dsimp (maxSteps := 2000000) [go_sem, -decide_eq_true_eq, -decide_eq_false_iff_not]) | omega | exact True.intro)
          all_goals clear hk k
          refine AW.cond rfl ?_ ?_
          · intro hc; try simp [subz_neg, subz_nn] at hc
            all_goals try (exfalso; omega; done)
            all_goals (
              refine AW.reg tiOk (fun _ => []) [4] ?_
              intro k hk; simp -dsimp (maxSteps := 2000000) [go_sem, -decide_eq_true_eq, -decide_eq_false_iff_not]
              repeat' (first | refine And.intro ?_ ?_ | refine hk _ ?_ | (intro hg; try simp only [decide_eq_true_eq, decide_eq_false_iff_not] at hg) | omega | exact True.intro)
              all_goals clear hk k
              refine AW.retF (ow := []) (muts := []) ?_ (fun h => And.intro (.inr rfl) h)
              simp [go_sem, Try.results15])
          · intro hc; try simp [subz_neg, subz_nn] at hc
            all_goals try (exfalso; omega; done)
            all_goals (
              refine AW.skipN (fun _ h => h) ?_
              refine AW.seq ?_
              refine AW.reg tiOk (fun _ => []) [1, 2, 6, 7, 8, 38, 45, 46, 47, 48] ?_
              intro k hk; simp -dsimp (maxSteps := 2000000) [go_sem, -decide_eq_true_eq, -decide_eq_false_iff_not]
              repeat' (first | refine And.intro ?_ ?_ | (refine Chk.keys ?_; simp only [go_sem, List.map_cons, List.map_nil, List.flatMap_cons, List.flatMap_nil, List.flatMap_append, List.append_nil, List.nil_append, List.cons_append]; decide +kernel) | refine hk _ ?_ | (intro hg; try simp only [decide_eq_true_eq, decide_eq_false_iff_not] at hg) | (refine CallK.intro (dc_laws_toJournal j bj) ?_; simp -dsimp (maxSteps := 2000000) [go_sem, -decide_eq_true_eq, -decide_eq_false_iff_not]) | (refine CallK.intro (dc_laws_eqJournal j j gj) ?_; simp -dsimp (maxSteps := 2000000) [go_sem, -decide_eq_true_eq, -decide_eq_false_iff_not]) | omega | exact True.intro)
              all_goals clear hk k
              refine AW.cond rfl ?_ ?_
              · intro hc; try simp [subz_neg, subz_nn] at hc
                all_goals try (exfalso; omega; done)
                all_goals (
                  refine AW.reg tiOk (fun _ => []) [4] ?_
                  intro k hk; simp -dsimp (maxSteps := 2000000) [go_sem, -decide_eq_true_eq, -decide_eq_false_iff_not]
                  repeat' (first | refine And.intro ?_ ?_ | refine hk _ ?_ | (intro hg; try simp only [decide_eq_true_eq, decide_eq_false_iff_not] at hg) | omega | exact True.intro)
                  all_goals clear hk k
                  refine AW.retF (ow := []) (muts := []) ?_ (fun h => And.intro (.inr rfl) h)
                  simp [go_sem, Try.results15])
              · intro hc; try simp [subz_neg, subz_nn] at hc
                all_goals try (exfalso; omega; done)
                all_goals (
                  refine AW.skipN (fun _ h => h) ?_
                  refine AW.reg tiOk (fun _ => []) [1, 2, 6, 7, 8, 9, 45, 46, 47, 48] ?_
                  intro k hk; simp -dsimp (maxSteps := 2000000) [go_sem, -decide_eq_true_eq, -decide_eq_false_iff_not]
                  repeat' (first | refine And.intro ?_ ?_ | refine hk _ ?_ | (intro hg; try simp only [decide_eq_true_eq, decide_eq_false_iff_not] at hg) | omega | exact True.intro)
                  all_goals clear hk k
                  refine AW.reg tiOk (fun _ => [0]) [1, 2, 6, 8, 9, 45, 46, 47, 48] ?_
                  intro k hk; simp -dsimp (maxSteps := 2000000) [go_sem, -decide_eq_true_eq, -decide_eq_false_iff_not]
                  repeat' (first | refine And.intro ?_ ?_ | refine hk _ ?_ | (intro hg; try simp only [decide_eq_true_eq, decide_eq_false_iff_not] at hg) | (refine CallK.intro (dc_laws_markJournal_oo j.sure j.loose 1 (by constructor <;> omega)) ?_; simp -dsimp (maxSteps := 2000000) [go_sem, -decide_eq_true_eq, -decide_eq_false_iff_not]) | omega | exact True.intro)
                  all_goals clear hk k
                  refine AW.seq ?_
                  refine AW.reg tiOk (fun _ => []) [1, 2, 6, 8, 49] ?_
                  intro k hk; simp +contextual -dsimp (maxSteps := 2000000) [go_sem, -decide_eq_true_eq, -decide_eq_false_iff_not]
                  repeat' (first | refine And.intro ?_ ?_ | refine hk _ ?_ | (intro hg; try simp only [decide_eq_true_eq, decide_eq_false_iff_not] at hg) | (refine CallK.intro (dc_laws_eqJournalResult (⟨2, 0, ⟨[], []⟩⟩ : TJournalResult) (⟨2, 0, ⟨[], []⟩⟩ : TJournalResult) (by simp [TJournalResult.gok, TJournal.gok] <;> omega)) ?_; simp +contextual -dsimp (maxSteps := 2000000) [go_sem, -decide_eq_true_eq, -decide_eq_false_iff_not]) | omega | exact True.intro)
                  all_goals clear hk k
                  all_goals (
                    refine AW.cond rfl ?_ ?_
                    · intro hc; try simp [subz_neg, subz_nn] at hc
                      all_goals try (exfalso; omega; done)
                      all_goals (
                        refine AW.reg tiOk (fun _ => []) [4] ?_
                        intro k hk; simp -dsimp (maxSteps := 2000000) [go_sem, -decide_eq_true_eq, -decide_eq_false_iff_not]
                        repeat' (first | refine And.intro ?_ ?_ | refine hk _ ?_ | (intro hg; try simp only [decide_eq_true_eq, decide_eq_false_iff_not] at hg) | omega | exact True.intro)
                        all_goals clear hk k
                        refine AW.retF (ow := []) (muts := []) ?_ (fun h => And.intro (.inr rfl) h)
                        simp [go_sem, Try.results15])
                    · intro hc; try simp [subz_neg, subz_nn] at hc
                      all_goals try (exfalso; omega; done)
                      all_goals (
                        refine AW.skipN (fun _ h => h) ?_
                        refine AW.reg tiOk (fun _ => []) [1, 2, 6, 8, 10] ?_
                        intro k hk; simp -dsimp (maxSteps := 2000000) [go_sem, -decide_eq_true_eq, -decide_eq_false_iff_not]
                        repeat' (first | refine And.intro ?_ ?_ | refine hk _ ?_ | (intro hg; try simp only [decide_eq_true_eq, decide_eq_false_iff_not] at hg) | omega | exact True.intro)
                        all_goals clear hk k
                        refine AW.reg tiOk (fun _ => [0]) [1, 2, 6, 8, 10] ?_
                        intro k hk; simp -dsimp (maxSteps := 2000000) [go_sem, -decide_eq_true_eq, -decide_eq_false_iff_not]
                        repeat' (first | refine And.intro ?_ ?_ | refine hk _ ?_ | (intro hg; try simp only [decide_eq_true_eq, decide_eq_false_iff_not] at hg) | (refine CallK.intro (dc_laws_markJournalResult_nn (2) (0) 1 (by constructor <;> omega)) ?_; simp -dsimp (maxSteps := 2000000) [go_sem, -decide_eq_true_eq, -decide_eq_false_iff_not]) | omega | exact True.intro)
                        all_goals clear hk k
                        refine AW.reg tiOk (fun _ => []) [1, 2, 6, 8, 10, 11] ?_
                        intro k hk; simp -dsimp (maxSteps := 2000000) [go_sem, -decide_eq_true_eq, -decide_eq_false_iff_not]
                        repeat' (first | refine And.intro ?_ ?_ | refine hk _ ?_ | (intro hg; try simp only [decide_eq_true_eq, decide_eq_false_iff_not] at hg) | omega | exact True.intro)
                        all_goals clear hk k
                        refine AW.reg tiOk (fun _ => []) [1, 2, 6, 8, 10, 11] ?_
                        intro k hk; simp -dsimp (maxSteps := 2000000) [go_sem, -decide_eq_true_eq, -decide_eq_false_iff_not]
                        repeat' (first | refine And.intro ?_ ?_ | refine hk _ ?_ | (intro hg; try simp only [decide_eq_true_eq, decide_eq_false_iff_not] at hg) | (refine CallK.intro (dc_laws_heldJournalResult_nn (2) (0) 1 (by constructor <;> omega)) ?_; simp -dsimp (maxSteps := 2000000) [go_sem, -decide_eq_true_eq, -decide_eq_false_iff_not]) | omega | exact True.intro)
                        all_goals clear hk k
                        refine AW.seq ?_
                        refine AW.reg tiOk (fun _ => []) [1, 2, 6, 8, 10, 11, 57] ?_
                        intro k hk; simp -dsimp (maxSteps := 2000000) [go_sem, -decide_eq_true_eq, -decide_eq_false_iff_not]
                        repeat' (first | refine And.intro ?_ ?_ | refine hk _ ?_ | (intro hg; try simp only [decide_eq_true_eq, decide_eq_false_iff_not] at hg) | omega | exact True.intro)
                        all_goals clear hk k
                        refine AW.cond rfl ?_ ?_
                        · intro hc; try simp [subz_neg, subz_nn] at hc
                          all_goals try (exfalso; omega; done)
                          all_goals (
                            refine AW.reg tiOk (fun _ => []) [4] ?_
                            intro k hk; simp -dsimp (maxSteps := 2000000) [go_sem, -decide_eq_true_eq, -decide_eq_false_iff_not]
                            repeat' (first | refine And.intro ?_ ?_ | refine hk _ ?_ | (intro hg; try simp only [decide_eq_true_eq, decide_eq_false_iff_not] at hg) | omega | exact True.intro)
                            all_goals clear hk k
                            refine AW.retF (ow := []) (muts := []) ?_ (fun h => And.intro (.inr rfl) h)
                            simp [go_sem, Try.results15])
                        · intro hc; try simp [subz_neg, subz_nn] at hc
                          all_goals try (exfalso; omega; done)
                          all_goals (
                            refine AW.skipN (fun _ h => h) ?_
                            refine AW.seq ?_
                            refine AW.reg tiOk (fun _ => []) [1, 2, 6, 8, 10, 60] ?_
                            intro k hk; simp -dsimp (maxSteps := 2000000) [go_sem, -decide_eq_true_eq, -decide_eq_false_iff_not]
                            repeat' (first | refine And.intro ?_ ?_ | refine hk _ ?_ | (intro hg; try simp only [decide_eq_true_eq, decide_eq_false_iff_not] at hg) | omega | exact True.intro)
                            all_goals clear hk k
                            refine AW.cond rfl ?_ ?_
                            · intro hc; try simp [subz_neg, subz_nn] at hc
                              all_goals try (exfalso; omega; done)
                              all_goals (
                                refine AW.reg tiOk (fun _ => []) [4] ?_
                                intro k hk; simp -dsimp (maxSteps := 2000000) [go_sem, -decide_eq_true_eq, -decide_eq_false_iff_not]
                                repeat' (first | refine And.intro ?_ ?_ | refine hk _ ?_ | (intro hg; try simp only [decide_eq_true_eq, decide_eq_false_iff_not] at hg) | omega | exact True.intro)
                                all_goals clear hk k
                                refine AW.retF (ow := []) (muts := []) ?_ (fun h => And.intro (.inr rfl) h)
                                simp [go_sem, Try.results15])
                            · intro hc; try simp [subz_neg, subz_nn] at hc
                              all_goals try (exfalso; omega; done)
                              all_goals (
                                refine AW.skipN (fun _ h => h) ?_
                                refine AW.reg tiOk (fun _ => []) [6, 8, 10, 12] ?_
                                intro k hk; simp -dsimp (maxSteps := 2000000) [go_sem, -decide_eq_true_eq, -decide_eq_false_iff_not]
                                repeat' (first | refine And.intro ?_ ?_ | refine hk _ ?_ | (intro hg; try simp only [decide_eq_true_eq, decide_eq_false_iff_not] at hg) | (refine CallK.intro (dc_laws_toJournal j bj) ?_; simp -dsimp (maxSteps := 2000000) [go_sem, -decide_eq_true_eq, -decide_eq_false_iff_not]) | (refine CallK.intro (dc_impl_AppendLine_bigo j s bj bs (by rw [fc2 hj]; exact hl) h1 hb) ?_; simp -dsimp (maxSteps := 2000000) [go_sem, -decide_eq_true_eq, -decide_eq_false_iff_not]) | omega | exact True.intro)
                                all_goals clear hk k
                                refine AW.seq ?_
                                refine AW.reg tiOk (fun _ => []) [8, 10, 68] ?_
                                intro k hk; simp -dsimp (maxSteps := 2000000) [go_sem, -decide_eq_true_eq, -decide_eq_false_iff_not]
                                repeat' (first | refine And.intro ?_ ?_ | refine hk _ ?_ | (intro hg; try simp only [decide_eq_true_eq, decide_eq_false_iff_not] at hg) | (refine CallK.intro (dc_laws_eqJournalResult (⟨2, 0, ⟨[], []⟩⟩ : TJournalResult) (⟨2, 0, ⟨[], []⟩⟩ : TJournalResult) (by simp [TJournalResult.gok, TJournal.gok] <;> omega)) ?_; simp -dsimp (maxSteps := 2000000) [go_sem, -decide_eq_true_eq, -decide_eq_false_iff_not]) | omega | exact True.intro)
                                all_goals clear hk k
                                refine AW.cond rfl ?_ ?_
                                · intro hc; try simp [subz_neg, subz_nn] at hc
                                  all_goals try (exfalso; omega; done)
                                  all_goals (
                                    refine AW.reg tiOk (fun _ => []) [4] ?_
                                    intro k hk; simp -dsimp (maxSteps := 2000000) [go_sem, -decide_eq_true_eq, -decide_eq_false_iff_not]
                                    repeat' (first | refine And.intro ?_ ?_ | refine hk _ ?_ | (intro hg; try simp only [decide_eq_true_eq, decide_eq_false_iff_not] at hg) | omega | exact True.intro)
                                    all_goals clear hk k
                                    refine AW.retF (ow := []) (muts := []) ?_ (fun h => And.intro (.inr rfl) h)
                                    simp [go_sem, Try.results15])
                                · intro hc; try simp [subz_neg, subz_nn] at hc
                                  all_goals try (exfalso; omega; done)
                                  all_goals (
                                    refine AW.skipN (fun _ h => h) ?_
                                    refine AW.reg tiOk (fun _ => []) [8, 10, 11] ?_
                                    intro k hk; simp -dsimp (maxSteps := 2000000) [go_sem, -decide_eq_true_eq, -decide_eq_false_iff_not]
                                    repeat' (first | refine And.intro ?_ ?_ | refine hk _ ?_ | (intro hg; try simp only [decide_eq_true_eq, decide_eq_false_iff_not] at hg) | omega | exact True.intro)
                                    all_goals clear hk k
                                    refine AW.reg tiOk (fun _ => []) [10, 11] ?_
                                    intro k hk; simp -dsimp (maxSteps := 2000000) [go_sem, -decide_eq_true_eq, -decide_eq_false_iff_not]
                                    repeat' (first | refine And.intro ?_ ?_ | refine hk _ ?_ | (intro hg; try simp only [decide_eq_true_eq, decide_eq_false_iff_not] at hg) | (refine CallK.intro (dc_laws_heldJournalResult_nn (2) (0) 1 (by constructor <;> omega)) ?_; simp -dsimp (maxSteps := 2000000) [go_sem, -decide_eq_true_eq, -decide_eq_false_iff_not]) | omega | exact True.intro)
                                    all_goals clear hk k
                                    refine AW.seq ?_
                                    refine AW.reg tiOk (fun _ => []) [10, 11, 73] ?_
                                    intro k hk; simp -dsimp (maxSteps := 2000000) [go_sem, -decide_eq_true_eq, -decide_eq_false_iff_not]
                                    repeat' (first | refine And.intro ?_ ?_ | refine hk _ ?_ | (intro hg; try simp only [decide_eq_true_eq, decide_eq_false_iff_not] at hg) | omega | exact True.intro)
                                    all_goals clear hk k
                                    refine AW.cond rfl ?_ ?_
                                    · intro hc; try simp [subz_neg, subz_nn] at hc
                                      all_goals try (exfalso; omega; done)
                                      all_goals (
                                        refine AW.reg tiOk (fun _ => []) [4] ?_
                                        intro k hk; simp -dsimp (maxSteps := 2000000) [go_sem, -decide_eq_true_eq, -decide_eq_false_iff_not]
                                        repeat' (first | refine And.intro ?_ ?_ | refine hk _ ?_ | (intro hg; try simp only [decide_eq_true_eq, decide_eq_false_iff_not] at hg) | omega | exact True.intro)
                                        all_goals clear hk k
                                        refine AW.retF (ow := []) (muts := []) ?_ (fun h => And.intro (.inr rfl) h)
                                        simp [go_sem, Try.results15])
                                    · intro hc; try simp [subz_neg, subz_nn] at hc
                                      all_goals try (exfalso; omega; done)
                                      all_goals (
                                        refine AW.skipN (fun _ h => h) ?_
                                        refine AW.seq ?_
                                        refine AW.reg tiOk (fun _ => []) [76] ?_
                                        intro k hk; simp -dsimp (maxSteps := 2000000) [go_sem, -decide_eq_true_eq, -decide_eq_false_iff_not]
                                        repeat' (first | refine And.intro ?_ ?_ | refine hk _ ?_ | (intro hg; try simp only [decide_eq_true_eq, decide_eq_false_iff_not] at hg) | omega | exact True.intro)
                                        all_goals clear hk k
                                        refine AW.cond rfl ?_ ?_
                                        · intro hc; try simp [subz_neg, subz_nn] at hc
                                          all_goals try (exfalso; omega; done)
                                          all_goals (
                                            refine AW.reg tiOk (fun _ => []) [4] ?_
                                            intro k hk; simp -dsimp (maxSteps := 2000000) [go_sem, -decide_eq_true_eq, -decide_eq_false_iff_not]
                                            repeat' (first | refine And.intro ?_ ?_ | refine hk _ ?_ | (intro hg; try simp only [decide_eq_true_eq, decide_eq_false_iff_not] at hg) | omega | exact True.intro)
                                            all_goals clear hk k
                                            refine AW.retF (ow := []) (muts := []) ?_ (fun h => And.intro (.inr rfl) h)
                                            simp [go_sem, Try.results15])
                                        · intro hc; try simp [subz_neg, subz_nn] at hc
                                          all_goals try (exfalso; omega; done)
                                          all_goals (
                                            refine AW.skipN (fun _ h => h) ?_
                                            refine AW.reg tiOk (fun _ => []) [4] ?_
                                            intro k hk; simp -dsimp (maxSteps := 2000000) [go_sem, -decide_eq_true_eq, -decide_eq_false_iff_not]
                                            repeat' (first | refine And.intro ?_ ?_ | refine hk _ ?_ | (intro hg; try simp only [decide_eq_true_eq, decide_eq_false_iff_not] at hg) | omega | exact True.intro)
                                            all_goals clear hk k
                                            refine AW.retF (ow := []) (muts := []) ?_ (fun h => And.intro (.inr rfl) h)
                                            simp [go_sem, Try.results15])))))))))))

set_option maxHeartbeats 20000000 in
set_option linter.unusedSimpArgs false in
set_option maxRecDepth 100000 in
/-- laws.FnExactAppendLine -/
theorem dc_laws_FnExactAppendLine_okn (j : TJournal) (gj : j.gok) (s : List UInt8) (gs : s.length ≤ 9223372036854775807) (hj : jouF j = 0) (hl : lineF s = 0) (h1 : j.sure = []) (hb : j.sure.length + (cat [j.loose, pk s]).length ≤ 2400) : DC Try.prog 15 [.agg j.ro, .str s] (.bool true) [] := by
  refine DC.intro tiOk Try.func15 rfl rfl rfl rfl rfl rfl rfl rfl [] ?_
  refine AW.reg tiOk (fun _ => []) [1, 2, 45, 46, 47, 48] ?_
  intro k hk; simp -dsimp (maxSteps := 2000000) [go_sem, -decide_eq_true_eq, -decide_eq_false_iff_not]
  repeat' (first | refine And.intro ?_ ?_ | refine hk _ ?_ | (intro hg; try simp only [decide_eq_true_eq, decide_eq_false_iff_not] at hg) | omega | exact True.intro)
  all_goals clear hk k
  refine AW.seq ?_
  refine AW.reg tiOk (fun _ => []) [1, 2, 15, 45, 46, 47, 48] ?_
  intro k hk; simp -dsimp (maxSteps := 2000000) [go_sem, -decide_eq_true_eq, -decide_eq_false_iff_not]
  repeat' (first | refine And.intro ?_ ?_ | refine hk _ ?_ | (intro hg; try simp only [decide_eq_true_eq, decide_eq_false_iff_not] at hg) | omega | exact True.intro)
  all_goals clear hk k
  refine AW.cond rfl ?_ ?_
  · intro hc; try simp [subz_neg, subz_nn] at hc
    all_goals try (exfalso; omega; done)
    all_goals (
      refine AW.reg tiOk (fun _ => []) [4] ?_
      intro k hk; simp -dsimp (maxSteps := 2000000) [go_sem, -decide_eq_true_eq, -decide_eq_false_iff_not]
      repeat' (first | refine And.intro ?_ ?_ | refine hk _ ?_ | (intro hg; try simp only [decide_eq_true_eq, decide_eq_false_iff_not] at hg) | omega | exact True.intro)
      all_goals clear hk k
      refine AW.retF (ow := []) (muts := []) ?_ (fun h => And.intro (.inr rfl) h)
      simp [go_sem, Try.results15])
  · intro hc; try simp [subz_neg, subz_nn] at hc
    all_goals try (exfalso; omega; done)
    all_goals (
      refine AW.skipN (fun _ h => h) ?_
      refine AW.reg tiOk (fun _ => []) [1, 2, 5, 45, 46, 47, 48] ?_
      intro k hk; simp -dsimp (maxSteps := 2000000) [go_sem, -decide_eq_true_eq, -decide_eq_false_iff_not]
      repeat' (first | refine And.intro ?_ ?_ | refine hk _ ?_ | (intro hg; try simp only [decide_eq_true_eq, decide_eq_false_iff_not] at hg) | omega | exact True.intro)
      all_goals clear hk k
      refine AW.reg tiOk (fun _ => []) [1, 2, 5, 45, 46, 47, 48] ?_
      intro k hk; simp -dsimp (maxSteps := 2000000) [go_sem, -decide_eq_true_eq, -decide_eq_false_iff_not]
      repeat' (first | refine And.intro ?_ ?_ | refine hk _ ?_ | (intro hg; try simp only [decide_eq_true_eq, decide_eq_false_iff_not] at hg) | (refine CallK.intro (dc_laws_szJournal _ _ (by first | assumption | (constructor <;> first | assumption | omega | grind [subz])) (by assumption)) ?_; simp -dsimp (maxSteps := 2000000) [go_sem, -decide_eq_true_eq, -decide_eq_false_iff_not]) | omega | exact True.intro)
      all_goals clear hk k
      refine AW.seq ?_
      refine AW.reg tiOk (fun _ => []) [1, 2, 20, 45, 46, 47, 48] ?_
      intro k hk; simp -dsimp (maxSteps := 2000000) [go_sem, -decide_eq_true_eq, -decide_eq_false_iff_not]
      repeat' (first | refine And.intro ?_ ?_ | refine hk _ ?_ | (intro hg; try simp only [decide_eq_true_eq, decide_eq_false_iff_not] at hg) | omega | exact True.intro)
      all_goals clear hk k
      refine AW.cond rfl ?_ ?_
      · intro hc; try simp [subz_neg, subz_nn] at hc
        all_goals try (exfalso; omega; done)
        all_goals (
          refine AW.reg tiOk (fun _ => []) [4] ?_
          intro k hk; simp -dsimp (maxSteps := 2000000) [go_sem, -decide_eq_true_eq, -decide_eq_false_iff_not]
          repeat' (first | refine And.intro ?_ ?_ | refine hk _ ?_ | (intro hg; try simp only [decide_eq_true_eq, decide_eq_false_iff_not] at hg) | omega | exact True.intro)
          all_goals clear hk k
          refine AW.retF (ow := []) (muts := []) ?_ (fun h => And.intro (.inr rfl) h)
          simp [go_sem, Try.results15])
      · intro hc; try simp [subz_neg, subz_nn] at hc
        all_goals try (exfalso; omega; done)
        all_goals (
          refine AW.skipN (fun _ h => h) ?_
          have bj : j.sz ≤ 1048576 := by grind [subz]
          have hjz : j.sure.length + j.loose.length ≤ 1048576 := by have := bj; unfold TJournal.sz at this; exact this
          have hcl : (cat [j.sure, j.loose]).length = j.sure.length + j.loose.length := by rw [cat_two, List.length_append]
          have bs : s.length ≤ 1048576 := by grind [subz]
          have hpl := pk_len s
          have hcl2 : (cat [j.loose, pk s]).length = j.loose.length + (s.length + 3) := by rw [cat_two, List.length_append, hpl]
          refine AW.reg tiOk (fun _ => []) [1, 2, 6, 45, 46, 47, 48] ?_
          intro k hk; simp -dsimp (maxSteps := 2000000) [go_sem, -decide_eq_true_eq, -decide_eq_false_iff_not]
          repeat' (first | refine And.intro ?_ ?_ | refine hk _ ?_ | (intro hg; try simp only [decide_eq_true_eq, decide_eq_false_iff_not] at hg) | (refine CallK.intro (dc_laws_toJournal j bj) ?_; simp -dsimp (maxSteps := 2000000) [go_sem, -decide_eq_true_eq, -decide_eq_false_iff_not]) | (refine CallK.intro (dc_spec_AppendLine_okn j s bj bs hj hl h1 hb) ?_; simp -dsimp (maxSteps := 2000000) [go_sem, -decide_eq_true_eq, -decide_eq_false_iff_not]) | omega | exact True.intro)
          all_goals clear hk k
          refine AW.reg tiOk (fun _ => []) [1, 2, 6, 7, 45, 46, 47, 48] ?_
          intro k hk; simp -dsimp (maxSteps := 2000000) [go_sem, -decide_eq_true_eq, -decide_eq_false_iff_not]
          repeat' (first | refine And.intro ?_ ?_ | refine hk _ ?_ | (intro hg; try simp only [decide_eq_true_eq, decide_eq_false_iff_not] at hg) | (refine CallK.intro (dc_laws_toJournal j bj) ?_; simp -dsimp (maxSteps := 2000000) [go_sem, -decide_eq_true_eq, -decide_eq_false_iff_not]) | omega | exact True.intro)
          all_goals clear hk k
          refine AW.reg tiOk (fun _ => []) [1, 2, 6, 7, 8, 45, 46, 47, 48] ?_
          intro k hk; simp -dsimp (maxSteps := 2000000) [go_sem, -decide_eq_true_eq, -decide_eq_false_iff_not]
          repeat' (first | refine And.intro ?_ ?_ | refine hk _ ?_ | (intro hg; try simp only [decide_eq_true_eq, decide_eq_false_iff_not] at hg) | (refine CallK.intro (dc_impl_AppendLine_okn j s bj bs (by rw [fc2 hj]; exact hl) h1 hb) ?_; simp -dsimp (maxSteps := 2000000) [go_sem, -decide_eq_true_eq, -decide_eq_false_iff_not]) | omega | exact True.intro)
          all_goals clear hk k
          refine AW.seq ?_
          refine AW.reg tiOk (fun _ => []) [1, 2, 6, 7, 8, 33, 45, 46, 47, 48] ?_
          intro k hk; simp -dsimp (maxSteps := 2000000) [go_sem, -decide_eq_true_eq, -decide_eq_false_iff_not]
          repeat' (first | refine And.intro ?_ ?_ | refine hk _ ?_ | (intro hg; try simp only [decide_eq_true_eq, decide_eq_false_iff_not] at hg) | (refine CallK.intro (dc_laws_eqJournalResult (⟨0, ((rd (cat [j.sure, (cat [j.loose, pk s])])).1.length : Int), ⟨[], (cat [j.loose, pk s])⟩⟩ : TJournalResult) (⟨0, ((rd (cat [j.sure, (cat [j.loose, pk s])])).1.length : Int), ⟨[], (cat [j.loose, pk s])⟩⟩ : TJournalResult) (by simp [TJournalResult.gok, TJournal.gok] <;> omega)) ?_; simp -dsimp (maxSteps := 2000000) [go_sem, -decide_eq_true_eq, -decide_eq_false_iff_not]) | omega | exact True.intro)
          all_goals clear hk k
          refine AW.cond rfl ?_ ?_
          · intro hc; try simp [subz_neg, subz_nn] at hc
            all_goals try (exfalso; omega; done)
            all_goals (
              refine AW.reg tiOk (fun _ => []) [4] ?_
              intro k hk; simp -dsimp (maxSteps := 2000000) [go_sem, -decide_eq_true_eq, -decide_eq_false_iff_not]
              repeat' (first | refine And.intro ?_ ?_ | refine hk _ ?_ | (intro hg; try simp only [decide_eq_true_eq, decide_eq_false_iff_not] at hg) | omega | exact True.intro)
              all_goals clear hk k
              refine AW.retF (ow := []) (muts := []) ?_ (fun h => And.intro (.inr rfl) h)
              simp [go_sem, Try.results15])
          · intro hc; try simp [subz_neg, subz_nn] at hc
            all_goals try (exfalso; omega; done)
            all_goals (
              refine AW.skipN (fun _ h => h) ?_
              refine AW.seq ?_
              refine AW.reg tiOk (fun _ => []) [1, 2, 6, 7, 8, 38, 45, 46, 47, 48] ?_
              intro k hk; simp -dsimp (maxSteps := 2000000) [go_sem, -decide_eq_true_eq, -decide_eq_false_iff_not]
              repeat' (first | refine And.intro ?_ ?_ | (refine Chk.keys ?_; simp only [go_sem, List.map_cons, List.map_nil, List.flatMap_cons, List.flatMap_nil, List.flatMap_append, List.append_nil, List.nil_append, List.cons_append]; decide +kernel) | refine hk _ ?_ | (intro hg; try simp only [decide_eq_true_eq, decide_eq_false_iff_not] at hg) | (refine CallK.intro (dc_laws_toJournal j bj) ?_; simp -dsimp (maxSteps := 2000000) [go_sem, -decide_eq_true_eq, -decide_eq_false_iff_not]) | (refine CallK.intro (dc_laws_eqJournal j j gj) ?_; simp -dsimp (maxSteps := 2000000) [go_sem, -decide_eq_true_eq, -decide_eq_false_iff_not]) | omega | exact True.intro)
              all_goals clear hk k
              refine AW.cond rfl ?_ ?_
              · intro hc; try simp [subz_neg, subz_nn] at hc
                all_goals try (exfalso; omega; done)
                all_goals (
                  refine AW.reg tiOk (fun _ => []) [4] ?_
                  intro k hk; simp -dsimp (maxSteps := 2000000) [go_sem, -decide_eq_true_eq, -decide_eq_false_iff_not]
                  repeat' (first | refine And.intro ?_ ?_ | refine hk _ ?_ | (intro hg; try simp only [decide_eq_true_eq, decide_eq_false_iff_not] at hg) | omega | exact True.intro)
                  all_goals clear hk k
                  refine AW.retF (ow := []) (muts := []) ?_ (fun h => And.intro (.inr rfl) h)
                  simp [go_sem, Try.results15])
              · intro hc; try simp [subz_neg, subz_nn] at hc
                all_goals try (exfalso; omega; done)
                all_goals (
                  refine AW.skipN (fun _ h => h) ?_
                  refine AW.reg tiOk (fun _ => []) [1, 2, 6, 7, 8, 9, 45, 46, 47, 48] ?_
                  intro k hk; simp -dsimp (maxSteps := 2000000) [go_sem, -decide_eq_true_eq, -decide_eq_false_iff_not]
                  repeat' (first | refine And.intro ?_ ?_ | refine hk _ ?_ | (intro hg; try simp only [decide_eq_true_eq, decide_eq_false_iff_not] at hg) | omega | exact True.intro)
                  all_goals clear hk k
                  refine AW.reg tiOk (fun _ => [0]) [1, 2, 6, 8, 9, 45, 46, 47, 48] ?_
                  intro k hk; simp -dsimp (maxSteps := 2000000) [go_sem, -decide_eq_true_eq, -decide_eq_false_iff_not]
                  repeat' (first | refine And.intro ?_ ?_ | refine hk _ ?_ | (intro hg; try simp only [decide_eq_true_eq, decide_eq_false_iff_not] at hg) | (refine CallK.intro (dc_laws_markJournal_oo j.sure j.loose 1 (by constructor <;> omega)) ?_; simp -dsimp (maxSteps := 2000000) [go_sem, -decide_eq_true_eq, -decide_eq_false_iff_not]) | omega | exact True.intro)
                  all_goals clear hk k
                  refine AW.seq ?_
                  refine AW.reg tiOk (fun _ => []) [1, 2, 6, 8, 49] ?_
                  intro k hk; simp +contextual -dsimp (maxSteps := 2000000) [go_sem, -decide_eq_true_eq, -decide_eq_false_iff_not]
                  repeat' (first | refine And.intro ?_ ?_ | refine hk _ ?_ | (intro hg; try simp only [decide_eq_true_eq, decide_eq_false_iff_not] at hg) | (refine CallK.intro (dc_laws_eqJournalResult (⟨0, ((rd (cat [j.sure, (cat [j.loose, pk s])])).1.length : Int), ⟨[], (cat [j.loose, pk s])⟩⟩ : TJournalResult) (⟨0, ((rd (cat [j.sure, (cat [j.loose, pk s])])).1.length : Int), ⟨[], (cat [j.loose, pk s])⟩⟩ : TJournalResult) (by simp [TJournalResult.gok, TJournal.gok] <;> omega)) ?_; simp +contextual -dsimp (maxSteps := 2000000) [go_sem, -decide_eq_true_eq, -decide_eq_false_iff_not]) | omega | exact True.intro)
                  all_goals clear hk k
                  all_goals (
                    refine AW.cond rfl ?_ ?_
                    · intro hc; try simp [subz_neg, subz_nn] at hc
                      all_goals try (exfalso; omega; done)
                      all_goals (
                        refine AW.reg tiOk (fun _ => []) [4] ?_
                        intro k hk; simp -dsimp (maxSteps := 2000000) [go_sem, -decide_eq_true_eq, -decide_eq_false_iff_not]
                        repeat' (first | refine And.intro ?_ ?_ | refine hk _ ?_ | (intro hg; try simp only [decide_eq_true_eq, decide_eq_false_iff_not] at hg) | omega | exact True.intro)
                        all_goals clear hk k
                        refine AW.retF (ow := []) (muts := []) ?_ (fun h => And.intro (.inr rfl) h)
                        simp [go_sem, Try.results15])
                    · intro hc; try simp [subz_neg, subz_nn] at hc
                      all_goals try (exfalso; omega; done)
                      all_goals (
                        refine AW.skipN (fun _ h => h) ?_
                        refine AW.reg tiOk (fun _ => []) [1, 2, 6, 8, 10] ?_
                        intro k hk; simp -dsimp (maxSteps := 2000000) [go_sem, -decide_eq_true_eq, -decide_eq_false_iff_not]
                        repeat' (first | refine And.intro ?_ ?_ | refine hk _ ?_ | (intro hg; try simp only [decide_eq_true_eq, decide_eq_false_iff_not] at hg) | omega | exact True.intro)
                        all_goals clear hk k
                        refine AW.reg tiOk (fun _ => [0]) [1, 2, 6, 8, 10] ?_
                        intro k hk; simp -dsimp (maxSteps := 2000000) [go_sem, -decide_eq_true_eq, -decide_eq_false_iff_not]
                        repeat' (first | refine And.intro ?_ ?_ | refine hk _ ?_ | (intro hg; try simp only [decide_eq_true_eq, decide_eq_false_iff_not] at hg) | (refine CallK.intro (dc_laws_markJournalResult_no (0) (((rd (cat [j.sure, (cat [j.loose, pk s])])).1.length : Int)) ((cat [j.loose, pk s])) 1 (by constructor <;> omega)) ?_; simp -dsimp (maxSteps := 2000000) [go_sem, -decide_eq_true_eq, -decide_eq_false_iff_not]) | omega | exact True.intro)
                        all_goals clear hk k
                        refine AW.reg tiOk (fun _ => []) [1, 2, 6, 8, 10, 11] ?_
                        intro k hk; simp -dsimp (maxSteps := 2000000) [go_sem, -decide_eq_true_eq, -decide_eq_false_iff_not]
                        repeat' (first | refine And.intro ?_ ?_ | refine hk _ ?_ | (intro hg; try simp only [decide_eq_true_eq, decide_eq_false_iff_not] at hg) | omega | exact True.intro)
                        all_goals clear hk k
                        refine AW.reg tiOk (fun _ => []) [1, 2, 6, 8, 10, 11] ?_
                        intro k hk; simp -dsimp (maxSteps := 2000000) [go_sem, -decide_eq_true_eq, -decide_eq_false_iff_not]
                        repeat' (first | refine And.intro ?_ ?_ | refine hk _ ?_ | (intro hg; try simp only [decide_eq_true_eq, decide_eq_false_iff_not] at hg) | (refine CallK.intro (dc_laws_heldJournalResult_no (0) (((rd (cat [j.sure, (cat [j.loose, pk s])])).1.length : Int)) ((cat [j.loose, pk s])).length 1 (by constructor <;> omega)) ?_; simp -dsimp (maxSteps := 2000000) [go_sem, -decide_eq_true_eq, -decide_eq_false_iff_not]) | omega | exact True.intro)
                        all_goals clear hk k
                        refine AW.seq ?_
                        refine AW.reg tiOk (fun _ => []) [1, 2, 6, 8, 10, 11, 57] ?_
                        intro k hk; simp -dsimp (maxSteps := 2000000) [go_sem, -decide_eq_true_eq, -decide_eq_false_iff_not]
                        repeat' (first | refine And.intro ?_ ?_ | refine hk _ ?_ | (intro hg; try simp only [decide_eq_true_eq, decide_eq_false_iff_not] at hg) | omega | exact True.intro)
                        all_goals clear hk k
                        refine AW.cond rfl ?_ ?_
                        · intro hc; try simp [subz_neg, subz_nn] at hc
                          all_goals try (exfalso; omega; done)
                          all_goals (
                            refine AW.reg tiOk (fun _ => []) [4] ?_
                            intro k hk; simp -dsimp (maxSteps := 2000000) [go_sem, -decide_eq_true_eq, -decide_eq_false_iff_not]
                            repeat' (first | refine And.intro ?_ ?_ | refine hk _ ?_ | (intro hg; try simp only [decide_eq_true_eq, decide_eq_false_iff_not] at hg) | omega | exact True.intro)
                            all_goals clear hk k
                            refine AW.retF (ow := []) (muts := []) ?_ (fun h => And.intro (.inr rfl) h)
                            simp [go_sem, Try.results15])
                        · intro hc; try simp [subz_neg, subz_nn] at hc
                          all_goals try (exfalso; omega; done)
                          all_goals (
                            refine AW.skipN (fun _ h => h) ?_
                            refine AW.seq ?_
                            refine AW.reg tiOk (fun _ => []) [1, 2, 6, 8, 10, 60] ?_
                            intro k hk; simp -dsimp (maxSteps := 2000000) [go_sem, -decide_eq_true_eq, -decide_eq_false_iff_not]
                            repeat' (first | refine And.intro ?_ ?_ | refine hk _ ?_ | (intro hg; try simp only [decide_eq_true_eq, decide_eq_false_iff_not] at hg) | omega | exact True.intro)
                            all_goals clear hk k
                            refine AW.cond rfl ?_ ?_
                            · intro hc; try simp [subz_neg, subz_nn] at hc
                              all_goals try (exfalso; omega; done)
                              all_goals (
                                refine AW.reg tiOk (fun _ => []) [4] ?_
                                intro k hk; simp -dsimp (maxSteps := 2000000) [go_sem, -decide_eq_true_eq, -decide_eq_false_iff_not]
                                repeat' (first | refine And.intro ?_ ?_ | refine hk _ ?_ | (intro hg; try simp only [decide_eq_true_eq, decide_eq_false_iff_not] at hg) | omega | exact True.intro)
                                all_goals clear hk k
                                refine AW.retF (ow := []) (muts := []) ?_ (fun h => And.intro (.inr rfl) h)
                                simp [go_sem, Try.results15])
                            · intro hc; try simp [subz_neg, subz_nn] at hc
                              all_goals try (exfalso; omega; done)
                              all_goals (
                                refine AW.skipN (fun _ h => h) ?_
                                refine AW.reg tiOk (fun _ => []) [6, 8, 10, 12] ?_
                                intro k hk; simp -dsimp (maxSteps := 2000000) [go_sem, -decide_eq_true_eq, -decide_eq_false_iff_not]
                                repeat' (first | refine And.intro ?_ ?_ | refine hk _ ?_ | (intro hg; try simp only [decide_eq_true_eq, decide_eq_false_iff_not] at hg) | (refine CallK.intro (dc_laws_toJournal j bj) ?_; simp -dsimp (maxSteps := 2000000) [go_sem, -decide_eq_true_eq, -decide_eq_false_iff_not]) | (refine CallK.intro (dc_impl_AppendLine_okn j s bj bs (by rw [fc2 hj]; exact hl) h1 hb) ?_; simp -dsimp (maxSteps := 2000000) [go_sem, -decide_eq_true_eq, -decide_eq_false_iff_not]) | omega | exact True.intro)
                                all_goals clear hk k
                                refine AW.seq ?_
                                refine AW.reg tiOk (fun _ => []) [8, 10, 68] ?_
                                intro k hk; simp -dsimp (maxSteps := 2000000) [go_sem, -decide_eq_true_eq, -decide_eq_false_iff_not]
                                repeat' (first | refine And.intro ?_ ?_ | refine hk _ ?_ | (intro hg; try simp only [decide_eq_true_eq, decide_eq_false_iff_not] at hg) | (refine CallK.intro (dc_laws_eqJournalResult (⟨0, ((rd (cat [j.sure, (cat [j.loose, pk s])])).1.length : Int), ⟨[], (cat [j.loose, pk s])⟩⟩ : TJournalResult) (⟨0, ((rd (cat [j.sure, (cat [j.loose, pk s])])).1.length : Int), ⟨[], (cat [j.loose, pk s])⟩⟩ : TJournalResult) (by simp [TJournalResult.gok, TJournal.gok] <;> omega)) ?_; simp -dsimp (maxSteps := 2000000) [go_sem, -decide_eq_true_eq, -decide_eq_false_iff_not]) | omega | exact True.intro)
                                all_goals clear hk k
                                refine AW.cond rfl ?_ ?_
                                · intro hc; try simp [subz_neg, subz_nn] at hc
                                  all_goals try (exfalso; omega; done)
                                  all_goals (
                                    refine AW.reg tiOk (fun _ => []) [4] ?_
                                    intro k hk; simp -dsimp (maxSteps := 2000000) [go_sem, -decide_eq_true_eq, -decide_eq_false_iff_not]
                                    repeat' (first | refine And.intro ?_ ?_ | refine hk _ ?_ | (intro hg; try simp only [decide_eq_true_eq, decide_eq_false_iff_not] at hg) | omega | exact True.intro)
                                    all_goals clear hk k
                                    refine AW.retF (ow := []) (muts := []) ?_ (fun h => And.intro (.inr rfl) h)
                                    simp [go_sem, Try.results15])
                                · intro hc; try simp [subz_neg, subz_nn] at hc
                                  all_goals try (exfalso; omega; done)
                                  all_goals (
                                    refine AW.skipN (fun _ h => h) ?_
                                    refine AW.reg tiOk (fun _ => []) [8, 10, 11] ?_
                                    intro k hk; simp -dsimp (maxSteps := 2000000) [go_sem, -decide_eq_true_eq, -decide_eq_false_iff_not]
                                    repeat' (first | refine And.intro ?_ ?_ | refine hk _ ?_ | (intro hg; try simp only [decide_eq_true_eq, decide_eq_false_iff_not] at hg) | omega | exact True.intro)
                                    all_goals clear hk k
                                    refine AW.reg tiOk (fun _ => []) [10, 11] ?_
                                    intro k hk; simp -dsimp (maxSteps := 2000000) [go_sem, -decide_eq_true_eq, -decide_eq_false_iff_not]
                                    repeat' (first | refine And.intro ?_ ?_ | refine hk _ ?_ | (intro hg; try simp only [decide_eq_true_eq, decide_eq_false_iff_not] at hg) | (refine CallK.intro (dc_laws_heldJournalResult_no (0) (((rd (cat [j.sure, (cat [j.loose, pk s])])).1.length : Int)) ((cat [j.loose, pk s])).length 1 (by constructor <;> omega)) ?_; simp -dsimp (maxSteps := 2000000) [go_sem, -decide_eq_true_eq, -decide_eq_false_iff_not]) | omega | exact True.intro)
                                    all_goals clear hk k
                                    refine AW.seq ?_
                                    refine AW.reg tiOk (fun _ => []) [10, 11, 73] ?_
                                    intro k hk; simp -dsimp (maxSteps := 2000000) [go_sem, -decide_eq_true_eq, -decide_eq_false_iff_not]
                                    repeat' (first | refine And.intro ?_ ?_ | refine hk _ ?_ | (intro hg; try simp only [decide_eq_true_eq, decide_eq_false_iff_not] at hg) | omega | exact True.intro)
                                    all_goals clear hk k
                                    refine AW.cond rfl ?_ ?_
                                    · intro hc; try simp [subz_neg, subz_nn] at hc
                                      all_goals try (exfalso; omega; done)
                                      all_goals (
                                        refine AW.reg tiOk (fun _ => []) [4] ?_
                                        intro k hk; simp -dsimp (maxSteps := 2000000) [go_sem, -decide_eq_true_eq, -decide_eq_false_iff_not]
                                        repeat' (first | refine And.intro ?_ ?_ | refine hk _ ?_ | (intro hg; try simp only [decide_eq_true_eq, decide_eq_false_iff_not] at hg) | omega | exact True.intro)
                                        all_goals clear hk k
                                        refine AW.retF (ow := []) (muts := []) ?_ (fun h => And.intro (.inr rfl) h)
                                        simp [go_sem, Try.results15])
                                    · intro hc; try simp [subz_neg, subz_nn] at hc
                                      all_goals try (exfalso; omega; done)
                                      all_goals (
                                        refine AW.skipN (fun _ h => h) ?_
                                        refine AW.seq ?_
                                        refine AW.reg tiOk (fun _ => []) [76] ?_
                                        intro k hk; simp -dsimp (maxSteps := 2000000) [go_sem, -decide_eq_true_eq, -decide_eq_false_iff_not]
                                        repeat' (first | refine And.intro ?_ ?_ | refine hk _ ?_ | (intro hg; try simp only [decide_eq_true_eq, decide_eq_false_iff_not] at hg) | omega | exact True.intro)
                                        all_goals clear hk k
                                        refine AW.cond rfl ?_ ?_
                                        · intro hc; try simp [subz_neg, subz_nn] at hc
                                          all_goals try (exfalso; omega; done)
                                          all_goals (
                                            refine AW.reg tiOk (fun _ => []) [4] ?_
                                            intro k hk; simp -dsimp (maxSteps := 2000000) [go_sem, -decide_eq_true_eq, -decide_eq_false_iff_not]
                                            repeat' (first | refine And.intro ?_ ?_ | refine hk _ ?_ | (intro hg; try simp only [decide_eq_true_eq, decide_eq_false_iff_not] at hg) | omega | exact True.intro)
                                            all_goals clear hk k
                                            refine AW.retF (ow := []) (muts := []) ?_ (fun h => And.intro (.inr rfl) h)
                                            simp [go_sem, Try.results15])
                                        · intro hc; try simp [subz_neg, subz_nn] at hc
                                          all_goals try (exfalso; omega; done)
                                          all_goals (
                                            refine AW.skipN (fun _ h => h) ?_
                                            refine AW.reg tiOk (fun _ => []) [4] ?_
                                            intro k hk; simp -dsimp (maxSteps := 2000000) [go_sem, -decide_eq_true_eq, -decide_eq_false_iff_not]
                                            repeat' (first | refine And.intro ?_ ?_ | refine hk _ ?_ | (intro hg; try simp only [decide_eq_true_eq, decide_eq_false_iff_not] at hg) | omega | exact True.intro)
                                            all_goals clear hk k
                                            refine AW.retF (ow := []) (muts := []) ?_ (fun h => And.intro (.inr rfl) h)
                                            simp [go_sem, Try.results15])))))))))))

set_option maxHeartbeats 20000000 in
set_option linter.unusedSimpArgs false in
set_option maxRecDepth 100000 in
/-- laws.FnExactAppendLine -/
theorem dc_laws_FnExactAppendLine_oko (j : TJournal) (gj : j.gok) (s : List UInt8) (gs : s.length ≤ 9223372036854775807) (hj : jouF j = 0) (hl : lineF s = 0) (h1 : j.sure ≠ []) (hb : j.sure.length + (cat [j.loose, pk s]).length ≤ 2400) : DC Try.prog 15 [.agg j.ro, .str s] (.bool true) [] := by
  refine DC.intro tiOk Try.func15 rfl rfl rfl rfl rfl rfl rfl rfl [] ?_
  refine AW.reg tiOk (fun _ => []) [1, 2, 45, 46, 47, 48] ?_
  intro k hk; simp -dsimp (maxSteps := 2000000) [go_sem, -decide_eq_true_eq, -decide_eq_false_iff_not]
  repeat' (first | refine And.intro ?_ ?_ | refine hk _ ?_ | (intro hg; try simp only [decide_eq_true_eq, decide_eq_false_iff_not] at hg) | omega | exact True.intro)
  all_goals clear hk k
  refine AW.seq ?_
  refine AW.reg tiOk (fun _ => []) [1, 2, 15, 45, 46, 47, 48] ?_
  intro k hk; simp -dsimp (maxSteps := 2000000) [go_sem, -decide_eq_true_eq, -decide_eq_false_iff_not]
  repeat' (first | refine And.intro ?_ ?_ | refine hk _ ?_ | (intro hg; try simp only [decide_eq_true_eq, decide_eq_false_iff_not] at hg) | omega | exact True.intro)
  all_goals clear hk k
  refine AW.cond rfl ?_ ?_
  · intro hc; try simp [subz_neg, subz_nn] at hc
    all_goals try (exfalso; omega; done)
    all_goals (
      refine AW.reg tiOk (fun _ => []) [4] ?_
      intro k hk; simp -dsimp (maxSteps := 2000000) [go_sem, -decide_eq_true_eq, -decide_eq_false_iff_not]
      repeat' (first | refine And.intro ?_ ?_ | refine hk _ ?_ | (intro hg; try simp only [decide_eq_true_eq, decide_eq_false_iff_not] at hg) | omega | exact True.intro)
      all_goals clear hk k
      refine AW.retF (ow := []) (muts := []) ?_ (fun h => And.intro (.inr rfl) h)
      simp [go_sem, Try.results15])
  · intro hc; try simp [subz_neg, subz_nn] at hc
    all_goals try (exfalso; omega; done)
    all_goals (
      refine AW.skipN (fun _ h => h) ?_
      refine AW.reg tiOk (fun _ => []) [1, 2, 5, 45, 46, 47, 48] ?_
      intro k hk; simp -dsimp (maxSteps := 2000000) [go_sem, -decide_eq_true_eq, -decide_eq_false_iff_not]
      repeat' (first | refine And.intro ?_ ?_ | refine hk _ ?_ | (intro hg; try simp only [decide_eq_true_eq, decide_eq_false_iff_not] at hg) | omega | exact True.intro)
      all_goals clear hk k
      refine AW.reg tiOk (fun _ => []) [1, 2, 5, 45, 46, 47, 48] ?_
      intro k hk; simp -dsimp (maxSteps := 2000000) [go_sem, -decide_eq_true_eq, -decide_eq_false_iff_not]
      repeat' (first | refine And.intro ?_ ?_ | refine hk _ ?_ | (intro hg; try simp only [decide_eq_true_eq, decide_eq_false_iff_not] at hg) | (refine CallK.intro (dc_laws_szJournal _ _ (by first | assumption | (constructor <;> first | assumption | omega | grind [subz])) (by assumption)) ?_; simp -dsimp (maxSteps := 2000000) [go_sem, -decide_eq_true_eq, -decide_eq_false_iff_not]) | omega | exact True.intro)
      all_goals clear hk k
      refine AW.seq ?_
      refine AW.reg tiOk (fun _ => []) [1, 2, 20, 45, 46, 47, 48] ?_
      intro k hk; simp -dsimp (maxSteps := 2000000) [go_sem, -decide_eq_true_eq, -decide_eq_false_iff_not]
      repeat' (first | refine And.intro ?_ ?_ | refine hk _ ?_ | (intro hg; try simp only [decide_eq_true_eq, decide_eq_false_iff_not] at hg) | omega | exact True.intro)
      all_goals clear hk k
      refine AW.cond rfl ?_ ?_
      · intro hc; try simp [subz_neg, subz_nn] at hc
        all_goals try (exfalso; omega; done)
        all_goals (
          refine AW.reg tiOk (fun _ => []) [4] ?_
          intro k hk; simp -dsimp (maxSteps := 2000000) [go_sem, -decide_eq_true_eq, -decide_eq_false_iff_not]
          repeat' (first | refine And.intro ?_ ?_ | refine hk _ ?_ | (intro hg; try simp only [decide_eq_true_eq, decide_eq_false_iff_not] at hg) | omega | exact True.intro)
          all_goals clear hk k
          refine AW.retF (ow := []) (muts := []) ?_ (fun h => And.intro (.inr rfl) h)
          simp [go_sem, Try.results15])
      · intro hc; try simp [subz_neg, subz_nn] at hc
        all_goals try (exfalso; omega; done)
        all_goals (
          refine AW.skipN (fun _ h => h) ?_
          have bj : j.sz ≤ 1048576 := by grind [subz]
          have hjz : j.sure.length + j.loose.length ≤ 1048576 := by have := bj; unfold TJournal.sz at this; exact this
          have hcl : (cat [j.sure, j.loose]).length = j.sure.length + j.loose.length := by rw [cat_two, List.length_append]
          have bs : s.length ≤ 1048576 := by grind [subz]
          have hpl := pk_len s
          have hcl2 : (cat [j.loose, pk s]).length = j.loose.length + (s.length + 3) := by rw [cat_two, List.length_append, hpl]
          refine AW.reg tiOk (fun _ => []) [1, 2, 6, 45, 46, 47, 48] ?_
          intro k hk; simp -dsimp (maxSteps := 2000000) [go_sem, -decide_eq_true_eq, -decide_eq_false_iff_not]
          repeat' (first | refine And.intro ?_ ?_ | refine hk _ ?_ | (intro hg; try simp only [decide_eq_true_eq, decide_eq_false_iff_not] at hg) | (refine CallK.intro (dc_laws_toJournal j bj) ?_; simp -dsimp (maxSteps := 2000000) [go_sem, -decide_eq_true_eq, -decide_eq_false_iff_not]) | (refine CallK.intro (dc_spec_AppendLine_oko j s bj bs hj hl h1 hb) ?_; simp -dsimp (maxSteps := 2000000) [go_sem, -decide_eq_true_eq, -decide_eq_false_iff_not]) | omega | exact True.intro)
          all_goals clear hk k
          refine AW.reg tiOk (fun _ => []) [1, 2, 6, 7, 45, 46, 47, 48] ?_
          intro k hk; simp -dsimp (maxSteps := 2000000) [go_sem, -decide_eq_true_eq, -decide_eq_false_iff_not]
          repeat' (first | refine And.intro ?_ ?_ | refine hk _ ?_ | (intro hg; try simp only [decide_eq_true_eq, decide_eq_false_iff_not] at hg) | (refine CallK.intro (dc_laws_toJournal j bj) ?_; simp -dsimp (maxSteps := 2000000) [go_sem, -decide_eq_true_eq, -decide_eq_false_iff_not]) | omega | exact True.intro)
          all_goals clear hk k
          refine AW.reg tiOk (fun _ => []) [1, 2, 6, 7, 8, 45, 46, 47, 48] ?_
          intro k hk; simp -dsimp (maxSteps := 2000000) [go_sem, -decide_eq_true_eq, -decide_eq_false_iff_not]
          repeat' (first | refine And.intro ?_ ?_ | refine hk _ ?_ | (intro hg; try simp only [decide_eq_true_eq, decide_eq_false_iff_not] at hg) | (refine CallK.intro (dc_impl_AppendLine_oko j s bj bs (by rw [fc2 hj]; exact hl) h1 hb) ?_; simp -dsimp (maxSteps := 2000000) [go_sem, -decide_eq_true_eq, -decide_eq_false_iff_not]) | omega | exact True.intro)
          all_goals clear hk k
          refine AW.seq ?_
          refine AW.reg tiOk (fun _ => []) [1, 2, 6, 7, 8, 33, 45, 46, 47, 48] ?_
          intro k hk; simp -dsimp (maxSteps := 2000000) [go_sem, -decide_eq_true_eq, -decide_eq_false_iff_not]
          repeat' (first | refine And.intro ?_ ?_ | refine hk _ ?_ | (intro hg; try simp only [decide_eq_true_eq, decide_eq_false_iff_not] at hg) | (refine CallK.intro (dc_laws_eqJournalResult (⟨0, ((rd (cat [j.sure, (cat [j.loose, pk s])])).1.length : Int), ⟨j.sure, (cat [j.loose, pk s])⟩⟩ : TJournalResult) (⟨0, ((rd (cat [j.sure, (cat [j.loose, pk s])])).1.length : Int), ⟨j.sure, (cat [j.loose, pk s])⟩⟩ : TJournalResult) (by simp [TJournalResult.gok, TJournal.gok] <;> omega)) ?_; simp -dsimp (maxSteps := 2000000) [go_sem, -decide_eq_true_eq, -decide_eq_false_iff_not]) | omega | exact True.intro)
          all_goals clear hk k
          refine AW.cond rfl ?_ ?_
          · intro hc; try simp [subz_neg, subz_nn] at hc
            all_goals try (exfalso; omega; done)
            all_goals (
              refine AW.reg tiOk (fun _ => []) [4] ?_
              intro k hk; simp -dsimp (maxSteps := 2000000) [go_sem, -decide_eq_true_eq, -decide_eq_false_iff_not]
              repeat' (first | refine And.intro ?_ ?_ | refine hk _ ?_ | (intro hg; try simp only [decide_eq_true_eq, decide_eq_false_iff_not] at hg) | omega | exact True.intro)
              all_goals clear hk k
              refine AW.retF (ow := []) (muts := []) ?_ (fun h => And.intro (.inr rfl) h)
              simp [go_sem, Try.results15])
          · intro hc; try simp [subz_neg, subz_nn] at hc
            all_goals try (exfalso; omega; done)
            all_goals (
              refine AW.skipN (fun _ h => h) ?_
              refine AW.seq ?_
              refine AW.reg tiOk (fun _ => []) [1, 2, 6, 7, 8, 38, 45, 46, 47, 48] ?_
              intro k hk; simp -dsimp (maxSteps := 2000000) [go_sem, -decide_eq_true_eq, -decide_eq_false_iff_not]
              repeat' (first | refine And.intro ?_ ?_ | (refine Chk.keys ?_; simp only [go_sem, List.map_cons, List.map_nil, List.flatMap_cons, List.flatMap_nil, List.flatMap_append, List.append_nil, List.nil_append, List.cons_append]; decide +kernel) | refine hk _ ?_ | (intro hg; try simp only [decide_eq_true_eq, decide_eq_false_iff_not] at hg) | (refine CallK.intro (dc_laws_toJournal j bj) ?_; simp -dsimp (maxSteps := 2000000) [go_sem, -decide_eq_true_eq, -decide_eq_false_iff_not]) | (refine CallK.intro (dc_laws_eqJournal j j gj) ?_; simp -dsimp (maxSteps := 2000000) [go_sem, -decide_eq_true_eq, -decide_eq_false_iff_not]) | omega | exact True.intro)
              all_goals clear hk k
              refine AW.cond rfl ?_ ?_
              · intro hc; try simp [subz_neg, subz_nn] at hc
                all_goals try (exfalso; omega; done)
                all_goals (
                  refine AW.reg tiOk (fun _ => []) [4] ?_
                  intro k hk; simp -dsimp (maxSteps := 2000000) [go_sem, -decide_eq_true_eq, -decide_eq_false_iff_not]
                  repeat' (first | refine And.intro ?_ ?_ | refine hk _ ?_ | (intro hg; try simp only [decide_eq_true_eq, decide_eq_false_iff_not] at hg) | omega | exact True.intro)
                  all_goals clear hk k
                  refine AW.retF (ow := []) (muts := []) ?_ (fun h => And.intro (.inr rfl) h)
                  simp [go_sem, Try.results15])
              · intro hc; try simp [subz_neg, subz_nn] at hc
                all_goals try (exfalso; omega; done)
                all_goals (
                  refine AW.skipN (fun _ h => h) ?_
                  refine AW.reg tiOk (fun _ => []) [1, 2, 6, 7, 8, 9, 45, 46, 47, 48] ?_
                  intro k hk; simp -dsimp (maxSteps := 2000000) [go_sem, -decide_eq_true_eq, -decide_eq_false_iff_not]
                  repeat' (first | refine And.intro ?_ ?_ | refine hk _ ?_ | (intro hg; try simp only [decide_eq_true_eq, decide_eq_false_iff_not] at hg) | omega | exact True.intro)
                  all_goals clear hk k
                  refine AW.reg tiOk (fun _ => [0]) [1, 2, 6, 8, 9, 45, 46, 47, 48] ?_
                  intro k hk; simp -dsimp (maxSteps := 2000000) [go_sem, -decide_eq_true_eq, -decide_eq_false_iff_not]
                  repeat' (first | refine And.intro ?_ ?_ | refine hk _ ?_ | (intro hg; try simp only [decide_eq_true_eq, decide_eq_false_iff_not] at hg) | (refine CallK.intro (dc_laws_markJournal_oo j.sure j.loose 1 (by constructor <;> omega)) ?_; simp -dsimp (maxSteps := 2000000) [go_sem, -decide_eq_true_eq, -decide_eq_false_iff_not]) | omega | exact True.intro)
                  all_goals clear hk k
                  refine AW.seq ?_
                  refine AW.reg tiOk (fun _ => []) [1, 2, 6, 8, 49] ?_
                  intro k hk; simp +contextual -dsimp (maxSteps := 2000000) [go_sem, -decide_eq_true_eq, -decide_eq_false_iff_not]
                  repeat' (first | refine And.intro ?_ ?_ | refine hk _ ?_ | (intro hg; try simp only [decide_eq_true_eq, decide_eq_false_iff_not] at hg) | (refine CallK.intro (dc_laws_eqJournalResult (⟨0, ((rd (cat [j.sure, (cat [j.loose, pk s])])).1.length : Int), ⟨j.sure, (cat [j.loose, pk s])⟩⟩ : TJournalResult) (⟨0, ((rd (cat [j.sure, (cat [j.loose, pk s])])).1.length : Int), ⟨j.sure, (cat [j.loose, pk s])⟩⟩ : TJournalResult) (by simp [TJournalResult.gok, TJournal.gok] <;> omega)) ?_; simp +contextual -dsimp (maxSteps := 2000000) [go_sem, -decide_eq_true_eq, -decide_eq_false_iff_not]) | omega | exact True.intro)
                  all_goals clear hk k
                  all_goals (
                    refine AW.cond rfl ?_ ?_
                    · intro hc; try simp [subz_neg, subz_nn] at hc
                      all_goals try (exfalso; omega; done)
                      all_goals (
                        refine AW.reg tiOk (fun _ => []) [4] ?_
                        intro k hk; simp -dsimp (maxSteps := 2000000) [go_sem, -decide_eq_true_eq, -decide_eq_false_iff_not]
                        repeat' (first | refine And.intro ?_ ?_ | refine hk _ ?_ | (intro hg; try simp only [decide_eq_true_eq, decide_eq_false_iff_not] at hg) | omega | exact True.intro)
                        all_goals clear hk k
                        refine AW.retF (ow := []) (muts := []) ?_ (fun h => And.intro (.inr rfl) h)
                        simp [go_sem, Try.results15])
                    · intro hc; try simp [subz_neg, subz_nn] at hc
                      all_goals try (exfalso; omega; done)
                      all_goals (
                        refine AW.skipN (fun _ h => h) ?_
                        refine AW.reg tiOk (fun _ => []) [1, 2, 6, 8, 10] ?_
                        intro k hk; simp -dsimp (maxSteps := 2000000) [go_sem, -decide_eq_true_eq, -decide_eq_false_iff_not]
                        repeat' (first | refine And.intro ?_ ?_ | refine hk _ ?_ | (intro hg; try simp only [decide_eq_true_eq, decide_eq_false_iff_not] at hg) | omega | exact True.intro)
                        all_goals clear hk k
                        refine AW.reg tiOk (fun _ => [0]) [1, 2, 6, 8, 10] ?_
                        intro k hk; simp -dsimp (maxSteps := 2000000) [go_sem, -decide_eq_true_eq, -decide_eq_false_iff_not]
                        repeat' (first | refine And.intro ?_ ?_ | refine hk _ ?_ | (intro hg; try simp only [decide_eq_true_eq, decide_eq_false_iff_not] at hg) | (refine CallK.intro (dc_laws_markJournalResult_oo (0) (((rd (cat [j.sure, (cat [j.loose, pk s])])).1.length : Int)) (j.sure) ((cat [j.loose, pk s])) 1 (by constructor <;> omega)) ?_; simp -dsimp (maxSteps := 2000000) [go_sem, -decide_eq_true_eq, -decide_eq_false_iff_not]) | omega | exact True.intro)
                        all_goals clear hk k
                        refine AW.reg tiOk (fun _ => []) [1, 2, 6, 8, 10, 11] ?_
                        intro k hk; simp -dsimp (maxSteps := 2000000) [go_sem, -decide_eq_true_eq, -decide_eq_false_iff_not]
                        repeat' (first | refine And.intro ?_ ?_ | refine hk _ ?_ | (intro hg; try simp only [decide_eq_true_eq, decide_eq_false_iff_not] at hg) | omega | exact True.intro)
                        all_goals clear hk k
                        refine AW.reg tiOk (fun _ => []) [1, 2, 6, 8, 10, 11] ?_
                        intro k hk; simp -dsimp (maxSteps := 2000000) [go_sem, -decide_eq_true_eq, -decide_eq_false_iff_not]
                        repeat' (first | refine And.intro ?_ ?_ | refine hk _ ?_ | (intro hg; try simp only [decide_eq_true_eq, decide_eq_false_iff_not] at hg) | (refine CallK.intro (dc_laws_heldJournalResult_oo (0) (((rd (cat [j.sure, (cat [j.loose, pk s])])).1.length : Int)) (j.sure).length ((cat [j.loose, pk s])).length 1 (by constructor <;> omega)) ?_; simp -dsimp (maxSteps := 2000000) [go_sem, -decide_eq_true_eq, -decide_eq_false_iff_not]) | omega | exact True.intro)
                        all_goals clear hk k
                        refine AW.seq ?_
                        refine AW.reg tiOk (fun _ => []) [1, 2, 6, 8, 10, 11, 57] ?_
                        intro k hk; simp -dsimp (maxSteps := 2000000) [go_sem, -decide_eq_true_eq, -decide_eq_false_iff_not]
                        repeat' (first | refine And.intro ?_ ?_ | refine hk _ ?_ | (intro hg; try simp only [decide_eq_true_eq, decide_eq_false_iff_not] at hg) | omega | exact True.intro)
                        all_goals clear hk k
                        refine AW.cond rfl ?_ ?_
                        · intro hc; try simp [subz_neg, subz_nn] at hc
                          all_goals try (exfalso; omega; done)
                          all_goals (
                            refine AW.reg tiOk (fun _ => []) [4] ?_
                            intro k hk; simp -dsimp (maxSteps := 2000000) [go_sem, -decide_eq_true_eq, -decide_eq_false_iff_not]
                            repeat' (first | refine And.intro ?_ ?_ | refine hk _ ?_ | (intro hg; try simp only [decide_eq_true_eq, decide_eq_false_iff_not] at hg) | omega | exact True.intro)
                            all_goals clear hk k
                            refine AW.retF (ow := []) (muts := []) ?_ (fun h => And.intro (.inr rfl) h)
                            simp [go_sem, Try.results15])
                        · intro hc; try simp [subz_neg, subz_nn] at hc
                          all_goals try (exfalso; omega; done)
                          all_goals (
                            refine AW.skipN (fun _ h => h) ?_
                            refine AW.seq ?_
                            refine AW.reg tiOk (fun _ => []) [1, 2, 6, 8, 10, 60] ?_
                            intro k hk; simp -dsimp (maxSteps := 2000000) [go_sem, -decide_eq_true_eq, -decide_eq_false_iff_not]
                            repeat' (first | refine And.intro ?_ ?_ | refine hk _ ?_ | (intro hg; try simp only [decide_eq_true_eq, decide_eq_false_iff_not] at hg) | omega | exact True.intro)
                            all_goals clear hk k
                            refine AW.cond rfl ?_ ?_
                            · intro hc; try simp [subz_neg, subz_nn] at hc
                              all_goals try (exfalso; omega; done)
                              all_goals (
                                refine AW.reg tiOk (fun _ => []) [4] ?_
                                intro k hk; simp -dsimp (maxSteps := 2000000) [go_sem, -decide_eq_true_eq, -decide_eq_false_iff_not]
                                repeat' (first | refine And.intro ?_ ?_ | refine hk _ ?_ | (intro hg; try simp only [decide_eq_true_eq, decide_eq_false_iff_not] at hg) | omega | exact True.intro)
                                all_goals clear hk k
                                refine AW.retF (ow := []) (muts := []) ?_ (fun h => And.intro (.inr rfl) h)
                                simp [go_sem, Try.results15])
                            · intro hc; try simp [subz_neg, subz_nn] at hc
                              all_goals try (exfalso; omega; done)
                              all_goals (
                                refine AW.skipN (fun _ h => h) ?_
                                refine AW.reg tiOk (fun _ => []) [6, 8, 10, 12] ?_
                                intro k hk; simp -dsimp (maxSteps := 2000000) [go_sem, -decide_eq_true_eq, -decide_eq_false_iff_not]
                                repeat' (first | refine And.intro ?_ ?_ | refine hk _ ?_ | (intro hg; try simp only [decide_eq_true_eq, decide_eq_false_iff_not] at hg) | (refine CallK.intro (dc_laws_toJournal j bj) ?_; simp -dsimp (maxSteps := 2000000) [go_sem, -decide_eq_true_eq, -decide_eq_false_iff_not]) | (refine CallK.intro (dc_impl_AppendLine_oko j s bj bs (by rw [fc2 hj]; exact hl) h1 hb) ?_; simp -dsimp (maxSteps := 2000000) [go_sem, -decide_eq_true_eq, -decide_eq_false_iff_not]) | omega | exact True.intro)
                                all_goals clear hk k
                                refine AW.seq ?_
                                refine AW.reg tiOk (fun _ => []) [8, 10, 68] ?_
                                intro k hk; simp -dsimp (maxSteps := 2000000) [go_sem, -decide_eq_true_eq, -decide_eq_false_iff_not]
                                repeat' (first | refine And.intro ?_ ?_ | refine hk _ ?_ | (intro hg; try simp only [decide_eq_true_eq, decide_eq_false_iff_not] at hg) | (refine CallK.intro (dc_laws_eqJournalResult (⟨0, ((rd (cat [j.sure, (cat [j.loose, pk s])])).1.length : Int), ⟨j.sure, (cat [j.loose, pk s])⟩⟩ : TJournalResult) (⟨0, ((rd (cat [j.sure, (cat [j.loose, pk s])])).1.length : Int), ⟨j.sure, (cat [j.loose, pk s])⟩⟩ : TJournalResult) (by simp [TJournalResult.gok, TJournal.gok] <;> omega)) ?_; simp -dsimp (maxSteps := 2000000) [go_sem, -decide_eq_true_eq, -decide_eq_false_iff_not]) | omega | exact True.intro)
                                all_goals clear hk k
                                refine AW.cond rfl ?_ ?_
                                · intro hc; try simp [subz_neg, subz_nn] at hc
                                  all_goals try (exfalso; omega; done)
                                  all_goals (
                                    refine AW.reg tiOk (fun _ => []) [4] ?_
                                    intro k hk; simp -dsimp (maxSteps := 2000000) [go_sem, -decide_eq_true_eq, -decide_eq_false_iff_not]
                                    repeat' (first | refine And.intro ?_ ?_ | refine hk _ ?_ | (intro hg; try simp only [decide_eq_true_eq, decide_eq_false_iff_not] at hg) | omega | exact True.intro)
                                    all_goals clear hk k
                                    refine AW.retF (ow := []) (muts := []) ?_ (fun h => And.intro (.inr rfl) h)
                                    simp [go_sem, Try.results15])
                                · intro hc; try simp [subz_neg, subz_nn] at hc
                                  all_goals try (exfalso; omega; done)
                                  all_goals (
                                    refine AW.skipN (fun _ h => h) ?_
                                    refine AW.reg tiOk (fun _ => []) [8, 10, 11] ?_
                                    intro k hk; simp -dsimp (maxSteps := 2000000) [go_sem, -decide_eq_true_eq, -decide_eq_false_iff_not]
                                    repeat' (first | refine And.intro ?_ ?_ | refine hk _ ?_ | (intro hg; try simp only [decide_eq_true_eq, decide_eq_false_iff_not] at hg) | omega | exact True.intro)
                                    all_goals clear hk k
                                    refine AW.reg tiOk (fun _ => []) [10, 11] ?_
                                    intro k hk; simp -dsimp (maxSteps := 2000000) [go_sem, -decide_eq_true_eq, -decide_eq_false_iff_not]
                                    repeat' (first | refine And.intro ?_ ?_ | refine hk _ ?_ | (intro hg; try simp only [decide_eq_true_eq, decide_eq_false_iff_not] at hg) | (refine CallK.intro (dc_laws_heldJournalResult_oo (0) (((rd (cat [j.sure, (cat [j.loose, pk s])])).1.length : Int)) (j.sure).length ((cat [j.loose, pk s])).length 1 (by constructor <;> omega)) ?_; simp -dsimp (maxSteps := 2000000) [go_sem, -decide_eq_true_eq, -decide_eq_false_iff_not]) | omega | exact True.intro)
                                    all_goals clear hk k
                                    refine AW.seq ?_
                                    refine AW.reg tiOk (fun _ => []) [10, 11, 73] ?_
                                    intro k hk; simp -dsimp (maxSteps := 2000000) [go_sem, -decide_eq_true_eq, -decide_eq_false_iff_not]
                                    repeat' (first | refine And.intro ?_ ?_ | refine hk _ ?_ | (intro hg; try simp only [decide_eq_true_eq, decide_eq_false_iff_not] at hg) | omega | exact True.intro)
                                    all_goals clear hk k
                                    refine AW.cond rfl ?_ ?_
                                    · intro hc; try simp [subz_neg, subz_nn] at hc
                                      all_goals try (exfalso; omega; done)
                                      all_goals (
                                        refine AW.reg tiOk (fun _ => []) [4] ?_
                                        intro k hk; simp -dsimp (maxSteps := 2000000) [go_sem, -decide_eq_true_eq, -decide_eq_false_iff_not]
                                        repeat' (first | refine And.intro ?_ ?_ | refine hk _ ?_ | (intro hg; try simp only [decide_eq_true_eq, decide_eq_false_iff_not] at hg) | omega | exact True.intro)
                                        all_goals clear hk k
                                        refine AW.retF (ow := []) (muts := []) ?_ (fun h => And.intro (.inr rfl) h)
                                        simp [go_sem, Try.results15])
                                    · intro hc; try simp [subz_neg, subz_nn] at hc
                                      all_goals try (exfalso; omega; done)
                                      all_goals (
                                        refine AW.skipN (fun _ h => h) ?_
                                        refine AW.seq ?_
                                        refine AW.reg tiOk (fun _ => []) [76] ?_
                                        intro k hk; simp -dsimp (maxSteps := 2000000) [go_sem, -decide_eq_true_eq, -decide_eq_false_iff_not]
                                        repeat' (first | refine And.intro ?_ ?_ | refine hk _ ?_ | (intro hg; try simp only [decide_eq_true_eq, decide_eq_false_iff_not] at hg) | omega | exact True.intro)
                                        all_goals clear hk k
                                        refine AW.cond rfl ?_ ?_
                                        · intro hc; try simp [subz_neg, subz_nn] at hc
                                          all_goals try (exfalso; omega; done)
                                          all_goals (
                                            refine AW.reg tiOk (fun _ => []) [4] ?_
                                            intro k hk; simp -dsimp (maxSteps := 2000000) [go_sem, -decide_eq_true_eq, -decide_eq_false_iff_not]
                                            repeat' (first | refine And.intro ?_ ?_ | refine hk _ ?_ | (intro hg; try simp only [decide_eq_true_eq, decide_eq_false_iff_not] at hg) | omega | exact True.intro)
                                            all_goals clear hk k
                                            refine AW.retF (ow := []) (muts := []) ?_ (fun h => And.intro (.inr rfl) h)
                                            simp [go_sem, Try.results15])
                                        · intro hc; try simp [subz_neg, subz_nn] at hc
                                          all_goals try (exfalso; omega; done)
                                          all_goals (
                                            refine AW.skipN (fun _ h => h) ?_
                                            refine AW.reg tiOk (fun _ => []) [4] ?_
                                            intro k hk; simp -dsimp (maxSteps := 2000000) [go_sem, -decide_eq_true_eq, -decide_eq_false_iff_not]
                                            repeat' (first | refine And.intro ?_ ?_ | refine hk _ ?_ | (intro hg; try simp only [decide_eq_true_eq, decide_eq_false_iff_not] at hg) | omega | exact True.intro)
                                            all_goals clear hk k
                                            refine AW.retF (ow := []) (muts := []) ?_ (fun h => And.intro (.inr rfl) h)
                                            simp [go_sem, Try.results15])))))))))))
theorem dc_laws_FnExactAppendLine (j : TJournal) (gj : j.gok) (s : List UInt8) (gs : s.length ≤ 9223372036854775807) : DC Try.prog 15 [.agg j.ro, .str s] (.bool true) [] := by
  by_cases hj : jouF j = 0
  · by_cases hl : lineF s = 0
    · by_cases h1 : j.sure = []
      · by_cases hb : 2400 < j.sure.length + (cat [j.loose, pk s]).length
        · exact dc_laws_FnExactAppendLine_bign j gj s gs hj hl h1 hb
        · exact dc_laws_FnExactAppendLine_okn j gj s gs hj hl h1 (by omega)
      · by_cases hb : 2400 < j.sure.length + (cat [j.loose, pk s]).length
        · exact dc_laws_FnExactAppendLine_bigo j gj s gs hj hl h1 hb
        · exact dc_laws_FnExactAppendLine_oko j gj s gs hj hl h1 (by omega)
    · exact dc_laws_FnExactAppendLine_bad2 j gj s gs hj hl
  · exact dc_laws_FnExactAppendLine_bad1 j gj s gs hj

end Go.AM
