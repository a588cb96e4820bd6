/- Joined texts: Nb. -/
import Derived.Test.YtiadiaglblfjpaaGreatB1
import Derived.Test.YtiadiaglblfjpaaGreatB2
import Derived.Test.YtiadiaglblfjpaaGreatB3
import Derived.Test.YtiadiaglblfjpaaGreatB4
import Derived.Test.YtiadiaglblfjpaaGreatB5
import Derived.Test.YtiadiaglblfjpaaGreatB6
set_option linter.unusedVariables false
set_option linter.unusedSimpArgs false
set_option maxHeartbeats 600000
set_option maxRecDepth 100000
namespace Go.AM
open Go.Proofs

set_option maxHeartbeats 20000000 in
/-- laws.FnExactClaimsOf -/
theorem dc_laws_FnExactClaimsOf_nil (d : TDesk) (gd : d.gok) (u : Int) (gu : -9223372036854775808 ≤ u ∧ u ≤ 9223372036854775807) (c : Int) (hcs : DC Tryz.prog 5 [.agg d.ro, .int .i64 u] (.agg [.int .i64 c, .isl 3 []]) []) (hci : DC Tryz.prog 7 [.agg d.ro, .int .i64 u] (.agg [.int .i64 c, .isl 3 []]) []) : DC Tryz.prog 3 [.agg d.ro, .int .i64 u] (.bool true) [] := by
 refine DC.intro tiOk Tryz.func3 rfl rfl rfl rfl rfl rfl rfl rfl [] ?_
 refine rgA [1,2] ?_
 refine rgA [1,2,5] ?_
 refine rg [1,2,5] ?_
 intro k hk; simp -dsimp (maxSteps := 2000000) [go_sem, -decide_eq_true_eq, -decide_eq_false_iff_not]
 repeat' first | apply And.intro | refine hk _ ?_ | intro hg | (refine CallK.intro (dc_laws_szDesk _ _ (by first | assumption | (constructor <;> first | assumption | omega | grind [subz])) (by assumption)) ?_; simp -dsimp (maxSteps := 2000000) [go_sem, -decide_eq_true_eq, -decide_eq_false_iff_not]) | omega | exact True.intro
 all_goals clear hk k
 refine AW.seq ?_
 refine rgA [1,2,17] ?_
 refine AW.cond rfl ?_ ?_
 ·intro hc; try simp [subz_neg, subz_nn] at hc
  all_goals try (exfalso; omega; done)
  all_goals (
   refine rgA [4] ?_
   refine rt ?_
   simp [go_sem, Tryz.results3])
 ·intro hc; try simp [subz_neg, subz_nn] at hc
  all_goals try (exfalso; omega; done)
  all_goals (
   refine AW.skipN (fun _ h => h) ?_
   have bd : d.sz ≤ 1048576 := by grind [subz]
   have bdz : d.engine.procs.length ≤ 1048576 ∧ mkPr d.engine.procs + mkI d.engine.insts + 3 * d.claims.length ≤ 20000000 := by have h1 := mkPr_sz d.engine.procs; have h2 := mkI_sz d.engine.insts; have := bd; unfold TDesk.sz TEngine.sz at this; omega
   refine rg [1,2,6] ?_
   intro k hk; simp -dsimp (maxSteps := 2000000) [go_sem, -decide_eq_true_eq, -decide_eq_false_iff_not]
   repeat' first | apply And.intro | refine hk _ ?_ | intro hg | ((first | refine CallK.intro (dc_laws_toDesk d bd) ?_ | refine CallK.intro (hcs) ?_); simp -dsimp (maxSteps := 2000000) [go_sem, -decide_eq_true_eq, -decide_eq_false_iff_not]) | omega | exact True.intro
   all_goals clear hk k
   refine rg [1,2,6,7] ?_
   intro k hk; simp -dsimp (maxSteps := 2000000) [go_sem, -decide_eq_true_eq, -decide_eq_false_iff_not]
   repeat' first | apply And.intro | refine hk _ ?_ | intro hg | (refine CallK.intro (dc_laws_toDesk d bd) ?_; simp -dsimp (maxSteps := 2000000) [go_sem, -decide_eq_true_eq, -decide_eq_false_iff_not]) | omega | exact True.intro
   all_goals clear hk k
   refine rg [1,2,6,7,8] ?_
   intro k hk; simp -dsimp (maxSteps := 2000000) [go_sem, -decide_eq_true_eq, -decide_eq_false_iff_not]
   repeat' first | apply And.intro | refine hk _ ?_ | intro hg | (refine CallK.intro (hci) ?_; simp -dsimp (maxSteps := 2000000) [go_sem, -decide_eq_true_eq, -decide_eq_false_iff_not]) | omega | exact True.intro
   all_goals clear hk k
   refine AW.seq ?_
   refine rg [1,2,6,7,8,30] ?_
   intro k hk; simp -dsimp (maxSteps := 2000000) [go_sem, -decide_eq_true_eq, -decide_eq_false_iff_not]
   repeat' first | apply And.intro | refine hk _ ?_ | intro hg | (refine CallK.intro (dc_laws_eqOfferResult (⟨c, []⟩ : TOfferResult) (⟨c, []⟩ : TOfferResult) (by simp [TOfferResult.gok] <;> omega)) ?_; simp -dsimp (maxSteps := 2000000) [go_sem, -decide_eq_true_eq, -decide_eq_false_iff_not]) | omega | exact True.intro
   all_goals clear hk k
   refine AW.cond rfl ?_ ?_
   ·intro hc; try simp [subz_neg, subz_nn] at hc
    all_goals try (exfalso; omega; done)
    all_goals (
     refine rgA [4] ?_
     refine rt ?_
     simp [go_sem, Tryz.results3])
   ·intro hc; try simp [subz_neg, subz_nn] at hc
    all_goals try (exfalso; omega; done)
    all_goals (
     refine AW.skipN (fun _ h => h) ?_
     refine AW.seq ?_
     refine rg [1,2,6,7,8,35] ?_
     intro k hk; simp -dsimp (maxSteps := 2000000) [go_sem, -decide_eq_true_eq, -decide_eq_false_iff_not]
     repeat' first | (refine Chk.keys ?_; simp only [go_sem, List.map_cons, List.map_nil, List.flatMap_cons, List.flatMap_nil, List.flatMap_append, List.append_nil, List.nil_append, List.cons_append]; decide +kernel) | apply And.intro | refine hk _ ?_ | intro hg | ((first | refine CallK.intro (dc_laws_toDesk d bd) ?_ | refine CallK.intro (dc_laws_eqDesk d d gd) ?_); simp -dsimp (maxSteps := 2000000) [go_sem, -decide_eq_true_eq, -decide_eq_false_iff_not]) | omega | exact True.intro
     all_goals clear hk k
     refine AW.cond rfl ?_ ?_
     ·intro hc; try simp [subz_neg, subz_nn] at hc
      all_goals try (exfalso; omega; done)
      all_goals (
       refine rgA [4] ?_
       refine rt ?_
       simp [go_sem, Tryz.results3])
     ·intro hc; try simp [subz_neg, subz_nn] at hc
      all_goals try (exfalso; omega; done)
      all_goals (
       refine AW.skipN (fun _ h => h) ?_
       refine rgA [1,2,6,7,8,9] ?_
       refine AW.reg tiOk (fun i => if i = 2 then [0] else []) [1,2,6,8,9] ?_
       intro k hk; simp -dsimp (maxSteps := 2000000) [go_sem, -decide_eq_true_eq, -decide_eq_false_iff_not]
       repeat' first | apply And.intro | refine hk _ ?_ | intro hg | (refine CallK.intro (dc_laws_markDesk_x d.engine.procs d.engine.insts d.engine.now d.claims 1 bdz.1 (by constructor <;> omega)) ?_; simp -dsimp (maxSteps := 2000000) [go_sem, -decide_eq_true_eq, -decide_eq_false_iff_not]) | omega | exact True.intro
       all_goals clear hk k
       refine AW.seq ?_
       refine rg [1,2,6,8,46] ?_
       intro k hk; simp +contextual -dsimp (maxSteps := 2000000) [go_sem, -decide_eq_true_eq, -decide_eq_false_iff_not]
       repeat' first | apply And.intro | refine hk _ ?_ | (intro hg; try simp only [decide_eq_true_eq, decide_eq_false_iff_not] at hg) | (refine CallK.intro (dc_laws_eqOfferResult (⟨c, []⟩ : TOfferResult) (⟨c, []⟩ : TOfferResult) (by simp [TOfferResult.gok] <;> omega)) ?_; simp +contextual -dsimp (maxSteps := 2000000) [go_sem, -decide_eq_true_eq, -decide_eq_false_iff_not]) | omega | exact True.intro
       all_goals clear hk k
       all_goals (
        refine AW.cond rfl ?_ ?_
        ·intro hc; try simp [subz_neg, subz_nn] at hc
         all_goals try (exfalso; omega; done)
         all_goals (
          refine rgA [4] ?_
          refine rt ?_
          simp [go_sem, Tryz.results3])
        ·intro hc; try simp [subz_neg, subz_nn] at hc
         all_goals try (exfalso; omega; done)
         all_goals (
          refine AW.skipN (fun _ h => h) ?_
          refine rgA [1,2,6,8,10] ?_
          refine AW.reg tiOk (fun _ => [0]) [1,2,6,8,10] ?_
          intro k hk; simp -dsimp (maxSteps := 2000000) [go_sem, -decide_eq_true_eq, -decide_eq_false_iff_not]
          repeat' first | apply And.intro | refine hk _ ?_ | intro hg | (refine CallK.intro (dc_laws_markOfferResult_n (c) 1 (by constructor <;> omega)) ?_; simp -dsimp (maxSteps := 2000000) [go_sem, -decide_eq_true_eq, -decide_eq_false_iff_not]) | omega | exact True.intro
          all_goals clear hk k
          refine rgA [1,2,6,8,10,11] ?_
          refine rg [1,2,6,8,10,11] ?_
          intro k hk; simp -dsimp (maxSteps := 2000000) [go_sem, -decide_eq_true_eq, -decide_eq_false_iff_not]
          repeat' first | apply And.intro | refine hk _ ?_ | intro hg | (refine CallK.intro (dc_laws_heldOfferResult_n (c) 1 (by constructor <;> omega)) ?_; simp -dsimp (maxSteps := 2000000) [go_sem, -decide_eq_true_eq, -decide_eq_false_iff_not]) | omega | exact True.intro
          all_goals clear hk k
          refine AW.seq ?_
          refine rgA [1,2,6,8,10,11,54] ?_
          refine AW.cond rfl ?_ ?_
          ·intro hc; try simp [subz_neg, subz_nn] at hc
           all_goals try (exfalso; omega; done)
           all_goals (
            refine rgA [4] ?_
            refine rt ?_
            simp [go_sem, Tryz.results3])
          ·intro hc; try simp [subz_neg, subz_nn] at hc
           all_goals try (exfalso; omega; done)
           all_goals (
            refine AW.skipN (fun _ h => h) ?_
            refine AW.seq ?_
            refine rgA [1,2,6,8,10,57] ?_
            refine AW.cond rfl ?_ ?_
            ·intro hc; try simp [subz_neg, subz_nn] at hc
             all_goals try (exfalso; omega; done)
             all_goals (
              refine rgA [4] ?_
              refine rt ?_
              simp [go_sem, Tryz.results3])
            ·intro hc; try simp [subz_neg, subz_nn] at hc
             all_goals try (exfalso; omega; done)
             all_goals (
              refine AW.skipN (fun _ h => h) ?_
              refine rg [6,8,10,12] ?_
              intro k hk; simp -dsimp (maxSteps := 2000000) [go_sem, -decide_eq_true_eq, -decide_eq_false_iff_not]
              repeat' first | apply And.intro | refine hk _ ?_ | intro hg | ((first | refine CallK.intro (dc_laws_toDesk d bd) ?_ | refine CallK.intro (hci) ?_); simp -dsimp (maxSteps := 2000000) [go_sem, -decide_eq_true_eq, -decide_eq_false_iff_not]) | omega | exact True.intro
              all_goals clear hk k
              refine AW.seq ?_
              refine rg [8,10,65] ?_
              intro k hk; simp -dsimp (maxSteps := 2000000) [go_sem, -decide_eq_true_eq, -decide_eq_false_iff_not]
              repeat' first | apply And.intro | refine hk _ ?_ | intro hg | (refine CallK.intro (dc_laws_eqOfferResult (⟨c, []⟩ : TOfferResult) (⟨c, []⟩ : TOfferResult) (by simp [TOfferResult.gok] <;> omega)) ?_; simp -dsimp (maxSteps := 2000000) [go_sem, -decide_eq_true_eq, -decide_eq_false_iff_not]) | omega | exact True.intro
              all_goals clear hk k
              refine AW.cond rfl ?_ ?_
              ·intro hc; try simp [subz_neg, subz_nn] at hc
               all_goals try (exfalso; omega; done)
               all_goals (
                refine rgA [4] ?_
                refine rt ?_
                simp [go_sem, Tryz.results3])
              ·intro hc; try simp [subz_neg, subz_nn] at hc
               all_goals try (exfalso; omega; done)
               all_goals (
                refine AW.skipN (fun _ h => h) ?_
                refine rgA [8,10,11] ?_
                refine rg [10,11] ?_
                intro k hk; simp -dsimp (maxSteps := 2000000) [go_sem, -decide_eq_true_eq, -decide_eq_false_iff_not]
                repeat' first | apply And.intro | refine hk _ ?_ | intro hg | (refine CallK.intro (dc_laws_heldOfferResult_n (c) 1 (by constructor <;> omega)) ?_; simp -dsimp (maxSteps := 2000000) [go_sem, -decide_eq_true_eq, -decide_eq_false_iff_not]) | omega | exact True.intro
                all_goals clear hk k
                refine AW.seq ?_
                refine rgA [10,11,70] ?_
                refine AW.cond rfl ?_ ?_
                ·intro hc; try simp [subz_neg, subz_nn] at hc
                 all_goals try (exfalso; omega; done)
                 all_goals (
                  refine rgA [4] ?_
                  refine rt ?_
                  simp [go_sem, Tryz.results3])
                ·intro hc; try simp [subz_neg, subz_nn] at hc
                 all_goals try (exfalso; omega; done)
                 all_goals (
                  refine AW.skipN (fun _ h => h) ?_
                  refine AW.seq ?_
                  refine rgA [73] ?_
                  refine AW.cond rfl ?_ ?_
                  ·intro hc; try simp [subz_neg, subz_nn] at hc
                   all_goals try (exfalso; omega; done)
                   all_goals (
                    refine rgA [4] ?_
                    refine rt ?_
                    simp [go_sem, Tryz.results3])
                  ·intro hc; try simp [subz_neg, subz_nn] at hc
                   all_goals try (exfalso; omega; done)
                   all_goals (
                    refine AW.skipN (fun _ h => h) ?_
                    refine rgA [4] ?_
                    refine rt ?_
                    simp [go_sem, Tryz.results3]))))))))))

set_option maxHeartbeats 20000000 in
/-- laws.FnExactClaimsOf -/
theorem dc_laws_FnExactClaimsOf_okp (d : TDesk) (gd : d.gok) (u : Int) (gu : -9223372036854775808 ≤ u ∧ u ≤ 9223372036854775807) (hl : deskF d = 0) (h2 : inR u 1 9 = true) (h0 : clF u d.claims ≠ []) : DC Tryz.prog 3 [.agg d.ro, .int .i64 u] (.bool true) [] := by
 refine DC.intro tiOk Tryz.func3 rfl rfl rfl rfl rfl rfl rfl rfl [] ?_
 refine rg [1,2] ?_
 intro k hk; simp -dsimp [go_sem, -decide_eq_true_eq, -decide_eq_false_iff_not, mCl_len]
 repeat' first | apply And.intro | refine hk _ ?_ | intro hg | omega | exact True.intro
 all_goals clear hk k
 refine rg [1,2,5] ?_
 intro k hk; simp -dsimp [go_sem, -decide_eq_true_eq, -decide_eq_false_iff_not, mCl_len]
 repeat' first | apply And.intro | refine hk _ ?_ | intro hg | omega | exact True.intro
 all_goals clear hk k
 refine rg [1,2,5] ?_
 intro k hk; simp -dsimp (maxSteps := 2000000) [go_sem, -decide_eq_true_eq, -decide_eq_false_iff_not, mCl_len]
 repeat' first | apply And.intro | refine hk _ ?_ | intro hg | (refine CallK.intro (dc_laws_szDesk _ _ (by first | assumption | (constructor <;> first | assumption | omega | grind [subz])) (by assumption)) ?_; simp -dsimp (maxSteps := 2000000) [go_sem, -decide_eq_true_eq, -decide_eq_false_iff_not, mCl_len]) | omega | exact True.intro
 all_goals clear hk k
 refine AW.seq ?_
 refine rg [1,2,17] ?_
 intro k hk; simp -dsimp [go_sem, -decide_eq_true_eq, -decide_eq_false_iff_not, mCl_len]
 repeat' first | apply And.intro | refine hk _ ?_ | intro hg | omega | exact True.intro
 all_goals clear hk k
 refine AW.cond rfl ?_ ?_
 ·intro hc; try simp [subz_neg, subz_nn] at hc
  all_goals try (exfalso; omega; done)
  all_goals (
   refine rg [4] ?_
   intro k hk; simp -dsimp [go_sem, -decide_eq_true_eq, -decide_eq_false_iff_not, mCl_len]
   repeat' first | apply And.intro | refine hk _ ?_ | intro hg | omega | exact True.intro
   all_goals clear hk k
   refine rt ?_
   simp [go_sem, Tryz.results3])
 ·intro hc; try simp [subz_neg, subz_nn] at hc
  all_goals try (exfalso; omega; done)
  all_goals (
   refine AW.skipN (fun _ h => h) ?_
   have bd : d.sz ≤ 1048576 := by grind [subz]
   have bdz : d.engine.procs.length ≤ 1048576 ∧ mkPr d.engine.procs + mkI d.engine.insts + 3 * d.claims.length ≤ 20000000 := by have h1 := mkPr_sz d.engine.procs; have h2 := mkI_sz d.engine.insts; have := bd; unfold TDesk.sz TEngine.sz at this; omega
   have hol : (clF u d.claims).length ≤ d.claims.length := List.length_filter_le _ _
   obtain ⟨w1, w2, w3, w4⟩ := desk_ok hl
   have w5 := (engF_zero w1).1
   refine rg [1,2,6] ?_
   intro k hk; simp -dsimp (maxSteps := 2000000) [go_sem, -decide_eq_true_eq, -decide_eq_false_iff_not, mCl_len]
   repeat' first | apply And.intro | refine hk _ ?_ | intro hg | ((first | refine CallK.intro (dc_laws_toDesk d bd) ?_ | refine CallK.intro (dc_spec_ClaimsOf_p d gd u hl h2 h0) ?_); simp -dsimp (maxSteps := 2000000) [go_sem, -decide_eq_true_eq, -decide_eq_false_iff_not, mCl_len]) | omega | exact True.intro
   all_goals clear hk k
   refine rg [1,2,6,7] ?_
   intro k hk; simp -dsimp (maxSteps := 2000000) [go_sem, -decide_eq_true_eq, -decide_eq_false_iff_not, mCl_len]
   repeat' first | apply And.intro | refine hk _ ?_ | intro hg | (refine CallK.intro (dc_laws_toDesk d bd) ?_; simp -dsimp (maxSteps := 2000000) [go_sem, -decide_eq_true_eq, -decide_eq_false_iff_not, mCl_len]) | omega | exact True.intro
   all_goals clear hk k
   refine rg [1,2,6,7,8] ?_
   intro k hk; simp -dsimp (maxSteps := 2000000) [go_sem, -decide_eq_true_eq, -decide_eq_false_iff_not, mCl_len]
   repeat' first | apply And.intro | refine hk _ ?_ | intro hg | (refine CallK.intro (dc_impl_ClaimsOf_p d gd u hl h2 h0) ?_; simp -dsimp (maxSteps := 2000000) [go_sem, -decide_eq_true_eq, -decide_eq_false_iff_not, mCl_len]) | omega | exact True.intro
   all_goals clear hk k
   refine AW.seq ?_
   refine rg [1,2,6,7,8,30] ?_
   intro k hk; simp -dsimp (maxSteps := 2000000) [go_sem, -decide_eq_true_eq, -decide_eq_false_iff_not, mCl_len]
   repeat' first | apply And.intro | refine hk _ ?_ | intro hg | (refine CallK.intro (dc_laws_eqOfferResult (⟨0, clF u d.claims⟩ : TOfferResult) (⟨0, clF u d.claims⟩ : TOfferResult) (by simp [TOfferResult.gok] <;> omega)) ?_; simp -dsimp (maxSteps := 2000000) [go_sem, -decide_eq_true_eq, -decide_eq_false_iff_not, mCl_len]) | omega | exact True.intro
   all_goals clear hk k
   refine AW.cond rfl ?_ ?_
   ·intro hc; try simp [subz_neg, subz_nn] at hc
    all_goals try (exfalso; omega; done)
    all_goals (
     refine rg [4] ?_
     intro k hk; simp -dsimp [go_sem, -decide_eq_true_eq, -decide_eq_false_iff_not, mCl_len]
     repeat' first | apply And.intro | refine hk _ ?_ | intro hg | omega | exact True.intro
     all_goals clear hk k
     refine rt ?_
     simp [go_sem, Tryz.results3])
   ·intro hc; try simp [subz_neg, subz_nn] at hc
    all_goals try (exfalso; omega; done)
    all_goals (
     refine AW.skipN (fun _ h => h) ?_
     refine AW.seq ?_
     refine rg [1,2,6,7,8,35] ?_
     intro k hk; simp -dsimp (maxSteps := 2000000) [go_sem, -decide_eq_true_eq, -decide_eq_false_iff_not, mCl_len]
     repeat' first | (refine Chk.keys ?_; simp only [go_sem, List.map_cons, List.map_nil, List.flatMap_cons, List.flatMap_nil, List.flatMap_append, List.append_nil, List.nil_append, List.cons_append]; decide +kernel) | apply And.intro | refine hk _ ?_ | intro hg | ((first | refine CallK.intro (dc_laws_toDesk d bd) ?_ | refine CallK.intro (dc_laws_eqDesk d d gd) ?_); simp -dsimp (maxSteps := 2000000) [go_sem, -decide_eq_true_eq, -decide_eq_false_iff_not, mCl_len]) | omega | exact True.intro
     all_goals clear hk k
     refine AW.cond rfl ?_ ?_
     ·intro hc; try simp [subz_neg, subz_nn] at hc
      all_goals try (exfalso; omega; done)
      all_goals (
       refine rg [4] ?_
       intro k hk; simp -dsimp [go_sem, -decide_eq_true_eq, -decide_eq_false_iff_not, mCl_len]
       repeat' first | apply And.intro | refine hk _ ?_ | intro hg | omega | exact True.intro
       all_goals clear hk k
       refine rt ?_
       simp [go_sem, Tryz.results3])
     ·intro hc; try simp [subz_neg, subz_nn] at hc
      all_goals try (exfalso; omega; done)
      all_goals (
       refine AW.skipN (fun _ h => h) ?_
       refine rg [1,2,6,7,8,9] ?_
       intro k hk; simp -dsimp [go_sem, -decide_eq_true_eq, -decide_eq_false_iff_not, mCl_len]
       repeat' first | apply And.intro | refine hk _ ?_ | intro hg | omega | exact True.intro
       all_goals clear hk k
       refine AW.reg tiOk (fun i => if i = 2 then [0] else []) [1,2,6,8,9] ?_
       intro k hk; simp -dsimp (maxSteps := 2000000) [go_sem, -decide_eq_true_eq, -decide_eq_false_iff_not, mCl_len]
       repeat' first | apply And.intro | refine hk _ ?_ | intro hg | (refine CallK.intro (dc_laws_markDesk_x d.engine.procs d.engine.insts d.engine.now d.claims 1 bdz.1 (by constructor <;> omega)) ?_; simp -dsimp (maxSteps := 2000000) [go_sem, -decide_eq_true_eq, -decide_eq_false_iff_not, mCl_len]) | omega | exact True.intro
       all_goals clear hk k
       refine AW.seq ?_
       refine rg [1,2,6,8,46] ?_
       intro k hk; simp +contextual -dsimp (maxSteps := 2000000) [go_sem, -decide_eq_true_eq, -decide_eq_false_iff_not, mCl_len]
       repeat' first | apply And.intro | refine hk _ ?_ | (intro hg; try simp only [decide_eq_true_eq, decide_eq_false_iff_not] at hg) | (refine CallK.intro (dc_laws_eqOfferResult (⟨0, clF u d.claims⟩ : TOfferResult) (⟨0, clF u d.claims⟩ : TOfferResult) (by simp [TOfferResult.gok] <;> omega)) ?_; simp +contextual -dsimp (maxSteps := 2000000) [go_sem, -decide_eq_true_eq, -decide_eq_false_iff_not, mCl_len]) | omega | exact True.intro
       all_goals clear hk k
       all_goals (
        refine AW.cond rfl ?_ ?_
        ·intro hc; try simp [subz_neg, subz_nn] at hc
         all_goals try (exfalso; omega; done)
         all_goals (
          refine rg [4] ?_
          intro k hk; simp -dsimp [go_sem, -decide_eq_true_eq, -decide_eq_false_iff_not, mCl_len]
          repeat' first | apply And.intro | refine hk _ ?_ | intro hg | omega | exact True.intro
          all_goals clear hk k
          refine rt ?_
          simp [go_sem, Tryz.results3])
        ·intro hc; try simp [subz_neg, subz_nn] at hc
         all_goals try (exfalso; omega; done)
         all_goals (
          refine AW.skipN (fun _ h => h) ?_
          refine rg [1,2,6,8,10] ?_
          intro k hk; simp -dsimp [go_sem, -decide_eq_true_eq, -decide_eq_false_iff_not, mCl_len]
          repeat' first | apply And.intro | refine hk _ ?_ | intro hg | omega | exact True.intro
          all_goals clear hk k
          refine AW.reg tiOk (fun _ => [0]) [1,2,6,8,10] ?_
          intro k hk; simp -dsimp (maxSteps := 2000000) [go_sem, -decide_eq_true_eq, -decide_eq_false_iff_not, mCl_len]
          repeat' first | apply And.intro | refine hk _ ?_ | intro hg | (refine CallK.intro (dc_laws_markOfferResult_o (0) (clF u d.claims) 1 (by constructor <;> omega)) ?_; simp -dsimp (maxSteps := 2000000) [go_sem, -decide_eq_true_eq, -decide_eq_false_iff_not, mCl_len]) | omega | exact True.intro
          all_goals clear hk k
          refine rg [1,2,6,8,10,11] ?_
          intro k hk; simp -dsimp [go_sem, -decide_eq_true_eq, -decide_eq_false_iff_not, mCl_len]
          repeat' first | apply And.intro | refine hk _ ?_ | intro hg | omega | exact True.intro
          all_goals clear hk k
          refine rg [1,2,6,8,10,11] ?_
          intro k hk; simp -dsimp (maxSteps := 2000000) [go_sem, -decide_eq_true_eq, -decide_eq_false_iff_not, mCl_len]
          repeat' first | apply And.intro | refine hk _ ?_ | intro hg | (refine CallK.intro (dc_laws_heldOfferResult_o (0) (clF u d.claims).length 1 (by constructor <;> omega)) ?_; simp -dsimp (maxSteps := 2000000) [go_sem, -decide_eq_true_eq, -decide_eq_false_iff_not, mCl_len]) | omega | exact True.intro
          all_goals clear hk k
          refine AW.seq ?_
          refine rg [1,2,6,8,10,11,54] ?_
          intro k hk; simp -dsimp [go_sem, -decide_eq_true_eq, -decide_eq_false_iff_not, mCl_len]
          repeat' first | apply And.intro | refine hk _ ?_ | intro hg | omega | exact True.intro
          all_goals clear hk k
          refine AW.cond rfl ?_ ?_
          ·intro hc; try simp [subz_neg, subz_nn] at hc
           all_goals try (exfalso; omega; done)
           all_goals (
            refine rg [4] ?_
            intro k hk; simp -dsimp [go_sem, -decide_eq_true_eq, -decide_eq_false_iff_not, mCl_len]
            repeat' first | apply And.intro | refine hk _ ?_ | intro hg | omega | exact True.intro
            all_goals clear hk k
            refine rt ?_
            simp [go_sem, Tryz.results3])
          ·intro hc; try simp [subz_neg, subz_nn] at hc
           all_goals try (exfalso; omega; done)
           all_goals (
            refine AW.skipN (fun _ h => h) ?_
            refine AW.seq ?_
            refine rg [1,2,6,8,10,57] ?_
            intro k hk; simp -dsimp [go_sem, -decide_eq_true_eq, -decide_eq_false_iff_not, mCl_len]
            repeat' first | apply And.intro | refine hk _ ?_ | intro hg | omega | exact True.intro
            all_goals clear hk k
            refine AW.cond rfl ?_ ?_
            ·intro hc; try simp [subz_neg, subz_nn] at hc
             all_goals try (exfalso; omega; done)
             all_goals (
              refine rg [4] ?_
              intro k hk; simp -dsimp [go_sem, -decide_eq_true_eq, -decide_eq_false_iff_not, mCl_len]
              repeat' first | apply And.intro | refine hk _ ?_ | intro hg | omega | exact True.intro
              all_goals clear hk k
              refine rt ?_
              simp [go_sem, Tryz.results3])
            ·intro hc; try simp [subz_neg, subz_nn] at hc
             all_goals try (exfalso; omega; done)
             all_goals (
              refine AW.skipN (fun _ h => h) ?_
              refine rg [6,8,10,12] ?_
              intro k hk; simp -dsimp (maxSteps := 2000000) [go_sem, -decide_eq_true_eq, -decide_eq_false_iff_not, mCl_len]
              repeat' first | apply And.intro | refine hk _ ?_ | intro hg | ((first | refine CallK.intro (dc_laws_toDesk d bd) ?_ | refine CallK.intro (dc_impl_ClaimsOf_p d gd u hl h2 h0) ?_); simp -dsimp (maxSteps := 2000000) [go_sem, -decide_eq_true_eq, -decide_eq_false_iff_not, mCl_len]) | omega | exact True.intro
              all_goals clear hk k
              refine AW.seq ?_
              refine rg [8,10,65] ?_
              intro k hk; simp -dsimp (maxSteps := 2000000) [go_sem, -decide_eq_true_eq, -decide_eq_false_iff_not, mCl_len]
              repeat' first | apply And.intro | refine hk _ ?_ | intro hg | (refine CallK.intro (dc_laws_eqOfferResult (⟨0, clF u d.claims⟩ : TOfferResult) (⟨0, clF u d.claims⟩ : TOfferResult) (by simp [TOfferResult.gok] <;> omega)) ?_; simp -dsimp (maxSteps := 2000000) [go_sem, -decide_eq_true_eq, -decide_eq_false_iff_not, mCl_len]) | omega | exact True.intro
              all_goals clear hk k
              refine AW.cond rfl ?_ ?_
              ·intro hc; try simp [subz_neg, subz_nn] at hc
               all_goals try (exfalso; omega; done)
               all_goals (
                refine rg [4] ?_
                intro k hk; simp -dsimp [go_sem, -decide_eq_true_eq, -decide_eq_false_iff_not, mCl_len]
                repeat' first | apply And.intro | refine hk _ ?_ | intro hg | omega | exact True.intro
                all_goals clear hk k
                refine rt ?_
                simp [go_sem, Tryz.results3])
              ·intro hc; try simp [subz_neg, subz_nn] at hc
               all_goals try (exfalso; omega; done)
               all_goals (
                refine AW.skipN (fun _ h => h) ?_
                refine rg [8,10,11] ?_
                intro k hk; simp -dsimp [go_sem, -decide_eq_true_eq, -decide_eq_false_iff_not, mCl_len]
                repeat' first | apply And.intro | refine hk _ ?_ | intro hg | omega | exact True.intro
                all_goals clear hk k
                refine rg [10,11] ?_
                intro k hk; simp -dsimp (maxSteps := 2000000) [go_sem, -decide_eq_true_eq, -decide_eq_false_iff_not, mCl_len]
                repeat' first | apply And.intro | refine hk _ ?_ | intro hg | (refine CallK.intro (dc_laws_heldOfferResult_o (0) (clF u d.claims).length 1 (by constructor <;> omega)) ?_; simp -dsimp (maxSteps := 2000000) [go_sem, -decide_eq_true_eq, -decide_eq_false_iff_not, mCl_len]) | omega | exact True.intro
                all_goals clear hk k
                refine AW.seq ?_
                refine rg [10,11,70] ?_
                intro k hk; simp -dsimp [go_sem, -decide_eq_true_eq, -decide_eq_false_iff_not, mCl_len]
                repeat' first | apply And.intro | refine hk _ ?_ | intro hg | omega | exact True.intro
                all_goals clear hk k
                refine AW.cond rfl ?_ ?_
                ·intro hc; try simp [subz_neg, subz_nn] at hc
                 all_goals try (exfalso; omega; done)
                 all_goals (
                  refine rg [4] ?_
                  intro k hk; simp -dsimp [go_sem, -decide_eq_true_eq, -decide_eq_false_iff_not, mCl_len]
                  repeat' first | apply And.intro | refine hk _ ?_ | intro hg | omega | exact True.intro
                  all_goals clear hk k
                  refine rt ?_
                  simp [go_sem, Tryz.results3])
                ·intro hc; try simp [subz_neg, subz_nn] at hc
                 all_goals try (exfalso; omega; done)
                 all_goals (
                  refine AW.skipN (fun _ h => h) ?_
                  refine AW.seq ?_
                  refine rg [73] ?_
                  intro k hk; simp -dsimp [go_sem, -decide_eq_true_eq, -decide_eq_false_iff_not, mCl_len]
                  repeat' first | apply And.intro | refine hk _ ?_ | intro hg | omega | exact True.intro
                  all_goals clear hk k
                  refine AW.cond rfl ?_ ?_
                  ·intro hc; try simp [subz_neg, subz_nn] at hc
                   all_goals try (exfalso; omega; done)
                   all_goals (
                    refine rg [4] ?_
                    intro k hk; simp -dsimp [go_sem, -decide_eq_true_eq, -decide_eq_false_iff_not, mCl_len]
                    repeat' first | apply And.intro | refine hk _ ?_ | intro hg | omega | exact True.intro
                    all_goals clear hk k
                    refine rt ?_
                    simp [go_sem, Tryz.results3])
                  ·intro hc; try simp [subz_neg, subz_nn] at hc
                   all_goals try (exfalso; omega; done)
                   all_goals (
                    refine AW.skipN (fun _ h => h) ?_
                    refine rg [4] ?_
                    intro k hk; simp -dsimp [go_sem, -decide_eq_true_eq, -decide_eq_false_iff_not, mCl_len]
                    repeat' first | apply And.intro | refine hk _ ?_ | intro hg | omega | exact True.intro
                    all_goals clear hk k
                    refine rt ?_
                    simp [go_sem, Tryz.results3]))))))))))
theorem dc_laws_FnExactClaimsOf (d : TDesk) (gd : d.gok) (u : Int) (gu : -9223372036854775808 ≤ u ∧ u ≤ 9223372036854775807) : DC Tryz.prog 3 [.agg d.ro, .int .i64 u] (.bool true) [] := by
  by_cases hl : deskF d = 0
  · by_cases h2 : inR u 1 9 = true
    · by_cases h0 : clF u d.claims = []
      · exact dc_laws_FnExactClaimsOf_nil d gd u gu 0 (dc_spec_ClaimsOf_z d gd u hl h2 h0) (dc_impl_ClaimsOf_z d gd u hl h2 h0)
      · exact dc_laws_FnExactClaimsOf_okp d gd u gu hl h2 h0
    · have h3 : inR u 1 9 = false := by simpa using h2
      exact dc_laws_FnExactClaimsOf_nil d gd u gu 3 (dc_spec_ClaimsOf_bad2 d gd u hl h3) (dc_impl_ClaimsOf_bad2 d gd u hl h3)
  · exact dc_laws_FnExactClaimsOf_nil d gd u gu (deskF d) (dc_spec_ClaimsOf_bad1 d gd u hl) (dc_impl_ClaimsOf_bad1 d gd u hl)

end Go.AM
