/- Joined texts: G4 G5 G6 H1 H2 H3 K1 G7 F3 F4 F6 F8 G8 G9 Ga H4 H5 K2. -/
import Derived.Test.YtilmgakneefdmaaGreatB1
import Derived.Test.YtilmgakneefdmaaGreatB2
import Derived.Test.YtilmgakneefdmaaGreatB3
import Derived.Test.YtilmgakneefdmaaGreatB4
import Derived.Test.YtilmgakneefdmaaGreatB5
set_option linter.unusedVariables false
set_option linter.unusedSimpArgs false
/-! ### G4 -/
set_option linter.unusedVariables false
set_option linter.unusedSimpArgs false
namespace Go.AM
open Go.Proofs

set_option maxHeartbeats 600000 in
set_option linter.unusedSimpArgs false in
set_option maxRecDepth 100000 in
/-- impl.condFault -/
theorem dc_impl_condFault (p : List TStep) (ho : StepsOk p) (i : Nat) (hi : i < p.length) (hg : ∀ e ∈ p, e.gok) : DC Tryz.prog 145 [.isl 6 (p.map TStep.ro), .int .i64 (i : Nat)] (.int .i64 (shapeF p i)) [] := by
  have hlen := ho.len
  obtain ⟨x, hx⟩ := at_some hi
  have hxS := nS_at hx
  obtain ⟨g0, g1, g2⟩ := hg x (List.mem_of_getElem? hx)
  have hkm := kids_len p (i : Int)
  refine DC.intro tiOk Tryz.func145 rfl rfl rfl rfl rfl rfl rfl rfl [] ?_
  refine AW.reg tiOk (fun _ => []) [0, 1] ?_
  intro k hk; simp -dsimp [go_sem, -decide_eq_true_eq, -decide_eq_false_iff_not, hx]
  repeat' (first | refine And.intro ?_ ?_ | refine hk _ ?_ | intro hg | omega | exact True.intro)
  all_goals clear hk k
  refine AW.reg tiOk (fun _ => []) [0, 1, 5, 6] ?_
  intro k hk; simp -dsimp (maxSteps := 2000000) [go_sem, -decide_eq_true_eq, -decide_eq_false_iff_not, hx]
  repeat' (first | refine And.intro ?_ ?_ | refine hk _ ?_ | intro hg | (refine CallK.intro (dc_impl_kidBounds _) ?_; simp -dsimp (maxSteps := 2000000) [go_sem, -decide_eq_true_eq, -decide_eq_false_iff_not, hx]) | omega | exact True.intro)
  all_goals clear hk k
  refine AW.reg tiOk (fun _ => []) [0, 1, 5, 6, 7] ?_
  intro k hk; simp -dsimp (maxSteps := 2000000) [go_sem, -decide_eq_true_eq, -decide_eq_false_iff_not, hx]
  repeat' (first | refine And.intro ?_ ?_ | refine hk _ ?_ | intro hg | omega | exact True.intro)
  all_goals clear hk k
  refine AW.reg tiOk (fun _ => []) [0, 1, 7, 8] ?_
  intro k hk; simp -dsimp (maxSteps := 2000000) [go_sem, -decide_eq_true_eq, -decide_eq_false_iff_not, hx]
  repeat' (first | refine And.intro ?_ ?_ | refine hk _ ?_ | intro hg | (refine CallK.intro (dc_impl_kids p (i : Int) (by omega)) ?_; simp -dsimp (maxSteps := 2000000) [go_sem, -decide_eq_true_eq, -decide_eq_false_iff_not, hx]) | (refine CallK.intro (dc_impl_inRange _ _ _) ?_; simp -dsimp (maxSteps := 2000000) [go_sem, -decide_eq_true_eq, -decide_eq_false_iff_not, hx]) | (refine CallK.intro (dc_impl_codeIf _ _) ?_; simp -dsimp (maxSteps := 2000000) [go_sem, -decide_eq_true_eq, -decide_eq_false_iff_not, hx]) | (refine CallK.intro (dc_impl_wantsCond p ho i hi) ?_; simp -dsimp (maxSteps := 2000000) [go_sem, -decide_eq_true_eq, -decide_eq_false_iff_not, hx]) | (refine CallK.intro (dc_impl_firstCode [_, _] (by simp)) ?_; simp -dsimp (maxSteps := 2000000) [go_sem, -decide_eq_true_eq, -decide_eq_false_iff_not, hx]) | (refine CallK.intro (dc_impl_firstCode [_, _, _] (by simp)) ?_; simp -dsimp (maxSteps := 2000000) [go_sem, -decide_eq_true_eq, -decide_eq_false_iff_not, hx]) | (refine CallK.intro (dc_impl_firstCode [_, _, _, _] (by simp)) ?_; simp -dsimp (maxSteps := 2000000) [go_sem, -decide_eq_true_eq, -decide_eq_false_iff_not, hx]) | omega | exact True.intro)
  all_goals clear hk k
  refine AW.seq ?_
  refine AW.reg tiOk (fun _ => []) [0, 1, 8, 47] ?_
  intro k hk; simp +contextual -dsimp [go_sem, -decide_eq_true_eq, -decide_eq_false_iff_not, hx]
  repeat' (first | refine And.intro ?_ ?_ | refine hk _ ?_ | (intro hg; try simp only [decide_eq_true_eq, decide_eq_false_iff_not] at hg) | omega | exact True.intro)
  all_goals clear hk k
  all_goals (
    refine AW.cond rfl ?_ ?_
    · intro hc; try simp at hc
      all_goals (
        refine AW.reg tiOk (fun _ => []) [4] ?_
        intro k hk; simp -dsimp [go_sem, -decide_eq_true_eq, -decide_eq_false_iff_not, hx]
        repeat' (first | refine And.intro ?_ ?_ | refine hk _ ?_ | intro hg | omega | exact True.intro)
        all_goals clear hk k
        refine AW.retF (ow := []) (muts := []) ?_ (fun h => And.intro (.inr rfl) h)
        simp [go_sem, Tryz.results145, shapeF, hxS, firstC_cons, firstC_nil] at * <;> grind)
    · intro hc; try simp at hc
      all_goals (
        refine AW.skipN (fun _ h => h) ?_
        refine AW.reg tiOk (fun _ => []) [4] ?_
        intro k hk; simp -dsimp (maxSteps := 2000000) [go_sem, -decide_eq_true_eq, -decide_eq_false_iff_not, hx]
        repeat' (first | refine And.intro ?_ ?_ | refine hk _ ?_ | intro hg | (refine CallK.intro (dc_impl_ExprFault x.cond g1) ?_; simp -dsimp (maxSteps := 2000000) [go_sem, -decide_eq_true_eq, -decide_eq_false_iff_not, hx]) | omega | exact True.intro)
        all_goals clear hk k
        refine AW.retF (ow := []) (muts := []) ?_ (fun h => And.intro (.inr rfl) h)
        simp [go_sem, Tryz.results145, shapeF, hxS, firstC_cons, firstC_nil] at * <;> grind))

end Go.AM

/-! ### G5 -/
set_option linter.unusedVariables false
set_option linter.unusedSimpArgs false
namespace Go.AM
open Go.Proofs

set_option maxHeartbeats 600000 in
set_option linter.unusedSimpArgs false in
set_option maxRecDepth 100000 in
/-- impl.stepFault -/
theorem dc_impl_stepFault (s : TStep) (hg : s.gok) (l : List Int) (hl : ParOk l) (h24 : l.length ≤ 23) : DC Tryz.prog 144 [.agg s.ro, .op [nlc 1 (l.map I1), nlc 1 ((depsOf l).map I1)]] (.int .i64 (stepF l s)) [(1, .op [nlc 1 ((nxtL l s.par).map I1), nlc 1 ((nxtD l (depsOf l) s.par).map I1)])] := by
  obtain ⟨g0, g1, g2⟩ := hg
  have hdl := depsOf_len l
  refine DC.intro tiOk Tryz.func144 rfl rfl rfl rfl rfl rfl rfl (by simp [noW, noWo]) [] ?_
  refine AW.reg tiOk (fun _ => []) [1, 2] ?_
  intro k hk; simp -dsimp [go_sem, -decide_eq_true_eq, -decide_eq_false_iff_not]
  repeat' (first | refine And.intro ?_ ?_ | refine hk _ ?_ | intro hg | omega | exact True.intro)
  all_goals clear hk k
  refine AW.reg tiOk (fun _ => []) [1, 2, 5, 6] ?_
  intro k hk; simp -dsimp (maxSteps := 2000000) [go_sem, -decide_eq_true_eq, -decide_eq_false_iff_not]
  repeat' (first | refine And.intro ?_ ?_ | refine hk _ ?_ | intro hg | (refine CallK.intro (dc_impl_argBounds _) ?_; simp -dsimp (maxSteps := 2000000) [go_sem, -decide_eq_true_eq, -decide_eq_false_iff_not]) | omega | exact True.intro)
  all_goals clear hk k
  refine AW.cut ⟨96, [(1, .ptr 1901 2 0 0), (2, .ptr 2 6 0 0), (5, .int .i64 (lowA s.kind)), (6, .int .i64 (highA s.kind)), (7, .bool (alien s))], [(2, some ⟨6, [s.ro]⟩), (1901, some ⟨2, [[nlc 1 (l.map I1), nlc 1 ((depsOf l).map I1)]]⟩)]⟩ ?_ ?_
  · skip
    refine AW.regK tiOk (fun _ => []) ?_
    intro k hk; simp +contextual -dsimp (maxSteps := 2000000) [go_sem, -decide_eq_true_eq, -decide_eq_false_iff_not]
    repeat' (first | refine And.intro ?_ ?_ | refine hk _ ?_ | (intro hg; try simp only [decide_eq_true_eq, decide_eq_false_iff_not] at hg) | omega | exact True.intro)
    all_goals clear hk k
    all_goals (show St.Less _ _; exact Less.of rfl (by simp [go_sem, alien] at * <;> grind) (by simp [go_sem]))
  · skip
    refine AW.seq ?_
    refine AW.cut ⟨96, [(1, .ptr 1901 2 0 0), (2, .ptr 2 6 0 0), (5, .int .i64 (lowA s.kind)), (6, .int .i64 (highA s.kind)), (8, .int .i64 (if inR s.kind 1 8 = false ∨ alien s = true then 1 else parF l s.par))], [(2, some ⟨6, [s.ro]⟩), (1901, some ⟨2, [[nlc 1 ((nxtL l s.par).map I1), nlc 1 ((nxtD l (depsOf l) s.par).map I1)]]⟩)]⟩ ?_ ?_
    · skip
      refine AW.regK tiOk (fun i => if i = 11 then [0] else []) ?_
      intro k hk; simp +contextual -dsimp (maxSteps := 2000000) [go_sem, -decide_eq_true_eq, -decide_eq_false_iff_not]
      repeat' (first | refine And.intro ?_ ?_ | (refine Chk.keys ?_; simp only [go_sem, List.map_cons, List.map_nil, List.flatMap_cons, List.flatMap_nil, List.flatMap_append, List.append_nil, List.nil_append, List.cons_append]; decide +kernel) | refine hk _ ?_ | (intro hg; try simp only [decide_eq_true_eq, decide_eq_false_iff_not] at hg) | (refine CallK.intro (dc_impl_inRange _ _ _) ?_; simp +contextual -dsimp (maxSteps := 2000000) [go_sem, -decide_eq_true_eq, -decide_eq_false_iff_not]) | (refine CallK.intro (dc_impl_codeIf _ _) ?_; simp +contextual -dsimp (maxSteps := 2000000) [go_sem, -decide_eq_true_eq, -decide_eq_false_iff_not]) | (refine CallK.intro (dc_parents_next l (depsOf l) s.par hl rfl (by omega)) ?_; simp +contextual -dsimp (maxSteps := 2000000) [go_sem, -decide_eq_true_eq, -decide_eq_false_iff_not]) | (refine CallK.intro (dc_impl_firstCode [_, _] (by simp)) ?_; simp +contextual -dsimp (maxSteps := 2000000) [go_sem, -decide_eq_true_eq, -decide_eq_false_iff_not]) | (refine CallK.intro (dc_impl_firstCode [_, _, _] (by simp)) ?_; simp +contextual -dsimp (maxSteps := 2000000) [go_sem, -decide_eq_true_eq, -decide_eq_false_iff_not]) | (refine CallK.intro (dc_impl_firstCode [_, _, _, _] (by simp)) ?_; simp +contextual -dsimp (maxSteps := 2000000) [go_sem, -decide_eq_true_eq, -decide_eq_false_iff_not]) | omega | exact True.intro)
      all_goals clear hk k
      all_goals (show St.Less _ _; exact Less.of rfl (by simp [go_sem, firstC_cons, firstC_nil] at * <;> grind) (by simp [go_sem]))
    · skip
      refine AW.reg tiOk (fun _ => []) [1, 2, 5, 6, 8, 59] ?_
      intro k hk; simp -dsimp [go_sem, -decide_eq_true_eq, -decide_eq_false_iff_not]
      repeat' (first | refine And.intro ?_ ?_ | refine hk _ ?_ | intro hg | omega | exact True.intro)
      all_goals clear hk k
      refine AW.cond rfl ?_ ?_
      · intro hc; try simp at hc
        all_goals try (exfalso; omega; done)
        all_goals (
          refine AW.reg tiOk (fun _ => []) [1, 4] ?_
          intro k hk; simp -dsimp [go_sem, -decide_eq_true_eq, -decide_eq_false_iff_not]
          repeat' (first | refine And.intro ?_ ?_ | refine hk _ ?_ | intro hg | omega | exact True.intro)
          all_goals clear hk k
          refine AW.retF (ow := []) (muts := [(1, .op [nlc 1 ((nxtL l s.par).map I1), nlc 1 ((nxtD l (depsOf l) s.par).map I1)])]) ?_ (fun h => And.intro (.inr rfl) h)
          first | (rw [stepF_good hz1 hz2 hz3]; simp [go_sem, Tryz.results144, hnL, hnD, firstC_cons, firstC_nil]; (try grind [inR]); done) | (simp [go_sem, Tryz.results144]; have := @inR_iff s.kind 1 8; unfold stepF; grind))
      · intro hc; try simp at hc
        all_goals try (exfalso; omega; done)
        all_goals (
          refine AW.skipN (fun _ h => h) ?_
          refine AW.seq ?_
          have hz : inR s.kind 1 8 = true ∧ alien s = false ∧ parF l s.par = 0 := by grind
          obtain ⟨hz1, hz2, hz3⟩ := hz
          have hnL := nxtL_app hz3
          have hnD := nxtD_app hl hz3
          refine AW.reg tiOk (fun _ => []) [1, 2, 5, 6, 9] ?_
          intro k hk; simp -dsimp (maxSteps := 2000000) [go_sem, -decide_eq_true_eq, -decide_eq_false_iff_not, hnL, hnD]
          repeat' (first | refine And.intro ?_ ?_ | refine hk _ ?_ | intro hg | (refine CallK.intro (dc_impl_parents_last _ _ _ (by simp [hdl]; omega)) ?_; simp -dsimp (maxSteps := 2000000) [go_sem, -decide_eq_true_eq, -decide_eq_false_iff_not, hnL, hnD]) | (refine CallK.intro (dc_impl_codeIf _ _) ?_; simp -dsimp (maxSteps := 2000000) [go_sem, -decide_eq_true_eq, -decide_eq_false_iff_not, hnL, hnD]) | omega | exact True.intro)
          all_goals clear hk k
          refine AW.reg tiOk (fun _ => []) [1, 2, 5, 6, 9, 66] ?_
          intro k hk; simp -dsimp [go_sem, -decide_eq_true_eq, -decide_eq_false_iff_not]
          repeat' (first | refine And.intro ?_ ?_ | refine hk _ ?_ | intro hg | omega | exact True.intro)
          all_goals clear hk k
          refine AW.cond rfl ?_ ?_
          · intro hc; try simp at hc
            all_goals try (exfalso; omega; done)
            all_goals (
              refine AW.reg tiOk (fun _ => []) [1, 4] ?_
              intro k hk; simp -dsimp [go_sem, -decide_eq_true_eq, -decide_eq_false_iff_not]
              repeat' (first | refine And.intro ?_ ?_ | refine hk _ ?_ | intro hg | omega | exact True.intro)
              all_goals clear hk k
              refine AW.retF (ow := []) (muts := [(1, .op [nlc 1 ((nxtL l s.par).map I1), nlc 1 ((nxtD l (depsOf l) s.par).map I1)])]) ?_ (fun h => And.intro (.inr rfl) h)
              first | (rw [stepF_good hz1 hz2 hz3]; simp [go_sem, Tryz.results144, hnL, hnD, firstC_cons, firstC_nil]; (try grind [inR]); done) | (simp [go_sem, Tryz.results144]; have := @inR_iff s.kind 1 8; unfold stepF; grind))
          · intro hc; try simp at hc
            all_goals try (exfalso; omega; done)
            all_goals (
              refine AW.skipN (fun _ h => h) ?_
              refine AW.seq ?_
              refine AW.reg tiOk (fun _ => []) [1, 2, 5, 6, 69] ?_
              intro k hk; simp -dsimp [go_sem, -decide_eq_true_eq, -decide_eq_false_iff_not]
              repeat' (first | refine And.intro ?_ ?_ | refine hk _ ?_ | intro hg | omega | exact True.intro)
              all_goals clear hk k
              refine AW.block ?_
              refine AW.reg tiOk (fun _ => []) [1, 2, 5, 6, 69, 70] ?_
              intro k hk; simp -dsimp [go_sem, -decide_eq_true_eq, -decide_eq_false_iff_not]
              repeat' (first | refine And.intro ?_ ?_ | refine hk _ ?_ | intro hg | omega | exact True.intro)
              all_goals clear hk k
              refine AW.cond rfl ?_ ?_
              · intro hc; try simp at hc
                all_goals try (exfalso; omega; done)
                all_goals (
                  refine AW.reg tiOk (fun _ => []) [1, 4] ?_
                  intro k hk; simp -dsimp (maxSteps := 2000000) [go_sem, -decide_eq_true_eq, -decide_eq_false_iff_not]
                  repeat' (first | refine And.intro ?_ ?_ | refine hk _ ?_ | intro hg | (refine CallK.intro (dc_impl_NameFault s.name g0) ?_; simp -dsimp (maxSteps := 2000000) [go_sem, -decide_eq_true_eq, -decide_eq_false_iff_not]) | omega | exact True.intro)
                  all_goals clear hk k
                  refine AW.retF (ow := []) (muts := [(1, .op [nlc 1 ((nxtL l s.par).map I1), nlc 1 ((nxtD l (depsOf l) s.par).map I1)])]) ?_ (fun h => And.intro (.inr rfl) h)
                  first | (rw [stepF_good hz1 hz2 hz3]; simp [go_sem, Tryz.results144, hnL, hnD, firstC_cons, firstC_nil]; (try grind [inR]); done) | (simp [go_sem, Tryz.results144]; have := @inR_iff s.kind 1 8; unfold stepF; grind))
              · intro hc; try simp at hc
                all_goals try (exfalso; omega; done)
                all_goals (
                  refine AW.reg tiOk (fun _ => []) [1, 2, 5, 6, 75] ?_
                  intro k hk; simp -dsimp [go_sem, -decide_eq_true_eq, -decide_eq_false_iff_not]
                  repeat' (first | refine And.intro ?_ ?_ | refine hk _ ?_ | intro hg | omega | exact True.intro)
                  all_goals clear hk k
                  refine AW.cond rfl ?_ ?_
                  · intro hc; try simp at hc
                    all_goals try (exfalso; omega; done)
                    all_goals (
                      refine AW.reg tiOk (fun _ => []) [1, 4] ?_
                      intro k hk; simp -dsimp (maxSteps := 2000000) [go_sem, -decide_eq_true_eq, -decide_eq_false_iff_not]
                      repeat' (first | refine And.intro ?_ ?_ | (refine Chk.keys ?_; simp only [go_sem, List.map_cons, List.map_nil, List.flatMap_cons, List.flatMap_nil, List.flatMap_append, List.append_nil, List.nil_append, List.cons_append]; decide +kernel) | refine hk _ ?_ | intro hg | (refine CallK.intro (dc_impl_inRange _ _ _) ?_; simp -dsimp (maxSteps := 2000000) [go_sem, -decide_eq_true_eq, -decide_eq_false_iff_not]) | (refine CallK.intro (dc_impl_codeIf _ _) ?_; simp -dsimp (maxSteps := 2000000) [go_sem, -decide_eq_true_eq, -decide_eq_false_iff_not]) | (refine CallK.intro (dc_impl_ExprFault s.expr g2) ?_; simp -dsimp (maxSteps := 2000000) [go_sem, -decide_eq_true_eq, -decide_eq_false_iff_not]) | (refine CallK.intro (dc_impl_firstCode [_, _] (by simp)) ?_; simp -dsimp (maxSteps := 2000000) [go_sem, -decide_eq_true_eq, -decide_eq_false_iff_not]) | (refine CallK.intro (dc_impl_firstCode [_, _, _] (by simp)) ?_; simp -dsimp (maxSteps := 2000000) [go_sem, -decide_eq_true_eq, -decide_eq_false_iff_not]) | (refine CallK.intro (dc_impl_firstCode [_, _, _, _] (by simp)) ?_; simp -dsimp (maxSteps := 2000000) [go_sem, -decide_eq_true_eq, -decide_eq_false_iff_not]) | omega | exact True.intro)
                      all_goals clear hk k
                      refine AW.retF (ow := []) (muts := [(1, .op [nlc 1 ((nxtL l s.par).map I1), nlc 1 ((nxtD l (depsOf l) s.par).map I1)])]) ?_ (fun h => And.intro (.inr rfl) h)
                      first | (rw [stepF_good hz1 hz2 hz3]; simp [go_sem, Tryz.results144, hnL, hnD, firstC_cons, firstC_nil]; (try grind [inR]); done) | (simp [go_sem, Tryz.results144]; have := @inR_iff s.kind 1 8; unfold stepF; grind))
                  · intro hc; try simp at hc
                    all_goals try (exfalso; omega; done)
                    all_goals (
                      refine AW.skipN (fun _ h => h) ?_
                      refine AW.reg tiOk (fun _ => []) [1, 4] ?_
                      intro k hk; simp -dsimp (maxSteps := 2000000) [go_sem, -decide_eq_true_eq, -decide_eq_false_iff_not]
                      repeat' (first | refine And.intro ?_ ?_ | refine hk _ ?_ | intro hg | (refine CallK.intro (dc_impl_inRange _ _ _) ?_; simp -dsimp (maxSteps := 2000000) [go_sem, -decide_eq_true_eq, -decide_eq_false_iff_not]) | (refine CallK.intro (dc_impl_codeIf _ _) ?_; simp -dsimp (maxSteps := 2000000) [go_sem, -decide_eq_true_eq, -decide_eq_false_iff_not]) | omega | exact True.intro)
                      all_goals clear hk k
                      refine AW.retF (ow := []) (muts := [(1, .op [nlc 1 ((nxtL l s.par).map I1), nlc 1 ((nxtD l (depsOf l) s.par).map I1)])]) ?_ (fun h => And.intro (.inr rfl) h)
                      first | (rw [stepF_good hz1 hz2 hz3]; simp [go_sem, Tryz.results144, hnL, hnD, firstC_cons, firstC_nil]; (try grind [inR]); done) | (simp [go_sem, Tryz.results144]; have := @inR_iff s.kind 1 8; unfold stepF; grind)))))

end Go.AM

/-! ### G6 -/
set_option linter.unusedVariables false
set_option linter.unusedSimpArgs false
namespace Go.AM
open Go.Proofs

set_option maxHeartbeats 600000 in
set_option linter.unusedSimpArgs false in
set_option maxRecDepth 100000 in
/-- impl.ProcFault -/
theorem dc_impl_ProcFault (p : List TStep) (hp : p.length ≤ 9223372036854775807) (hg : ∀ e ∈ p, e.gok) : DC Tryz.prog 120 [.isl 6 (p.map TStep.ro)] (.int .i64 (procF p)) [] := by
  refine DC.intro tiOk Tryz.func120 rfl rfl rfl rfl rfl rfl rfl rfl [] ?_
  refine AW.reg tiOk (fun _ => []) [0] ?_
  intro k hk; simp -dsimp [go_sem, -decide_eq_true_eq, -decide_eq_false_iff_not]
  repeat' (first | refine And.intro ?_ ?_ | refine hk _ ?_ | intro hg | omega | exact True.intro)
  all_goals clear hk k
  refine AW.seq ?_
  refine AW.reg tiOk (fun _ => []) [0, 15] ?_
  intro k hk; simp -dsimp (maxSteps := 2000000) [go_sem, -decide_eq_true_eq, -decide_eq_false_iff_not]
  repeat' (first | refine And.intro ?_ ?_ | refine hk _ ?_ | intro hg | (refine CallK.intro (dc_impl_inRange _ _ _) ?_; simp -dsimp (maxSteps := 2000000) [go_sem, -decide_eq_true_eq, -decide_eq_false_iff_not]) | omega | exact True.intro)
  all_goals clear hk k
  refine AW.cond rfl ?_ ?_
  · intro hc; try simp at hc
    all_goals (
      refine AW.reg tiOk (fun _ => []) [2] ?_
      intro k hk; simp -dsimp [go_sem, -decide_eq_true_eq, -decide_eq_false_iff_not]
      repeat' (first | refine And.intro ?_ ?_ | refine hk _ ?_ | intro hg | omega | exact True.intro)
      all_goals clear hk k
      refine AW.retF (ow := []) (muts := []) ?_ (fun h => And.intro (.inr rfl) h)
      first | (rw [procF_len (by simpa using hc)]; simp [go_sem, Tryz.results120]; done) | (rw [procF_ok hR h1 h2 h3]; simp [go_sem, Tryz.results120]; done) | (rw [procF_ty hR h1 h2 hlt hal3 (by first | assumption | simpa using hc)]; simp [go_sem, Tryz.results120]; done) | (rw [procF_shape hR h1 hlt hal2 (by first | assumption | simpa using hc)]; simp [go_sem, Tryz.results120]; done) | (rw [procF_one hR hlt hall (by rw [hxo]; first | assumption | simpa using hc), hxo]; simp [go_sem, Tryz.results120]))
  · intro hc; try simp at hc
    all_goals (
      refine AW.skipN (fun _ h => h) ?_
      have hR : inR p.length 1 24 = true := by simpa using hc
      have hlen := inR_iff.1 hR
      have hts : depsOf [] = [] := rfl
      refine AW.reg tiOk (fun _ => []) [0, 3] ?_
      intro k hk; simp -dsimp [go_sem, -decide_eq_true_eq, -decide_eq_false_iff_not]
      repeat' (first | refine And.intro ?_ ?_ | refine hk _ ?_ | intro hg | omega | exact True.intro)
      all_goals clear hk k
      refine AW.seq ?_
      refine AW.reg tiOk (fun _ => []) [0, 3, 18, 19, 20] ?_
      intro k hk; simp -dsimp [go_sem, -decide_eq_true_eq, -decide_eq_false_iff_not]
      repeat' (first | refine And.intro ?_ ?_ | refine hk _ ?_ | intro hg | omega | exact True.intro)
      all_goals clear hk k
      refine AW.block ?_
      -- live at the loop's head: [0, 3, 18, 19, 20]
      refine AW.loopI (fun i : Nat => ⟨61, [(0, .isl 6 (p.map TStep.ro)), (3, .ptr 17 2 0 0), (18, .isl 6 (p.map TStep.ro)), (19, .int .i64 p.length), (20, .int .i64 i)], [(17, some ⟨2, [[nlc 1 ((parsT p i).map I1), nlc 1 ((depsOf (parsT p i)).map I1)]]⟩)]⟩) (fun i => i ≤ p.length ∧ ∀ k, k < i → oneF p k = 0) (fun i => p.length - i) (0) (by simp) (Less.of rfl (by simp [go_sem]) (by simp [go_sem, hts, parsT_zero])) ?_
      rintro i ⟨hi, hall⟩
      refine AW.reg tiOk (fun _ => []) [0, 3, 18, 19, 20, 21] ?_
      intro k hk; simp -dsimp [go_sem, -decide_eq_true_eq, -decide_eq_false_iff_not]
      repeat' (first | refine And.intro ?_ ?_ | refine hk _ ?_ | intro hg | omega | exact True.intro)
      all_goals clear hk k
      refine AW.seq ?_
      refine AW.cond rfl ?_ ?_
      · intro hc; try simp at hc
        all_goals (
          have hlt : i < p.length := by assumption
          obtain ⟨x, hx⟩ := at_some hlt
          have hxo := oneF_T hx
          refine AW.skipN (fun _ h => h) ?_
          refine AW.seq ?_
          refine AW.block ?_
          have hlo := ones_T (by omega) hall
          refine AW.reg tiOk (fun _ => []) [0, 3, 5, 18, 19, 20] ?_
          intro k hk; simp -dsimp [go_sem, -decide_eq_true_eq, -decide_eq_false_iff_not, hx]
          repeat' (first | refine And.intro ?_ ?_ | refine hk _ ?_ | intro hg | omega | exact True.intro)
          all_goals clear hk k
          refine AW.reg tiOk (fun _ => [1]) [0, 3, 6, 18, 19, 20] ?_
          intro k hk; simp -dsimp (maxSteps := 2000000) [go_sem, -decide_eq_true_eq, -decide_eq_false_iff_not, hx]
          repeat' (first | refine And.intro ?_ ?_ | refine hk _ ?_ | intro hg | (refine CallK.intro (dc_impl_stepFault x (hg x (List.mem_of_getElem? hx)) (parsT p i) hlo (by rw [parsT_len (by omega)]; omega)) ?_; simp -dsimp (maxSteps := 2000000) [go_sem, -decide_eq_true_eq, -decide_eq_false_iff_not, hx]) | omega | exact True.intro)
          all_goals clear hk k
          refine AW.reg tiOk (fun _ => []) [0, 3, 6, 18, 19, 20, 28] ?_
          intro k hk; simp -dsimp [go_sem, -decide_eq_true_eq, -decide_eq_false_iff_not, hx]
          repeat' (first | refine And.intro ?_ ?_ | refine hk _ ?_ | intro hg | omega | exact True.intro)
          all_goals clear hk k
          refine AW.cond rfl ?_ ?_
          · intro hc; try simp at hc
            all_goals (
              refine AW.reg tiOk (fun _ => []) [2] ?_
              intro k hk; simp -dsimp [go_sem, -decide_eq_true_eq, -decide_eq_false_iff_not, hx]
              repeat' (first | refine And.intro ?_ ?_ | refine hk _ ?_ | intro hg | omega | exact True.intro)
              all_goals clear hk k
              refine AW.retF (ow := []) (muts := []) ?_ (fun h => And.intro (.inr rfl) h)
              first | (rw [procF_len (by simpa using hc)]; simp [go_sem, Tryz.results120]; done) | (rw [procF_ok hR h1 h2 h3]; simp [go_sem, Tryz.results120]; done) | (rw [procF_ty hR h1 h2 hlt hal3 (by first | assumption | simpa using hc)]; simp [go_sem, Tryz.results120]; done) | (rw [procF_shape hR h1 hlt hal2 (by first | assumption | simpa using hc)]; simp [go_sem, Tryz.results120]; done) | (rw [procF_one hR hlt hall (by rw [hxo]; first | assumption | simpa using hc), hxo]; simp [go_sem, Tryz.results120]))
          · intro hc; try simp at hc
            all_goals (
              refine AW.skipN (fun _ h => h) ?_
              refine AW.regK tiOk (fun _ => []) ?_
              intro k hk; simp -dsimp [go_sem, -decide_eq_true_eq, -decide_eq_false_iff_not, hx]
              repeat' (first | refine And.intro ?_ ?_ | refine hk _ ?_ | intro hg | omega | exact True.intro)
              all_goals clear hk k
              show ∃ _, _
              have hw := wrapi hlt (by omega)
              have hz : stepF (parsT p i) x = 0 := by simpa using hc
              have hpz := stepF_par hz
              have htn := parsT_next hx
              refine ⟨i + 1, ⟨by omega, upto hall (by rw [hxo]; exact hz)⟩, by omega, Less.of rfl (by simp [go_sem, hw]) (by simp [go_sem, htn, nxtL_app hpz, nxtD_deps (ones_T (by omega) hall) hpz])⟩))
      · intro hc; try simp at hc
        all_goals (
          refine AW.exitN (fun _ h => h) ?_
          refine AW.seq ?_
          have h1 : ∀ k, k < p.length → oneF p k = 0 := fun k hk => hall k (by omega)
          have ho : StepsOk p := ⟨by omega, h1⟩
          refine AW.reg tiOk (fun _ => []) [0, 32, 33] ?_
          intro k hk; simp -dsimp [go_sem, -decide_eq_true_eq, -decide_eq_false_iff_not]
          repeat' (first | refine And.intro ?_ ?_ | refine hk _ ?_ | intro hg | omega | exact True.intro)
          all_goals clear hk k
          refine AW.block ?_
          -- live at the loop's head: [0, 32, 33]
          refine AW.loopI (fun i : Nat => ⟨61, [(0, .isl 6 (p.map TStep.ro)), (32, .int .i64 p.length), (33, .int .i64 i)], []⟩) (fun i => i ≤ p.length ∧ ∀ k, k < i → shapeF p k = 0) (fun i => p.length - i) (0) (by simp) (Less.of rfl (by simp [go_sem]) (by simp [go_sem])) ?_
          rintro i ⟨hi, hal2⟩
          refine AW.reg tiOk (fun _ => []) [0, 32, 33, 34] ?_
          intro k hk; simp -dsimp [go_sem, -decide_eq_true_eq, -decide_eq_false_iff_not]
          repeat' (first | refine And.intro ?_ ?_ | refine hk _ ?_ | intro hg | omega | exact True.intro)
          all_goals clear hk k
          refine AW.seq ?_
          refine AW.cond rfl ?_ ?_
          · intro hc; try simp at hc
            all_goals (
              have hlt : i < p.length := by assumption
              refine AW.skipN (fun _ h => h) ?_
              refine AW.seq ?_
              refine AW.block ?_
              refine AW.reg tiOk (fun _ => []) [0, 7, 32, 33] ?_
              intro k hk; simp -dsimp [go_sem, -decide_eq_true_eq, -decide_eq_false_iff_not]
              repeat' (first | refine And.intro ?_ ?_ | refine hk _ ?_ | intro hg | omega | exact True.intro)
              all_goals clear hk k
              refine AW.reg tiOk (fun _ => []) [0, 8, 32, 33] ?_
              intro k hk; simp -dsimp (maxSteps := 2000000) [go_sem, -decide_eq_true_eq, -decide_eq_false_iff_not]
              repeat' (first | refine And.intro ?_ ?_ | refine hk _ ?_ | intro hg | (refine CallK.intro (dc_impl_condFault p ho i hlt hg) ?_; simp -dsimp (maxSteps := 2000000) [go_sem, -decide_eq_true_eq, -decide_eq_false_iff_not]) | omega | exact True.intro)
              all_goals clear hk k
              refine AW.reg tiOk (fun _ => []) [0, 8, 32, 33, 40] ?_
              intro k hk; simp -dsimp [go_sem, -decide_eq_true_eq, -decide_eq_false_iff_not]
              repeat' (first | refine And.intro ?_ ?_ | refine hk _ ?_ | intro hg | omega | exact True.intro)
              all_goals clear hk k
              refine AW.cond rfl ?_ ?_
              · intro hc; try simp at hc
                all_goals (
                  refine AW.reg tiOk (fun _ => []) [2] ?_
                  intro k hk; simp -dsimp [go_sem, -decide_eq_true_eq, -decide_eq_false_iff_not]
                  repeat' (first | refine And.intro ?_ ?_ | refine hk _ ?_ | intro hg | omega | exact True.intro)
                  all_goals clear hk k
                  refine AW.retF (ow := []) (muts := []) ?_ (fun h => And.intro (.inr rfl) h)
                  first | (rw [procF_len (by simpa using hc)]; simp [go_sem, Tryz.results120]; done) | (rw [procF_ok hR h1 h2 h3]; simp [go_sem, Tryz.results120]; done) | (rw [procF_ty hR h1 h2 hlt hal3 (by first | assumption | simpa using hc)]; simp [go_sem, Tryz.results120]; done) | (rw [procF_shape hR h1 hlt hal2 (by first | assumption | simpa using hc)]; simp [go_sem, Tryz.results120]; done) | (rw [procF_one hR hlt hall (by rw [hxo]; first | assumption | simpa using hc), hxo]; simp [go_sem, Tryz.results120]))
              · intro hc; try simp at hc
                all_goals (
                  refine AW.skipN (fun _ h => h) ?_
                  refine AW.regK tiOk (fun _ => []) ?_
                  intro k hk; simp -dsimp [go_sem, -decide_eq_true_eq, -decide_eq_false_iff_not]
                  repeat' (first | refine And.intro ?_ ?_ | refine hk _ ?_ | intro hg | omega | exact True.intro)
                  all_goals clear hk k
                  show ∃ _, _
                  have hw := wrapi hlt (by omega)
                  refine ⟨i + 1, ⟨by omega, upto hal2 (by first | assumption | simpa using hc)⟩, by omega, Less.of rfl (by simp [go_sem, hw]) (by simp [go_sem])⟩))
          · intro hc; try simp at hc
            all_goals (
              refine AW.exitN (fun _ h => h) ?_
              refine AW.seq ?_
              have h2 : ∀ k, k < p.length → shapeF p k = 0 := fun k hk => hal2 k (by omega)
              refine AW.reg tiOk (fun _ => []) [43, 44, 45] ?_
              intro k hk; simp -dsimp [go_sem, -decide_eq_true_eq, -decide_eq_false_iff_not]
              repeat' (first | refine And.intro ?_ ?_ | refine hk _ ?_ | intro hg | omega | exact True.intro)
              all_goals clear hk k
              refine AW.block ?_
              -- live at the loop's head: [43, 44, 45]
              refine AW.loopI (fun i : Nat => ⟨61, [(43, .isl 6 (p.map TStep.ro)), (44, .int .i64 p.length), (45, .int .i64 i)], []⟩) (fun i => i ≤ p.length ∧ ∀ k, k < i → tyF p k = 0) (fun i => p.length - i) (0) (by simp) (Less.of rfl (by simp [go_sem]) (by simp [go_sem])) ?_
              rintro i ⟨hi, hal3⟩
              refine AW.reg tiOk (fun _ => []) [43, 44, 45, 46] ?_
              intro k hk; simp -dsimp [go_sem, -decide_eq_true_eq, -decide_eq_false_iff_not]
              repeat' (first | refine And.intro ?_ ?_ | refine hk _ ?_ | intro hg | omega | exact True.intro)
              all_goals clear hk k
              refine AW.seq ?_
              refine AW.cond rfl ?_ ?_
              · intro hc; try simp at hc
                all_goals (
                  have hlt : i < p.length := by assumption
                  obtain ⟨x, hx⟩ := at_some hlt
                  have hxt := tyF_at hx
                  obtain ⟨g0, g1, g2⟩ := hg x (List.mem_of_getElem? hx)
                  have hfc : firstC [typF x.cond 2, typF x.expr 1] = tyF p i := by rw [hxt]; simp [firstC_cons, firstC_nil] <;> grind
                  refine AW.skipN (fun _ h => h) ?_
                  refine AW.seq ?_
                  refine AW.block ?_
                  refine AW.reg tiOk (fun _ => []) [10, 43, 44, 45] ?_
                  intro k hk; simp -dsimp [go_sem, -decide_eq_true_eq, -decide_eq_false_iff_not, hx, hfc]
                  repeat' (first | refine And.intro ?_ ?_ | refine hk _ ?_ | intro hg | omega | exact True.intro)
                  all_goals clear hk k
                  refine AW.reg tiOk (fun _ => []) [11, 43, 44, 45] ?_
                  intro k hk; simp -dsimp (maxSteps := 2000000) [go_sem, -decide_eq_true_eq, -decide_eq_false_iff_not, hx, hfc]
                  repeat' (first | refine And.intro ?_ ?_ | (refine Chk.keys ?_; simp only [go_sem, List.map_cons, List.map_nil, List.flatMap_cons, List.flatMap_nil, List.flatMap_append, List.append_nil, List.nil_append, List.cons_append]; decide +kernel) | refine hk _ ?_ | intro hg | (refine CallK.intro (dc_impl_typeFault x.cond 2 g1) ?_; simp -dsimp (maxSteps := 2000000) [go_sem, -decide_eq_true_eq, -decide_eq_false_iff_not, hx, hfc]) | (refine CallK.intro (dc_impl_typeFault x.expr 1 g2) ?_; simp -dsimp (maxSteps := 2000000) [go_sem, -decide_eq_true_eq, -decide_eq_false_iff_not, hx, hfc]) | (refine CallK.intro (dc_impl_firstCode [_, _] (by simp)) ?_; simp -dsimp (maxSteps := 2000000) [go_sem, -decide_eq_true_eq, -decide_eq_false_iff_not, hx, hfc]) | (refine CallK.intro (dc_impl_firstCode [_, _, _] (by simp)) ?_; simp -dsimp (maxSteps := 2000000) [go_sem, -decide_eq_true_eq, -decide_eq_false_iff_not, hx, hfc]) | (refine CallK.intro (dc_impl_firstCode [_, _, _, _] (by simp)) ?_; simp -dsimp (maxSteps := 2000000) [go_sem, -decide_eq_true_eq, -decide_eq_false_iff_not, hx, hfc]) | omega | exact True.intro)
                  all_goals clear hk k
                  refine AW.reg tiOk (fun _ => []) [11, 43, 44, 45, 58] ?_
                  intro k hk; simp -dsimp [go_sem, -decide_eq_true_eq, -decide_eq_false_iff_not, hx, hfc]
                  repeat' (first | refine And.intro ?_ ?_ | refine hk _ ?_ | intro hg | omega | exact True.intro)
                  all_goals clear hk k
                  refine AW.cond rfl ?_ ?_
                  · intro hc; try simp at hc
                    all_goals (
                      refine AW.reg tiOk (fun _ => []) [2] ?_
                      intro k hk; simp -dsimp [go_sem, -decide_eq_true_eq, -decide_eq_false_iff_not, hx, hfc]
                      repeat' (first | refine And.intro ?_ ?_ | refine hk _ ?_ | intro hg | omega | exact True.intro)
                      all_goals clear hk k
                      refine AW.retF (ow := []) (muts := []) ?_ (fun h => And.intro (.inr rfl) h)
                      first | (rw [procF_len (by simpa using hc)]; simp [go_sem, Tryz.results120]; done) | (rw [procF_ok hR h1 h2 h3]; simp [go_sem, Tryz.results120]; done) | (rw [procF_ty hR h1 h2 hlt hal3 (by first | assumption | simpa using hc)]; simp [go_sem, Tryz.results120]; done) | (rw [procF_shape hR h1 hlt hal2 (by first | assumption | simpa using hc)]; simp [go_sem, Tryz.results120]; done) | (rw [procF_one hR hlt hall (by rw [hxo]; first | assumption | simpa using hc), hxo]; simp [go_sem, Tryz.results120]))
                  · intro hc; try simp at hc
                    all_goals (
                      refine AW.skipN (fun _ h => h) ?_
                      refine AW.regK tiOk (fun _ => []) ?_
                      intro k hk; simp -dsimp [go_sem, -decide_eq_true_eq, -decide_eq_false_iff_not, hx, hfc]
                      repeat' (first | refine And.intro ?_ ?_ | refine hk _ ?_ | intro hg | omega | exact True.intro)
                      all_goals clear hk k
                      show ∃ _, _
                      have hw := wrapi hlt (by omega)
                      refine ⟨i + 1, ⟨by omega, upto hal3 (by first | assumption | simpa using hc)⟩, by omega, Less.of rfl (by simp [go_sem, hw]) (by simp [go_sem])⟩))
              · intro hc; try simp at hc
                all_goals (
                  refine AW.exitN (fun _ h => h) ?_
                  have h3 : ∀ k, k < p.length → tyF p k = 0 := fun k hk => hal3 k (by omega)
                  refine AW.reg tiOk (fun _ => []) [2] ?_
                  intro k hk; simp -dsimp [go_sem, -decide_eq_true_eq, -decide_eq_false_iff_not]
                  repeat' (first | refine And.intro ?_ ?_ | refine hk _ ?_ | intro hg | omega | exact True.intro)
                  all_goals clear hk k
                  refine AW.retF (ow := []) (muts := []) ?_ (fun h => And.intro (.inr rfl) h)
                  first | (rw [procF_len (by simpa using hc)]; simp [go_sem, Tryz.results120]; done) | (rw [procF_ok hR h1 h2 h3]; simp [go_sem, Tryz.results120]; done) | (rw [procF_ty hR h1 h2 hlt hal3 (by first | assumption | simpa using hc)]; simp [go_sem, Tryz.results120]; done) | (rw [procF_shape hR h1 hlt hal2 (by first | assumption | simpa using hc)]; simp [go_sem, Tryz.results120]; done) | (rw [procF_one hR hlt hall (by rw [hxo]; first | assumption | simpa using hc), hxo]; simp [go_sem, Tryz.results120])))))

end Go.AM

/-! ### H1 -/
set_option linter.unusedVariables false
set_option linter.unusedSimpArgs false
namespace Go.AM
open Go.Proofs

end Go.AM

/-! ### H2 -/
set_option linter.unusedVariables false
set_option linter.unusedSimpArgs false
namespace Go.AM
open Go.Proofs

end Go.AM

/-! ### H3 -/
set_option linter.unusedVariables false
set_option linter.unusedSimpArgs false
namespace Go.AM
open Go.Proofs

end Go.AM

/-! ### K1 -/
set_option linter.unusedVariables false
set_option linter.unusedSimpArgs false
namespace Go.AM
open Go.Proofs

set_option maxHeartbeats 600000 in
set_option linter.unusedSimpArgs false in
set_option maxRecDepth 100000 in
/-- impl.procsFault -/
theorem dc_impl_procsFault (l : List TProc) (hl : l.length ≤ 9223372036854775807 ∧ ∀ e ∈ l, e.gok) : DC Tryz.prog 86 [.isl 1 (l.map TProc.ro)] (.int .i64 (procsF l)) [] := by
  obtain ⟨hl, hg⟩ := hl
  refine DC.intro tiOk Tryz.func86 rfl rfl rfl rfl rfl rfl rfl rfl [] ?_
  refine AW.reg tiOk (fun _ => []) [0] ?_
  intro k hk; simp -dsimp [go_sem, -decide_eq_true_eq, -decide_eq_false_iff_not]
  repeat' (first | refine And.intro ?_ ?_ | refine hk _ ?_ | intro hg | omega | exact True.intro)
  all_goals clear hk k
  refine AW.seq ?_
  refine AW.reg tiOk (fun _ => []) [0, 9] ?_
  intro k hk; simp -dsimp (maxSteps := 2000000) [go_sem, -decide_eq_true_eq, -decide_eq_false_iff_not]
  repeat' (first | refine And.intro ?_ ?_ | refine hk _ ?_ | intro hg | (refine CallK.intro (dc_impl_inRange _ _ _) ?_; simp -dsimp (maxSteps := 2000000) [go_sem, -decide_eq_true_eq, -decide_eq_false_iff_not]) | omega | exact True.intro)
  all_goals clear hk k
  refine AW.cond rfl ?_ ?_
  · intro hc; try simp at hc
    all_goals (
      refine AW.reg tiOk (fun _ => []) [2] ?_
      intro k hk; simp -dsimp [go_sem, -decide_eq_true_eq, -decide_eq_false_iff_not]
      repeat' (first | refine And.intro ?_ ?_ | refine hk _ ?_ | intro hg | omega | exact True.intro)
      all_goals clear hk k
      refine AW.retF (ow := []) (muts := []) ?_ (fun h => And.intro (.inr rfl) h)
      first | (rw [procsF_ok hR (fun k hk => hall k (by omega))]; simp [go_sem, Tryz.results86]; done) | (rw [procsF_hit hR hlt hall (by rw [hxp]; first | assumption | simpa using hc), hxp]; simp [go_sem, Tryz.results86]; done) | (rw [procsF_len (by simpa using hc)]; simp [go_sem, Tryz.results86]))
  · intro hc; try simp at hc
    all_goals (
      refine AW.skipN (fun _ h => h) ?_
      refine AW.seq ?_
      have hR : inR l.length 1 3 = true := by simpa using hc
      refine AW.reg tiOk (fun _ => []) [10, 11, 12] ?_
      intro k hk; simp -dsimp [go_sem, -decide_eq_true_eq, -decide_eq_false_iff_not]
      repeat' (first | refine And.intro ?_ ?_ | refine hk _ ?_ | intro hg | omega | exact True.intro)
      all_goals clear hk k
      refine AW.block ?_
      -- live at the loop's head: [10, 11, 12]
      refine AW.loopI (fun i : Nat => ⟨23, [(10, .isl 1 (l.map TProc.ro)), (11, .int .i64 l.length), (12, .int .i64 i)], []⟩) (fun i => i ≤ l.length ∧ ∀ k, k < i → procAt l k = 0) (fun i => l.length - i) (0) (by simp) (Less.of rfl (by simp [go_sem]) (by simp [go_sem])) ?_
      rintro i ⟨hi, hall⟩
      refine AW.reg tiOk (fun _ => []) [10, 11, 12, 13] ?_
      intro k hk; simp -dsimp [go_sem, -decide_eq_true_eq, -decide_eq_false_iff_not]
      repeat' (first | refine And.intro ?_ ?_ | refine hk _ ?_ | intro hg | omega | exact True.intro)
      all_goals clear hk k
      refine AW.seq ?_
      refine AW.cond rfl ?_ ?_
      · intro hc; try simp at hc
        all_goals (
          have hlt : i < l.length := by assumption
          obtain ⟨x, hx⟩ := at_some hlt
          have hxp := procAt_at hx
          have gx : x.steps.length ≤ 9223372036854775807 ∧ ∀ e ∈ x.steps, e.gok := hg x (List.mem_of_getElem? hx)
          refine AW.skipN (fun _ h => h) ?_
          refine AW.seq ?_
          refine AW.block ?_
          refine AW.reg tiOk (fun _ => []) [4, 10, 11, 12] ?_
          intro k hk; simp -dsimp [go_sem, -decide_eq_true_eq, -decide_eq_false_iff_not, hx]
          repeat' (first | refine And.intro ?_ ?_ | refine hk _ ?_ | intro hg | omega | exact True.intro)
          all_goals clear hk k
          refine AW.reg tiOk (fun _ => []) [5, 10, 11, 12] ?_
          intro k hk; simp -dsimp (maxSteps := 2000000) [go_sem, -decide_eq_true_eq, -decide_eq_false_iff_not, hx]
          repeat' (first | refine And.intro ?_ ?_ | refine hk _ ?_ | intro hg | (refine CallK.intro (dc_impl_ProcFault x.steps gx.1 gx.2) ?_; simp -dsimp (maxSteps := 2000000) [go_sem, -decide_eq_true_eq, -decide_eq_false_iff_not, hx]) | omega | exact True.intro)
          all_goals clear hk k
          refine AW.reg tiOk (fun _ => []) [5, 10, 11, 12, 20] ?_
          intro k hk; simp -dsimp [go_sem, -decide_eq_true_eq, -decide_eq_false_iff_not, hx]
          repeat' (first | refine And.intro ?_ ?_ | refine hk _ ?_ | intro hg | omega | exact True.intro)
          all_goals clear hk k
          refine AW.cond rfl ?_ ?_
          · intro hc; try simp at hc
            all_goals (
              refine AW.reg tiOk (fun _ => []) [2] ?_
              intro k hk; simp -dsimp [go_sem, -decide_eq_true_eq, -decide_eq_false_iff_not, hx]
              repeat' (first | refine And.intro ?_ ?_ | refine hk _ ?_ | intro hg | omega | exact True.intro)
              all_goals clear hk k
              refine AW.retF (ow := []) (muts := []) ?_ (fun h => And.intro (.inr rfl) h)
              first | (rw [procsF_ok hR (fun k hk => hall k (by omega))]; simp [go_sem, Tryz.results86]; done) | (rw [procsF_hit hR hlt hall (by rw [hxp]; first | assumption | simpa using hc), hxp]; simp [go_sem, Tryz.results86]; done) | (rw [procsF_len (by simpa using hc)]; simp [go_sem, Tryz.results86]))
          · intro hc; try simp at hc
            all_goals (
              refine AW.skipN (fun _ h => h) ?_
              refine AW.regK tiOk (fun _ => []) ?_
              intro k hk; simp -dsimp [go_sem, -decide_eq_true_eq, -decide_eq_false_iff_not, hx]
              repeat' (first | refine And.intro ?_ ?_ | refine hk _ ?_ | intro hg | omega | exact True.intro)
              all_goals clear hk k
              show ∃ _, _
              have hw := wrapi hlt (by omega)
              refine ⟨i + 1, ⟨by omega, upto hall (by rw [hxp]; first | assumption | simpa using hc)⟩, by omega, Less.of rfl (by simp [go_sem, hw]) (by simp [go_sem])⟩))
      · intro hc; try simp at hc
        all_goals (
          refine AW.exitN (fun _ h => h) ?_
          refine AW.reg tiOk (fun _ => []) [2] ?_
          intro k hk; simp -dsimp [go_sem, -decide_eq_true_eq, -decide_eq_false_iff_not]
          repeat' (first | refine And.intro ?_ ?_ | refine hk _ ?_ | intro hg | omega | exact True.intro)
          all_goals clear hk k
          refine AW.retF (ow := []) (muts := []) ?_ (fun h => And.intro (.inr rfl) h)
          first | (rw [procsF_ok hR (fun k hk => hall k (by omega))]; simp [go_sem, Tryz.results86]; done) | (rw [procsF_hit hR hlt hall (by rw [hxp]; first | assumption | simpa using hc), hxp]; simp [go_sem, Tryz.results86]; done) | (rw [procsF_len (by simpa using hc)]; simp [go_sem, Tryz.results86])))

end Go.AM

/-! ### G7 -/
set_option linter.unusedVariables false
set_option linter.unusedSimpArgs false
namespace Go.AM
open Go.Proofs

set_option maxHeartbeats 600000 in
set_option linter.unusedSimpArgs false in
set_option maxRecDepth 100000 in
/-- spec.l4Deep -/
theorem dc_spec_l4Deep (p : List TStep) (hp : p.length ≤ 24) (m : Nat) (hm : m ≤ p.length) (hl : ParOk ((pars p).take m)) (a : Int) (ha : -1 ≤ a ∧ a < m) : DC Tryz.prog 161 [.isl 6 (p.map TStep.ro), .int .i64 a] (.int .i64 (dep ((pars p).take m) a)) [] := by
  have hL : ((pars p).take m).length = m := take_len hm
  have hd1 := dep_small hl (a := a) (by omega)
  refine DC.intro tiOk Tryz.func161 rfl rfl rfl rfl rfl rfl rfl rfl [] ?_
  refine AW.reg tiOk (fun _ => []) [0, 1] ?_
  intro k hk; simp -dsimp [go_sem, -decide_eq_true_eq, -decide_eq_false_iff_not]
  repeat' (first | refine And.intro ?_ ?_ | refine hk _ ?_ | intro hg | omega | exact True.intro)
  all_goals clear hk k
  refine AW.reg tiOk (fun _ => []) [0, 1, 5] ?_
  intro k hk; simp -dsimp [go_sem, -decide_eq_true_eq, -decide_eq_false_iff_not]
  repeat' (first | refine And.intro ?_ ?_ | refine hk _ ?_ | intro hg | omega | exact True.intro)
  all_goals clear hk k
  refine AW.seq ?_
  refine AW.block ?_
  -- live at the loop's head: [0, 1, 5]
  refine AW.loopI (fun j : Int × Int => ⟨20, [(0, .isl 6 (p.map TStep.ro)), (1, .int .i64 j.1), (5, .int .i64 j.2)], []⟩) (fun j => -1 ≤ j.1 ∧ j.1 < m ∧ j.2 + dep ((pars p).take m) j.1 = dep ((pars p).take m) a ∧ 0 ≤ j.2) (fun j => (j.1 + 1).toNat) ((a, 0)) (by refine ⟨by simp only; omega, by simp only; omega, by simp only; omega, by simp only; omega⟩) (Less.of rfl (by simp [go_sem]) (by simp [go_sem])) ?_
  rintro ⟨b, n⟩ ⟨hb1, hb2, hinv, hn0⟩
  simp only at hb1 hb2 hinv hn0
  have hd2 := dep_small hl (a := b) (by omega)
  have hn50 : n < 50 := by omega
  refine AW.seq ?_
  refine AW.cut ⟨20, [(0, .isl 6 (p.map TStep.ro)), (1, .int .i64 b), (5, .int .i64 n), (11, .bool (decide (0 ≤ b)))], []⟩ ?_ ?_
  · skip
    refine AW.regK tiOk (fun _ => []) ?_
    intro k hk; simp +contextual -dsimp [go_sem, -decide_eq_true_eq, -decide_eq_false_iff_not]
    repeat' (first | refine And.intro ?_ ?_ | refine hk _ ?_ | (intro hg; try simp only [decide_eq_true_eq, decide_eq_false_iff_not] at hg) | omega | exact True.intro)
    all_goals clear hk k
    all_goals (show St.Less _ _; exact Less.of rfl (by simp [go_sem] <;> first | omega | grind) (by simp [go_sem]))
  · skip
    refine AW.cond rfl ?_ ?_
    · intro hc; try simp at hc
      all_goals try (exfalso; omega; done)
      all_goals (
        have h0 : 0 ≤ b := by simpa using hc
        obtain ⟨k, hk⟩ : ∃ k : Nat, b = k := ⟨_, (Int.toNat_of_nonneg h0).symm⟩
        subst hk
        obtain ⟨x, hx⟩ := at_some (l := p) (show k < p.length by omega)
        have hpk := hl k (by omega)
        have hpa := pars_at hx (m := m) (by omega)
        rw [hpa] at hpk
        have hde := dep_eq hl h0 (by omega)
        rw [Int.toNat_natCast, hpa] at hde
        have hwn : IntKind.wrap .i64 (n + 1) = n + 1 := wrap64 (by omega) (by omega)
        refine AW.skipN (fun _ h => h) ?_
        refine AW.block ?_
        refine AW.reg tiOk (fun _ => []) [0, 1, 5] ?_
        intro k hk; simp -dsimp [go_sem, -decide_eq_true_eq, -decide_eq_false_iff_not, hx, hwn]
        repeat' (first | refine And.intro ?_ ?_ | refine hk _ ?_ | intro hg | omega | exact True.intro)
        all_goals clear hk k
        refine AW.regK tiOk (fun _ => []) ?_
        intro k hk; simp -dsimp [go_sem, -decide_eq_true_eq, -decide_eq_false_iff_not, hx, hwn]
        repeat' (first | refine And.intro ?_ ?_ | refine hk _ ?_ | intro hg | omega | exact True.intro)
        all_goals clear hk k
        show ∃ _, _
        refine ⟨(x.par, n + 1), ⟨by simp only; omega, by simp only; omega, by simp only; omega, by simp only; omega⟩, by simp only; omega, Less.of rfl (by simp [go_sem]) (by simp [go_sem])⟩)
    · intro hc; try simp at hc
      all_goals try (exfalso; omega; done)
      all_goals (
        refine AW.exitN (fun _ h => h) ?_
        refine AW.reg tiOk (fun _ => []) [4] ?_
        intro k hk; simp -dsimp [go_sem, -decide_eq_true_eq, -decide_eq_false_iff_not]
        repeat' (first | refine And.intro ?_ ?_ | refine hk _ ?_ | intro hg | omega | exact True.intro)
        all_goals clear hk k
        refine AW.retF (ow := []) (muts := []) ?_ (fun h => And.intro (.inr rfl) h)
        have hbn : b < 0 := (by simpa using hc)
        rw [dep_neg hbn] at hinv
        rw [← hinv]
        simp [go_sem, Tryz.results161])

set_option maxHeartbeats 600000 in
set_option linter.unusedSimpArgs false in
set_option maxRecDepth 100000 in
/-- spec.l4Line -/
theorem dc_spec_l4Line (p : List TStep) (hp : p.length ≤ 24) (i : Nat) (x : TStep) (hx : p[i]? = some x) (h0 : 0 < i) (hl : ParOk ((pars p).take i)) : DC Tryz.prog 160 [.isl 6 (p.map TStep.ro), .int .i64 (i : Nat)] (.bool (upB ((pars p).take i) ((i : Int) - 1) x.par)) [] := by
  have hi := at_lt hx
  have hL : ((pars p).take i).length = i := take_len (by omega)
  have hwi : IntKind.wrap .i64 ((i : Int) - 1) = (i : Int) - 1 := wrap64 (by omega) (by omega)
  refine DC.intro tiOk Tryz.func160 rfl rfl rfl rfl rfl rfl rfl rfl [] ?_
  refine AW.reg tiOk (fun _ => []) [0, 1] ?_
  intro k hk; simp -dsimp [go_sem, -decide_eq_true_eq, -decide_eq_false_iff_not, hx, hwi]
  repeat' (first | refine And.intro ?_ ?_ | refine hk _ ?_ | intro hg | omega | exact True.intro)
  all_goals clear hk k
  refine AW.seq ?_
  refine AW.reg tiOk (fun _ => []) [0, 1, 5] ?_
  intro k hk; simp -dsimp [go_sem, -decide_eq_true_eq, -decide_eq_false_iff_not, hx, hwi]
  repeat' (first | refine And.intro ?_ ?_ | refine hk _ ?_ | intro hg | omega | exact True.intro)
  all_goals clear hk k
  refine AW.block ?_
  -- live at the loop's head: [0, 1, 5]
  refine AW.loopI (fun a : Int => ⟨22, [(0, .isl 6 (p.map TStep.ro)), (1, .int .i64 (i : Nat)), (5, .int .i64 a)], []⟩) (fun a => -1 ≤ a ∧ a < i ∧ upB ((pars p).take i) a x.par = upB ((pars p).take i) ((i : Int) - 1) x.par) (fun a => (a + 1).toNat) ((i : Int) - 1) (by refine ⟨by omega, by omega, rfl⟩) (Less.of rfl (by simp [go_sem]) (by simp [go_sem])) ?_
  rintro a ⟨ha0, ha1, hinv⟩
  refine AW.seq ?_
  refine AW.reg tiOk (fun _ => []) [0, 1, 5, 9] ?_
  intro k hk; simp -dsimp [go_sem, -decide_eq_true_eq, -decide_eq_false_iff_not, hx, hwi]
  repeat' (first | refine And.intro ?_ ?_ | refine hk _ ?_ | intro hg | omega | exact True.intro)
  all_goals clear hk k
  refine AW.cond rfl ?_ ?_
  · intro hc; try simp at hc
    all_goals (
      have h0a : 0 ≤ a := by simpa using hc
      obtain ⟨k, hk⟩ : ∃ k : Nat, a = k := ⟨_, (Int.toNat_of_nonneg h0a).symm⟩
      subst hk
      obtain ⟨y, hy⟩ := at_some (l := p) (show k < p.length by omega)
      have hpk := hl k (by omega)
      have hpa := pars_at hy (m := i) (by omega)
      rw [hpa] at hpk
      refine AW.skipN (fun _ h => h) ?_
      refine AW.seq ?_
      refine AW.block ?_
      refine AW.reg tiOk (fun _ => []) [0, 1, 5, 21] ?_
      intro k hk; simp -dsimp (maxSteps := 2000000) [go_sem, -decide_eq_true_eq, -decide_eq_false_iff_not, hx, hwi, hy]
      repeat' (first | refine And.intro ?_ ?_ | refine hk _ ?_ | intro hg | omega | exact True.intro)
      all_goals clear hk k
      refine AW.cond rfl ?_ ?_
      · intro hc; try simp at hc
        all_goals (
          refine AW.reg tiOk (fun _ => []) [4] ?_
          intro k hk; simp -dsimp [go_sem, -decide_eq_true_eq, -decide_eq_false_iff_not, hx, hwi, hy]
          repeat' (first | refine And.intro ?_ ?_ | refine hk _ ?_ | intro hg | omega | exact True.intro)
          all_goals clear hk k
          refine AW.retF (ow := []) (muts := []) ?_ (fun h => And.intro (.inr rfl) h)
          first | (have hu : upB ((pars p).take i) ((i : Int) - 1) x.par = true := (by rw [← hinv, upB_eq hl h0a (by omega), if_pos (by first | assumption | simpa using hc)]); simp [go_sem, Tryz.results160, hu]; done) | (have hu : upB ((pars p).take i) ((i : Int) - 1) x.par = false := (by rw [← hinv]; exact upB_neg (by omega)); simp [go_sem, Tryz.results160, hu]))
      · intro hc; try simp at hc
        all_goals (
          refine AW.skipN (fun _ h => h) ?_
          refine AW.regK tiOk (fun _ => []) ?_
          intro k hk; simp -dsimp [go_sem, -decide_eq_true_eq, -decide_eq_false_iff_not, hx, hwi, hy]
          repeat' (first | refine And.intro ?_ ?_ | refine hk _ ?_ | intro hg | omega | exact True.intro)
          all_goals clear hk k
          show ∃ _, _
          refine ⟨y.par, ⟨by omega, by omega, ?_⟩, by omega, Less.of rfl (by simp [go_sem]) (by simp [go_sem])⟩
          rw [← hinv, upB_eq hl h0a (by omega), if_neg (by first | assumption | simpa using hc), Int.toNat_natCast, hpa]))
  · intro hc; try simp at hc
    all_goals (
      refine AW.exitN (fun _ h => h) ?_
      refine AW.reg tiOk (fun _ => []) [4] ?_
      intro k hk; simp -dsimp [go_sem, -decide_eq_true_eq, -decide_eq_false_iff_not, hx, hwi]
      repeat' (first | refine And.intro ?_ ?_ | refine hk _ ?_ | intro hg | omega | exact True.intro)
      all_goals clear hk k
      refine AW.retF (ow := []) (muts := []) ?_ (fun h => And.intro (.inr rfl) h)
      first | (have hu : upB ((pars p).take i) ((i : Int) - 1) x.par = true := (by rw [← hinv, upB_eq hl h0a (by omega), if_pos (by first | assumption | simpa using hc)]); simp [go_sem, Tryz.results160, hu]; done) | (have hu : upB ((pars p).take i) ((i : Int) - 1) x.par = false := (by rw [← hinv]; exact upB_neg (by omega)); simp [go_sem, Tryz.results160, hu]))

end Go.AM

/-! ### F3 -/
set_option linter.unusedVariables false
set_option linter.unusedSimpArgs false
namespace Go.AM
open Go.Proofs

set_option maxHeartbeats 600000 in
set_option linter.unusedSimpArgs false in
set_option maxRecDepth 100000 in
/-- spec.l3Walk -/
theorem dc_spec_l3Walk_n (e : List TNode) (hP : PartsOk e e.length) (h16 : e.length ≤ 16) (i : Nat) (hi : i < e.length) (ihn : ∀ j : Nat, j < i → DC Tryz.prog 183 [.isl 4 (e.map TNode.ro), .int .i64 ((j : Nat) : Int), .nils] (.osl 1 ((wkF e j []).map N1)) []) (iho : ∀ j : Nat, j < i → ∀ out : List Nat, out.length ≤ 40 → DC Tryz.prog 183 [.isl 4 (e.map TNode.ro), .int .i64 ((j : Nat) : Int), .osl 1 (out.map N1)] (.osl 1 ((wkF e j out).map N1)) []) : DC Tryz.prog 183 [.isl 4 (e.map TNode.ro), .int .i64 ((i : Nat) : Int), .nils] (.osl 1 ((wkF e i []).map N1)) [] := by
  obtain ⟨x, hx⟩ := at_some hi
  have hxA := nA_at hx
  have hpx := hP i hi
  rw [nodeAt_at hx] at hpx
  have hq := nodeF_parts hpx
  refine DC.intro tiOk Tryz.func183 rfl rfl rfl rfl rfl rfl rfl rfl [1000] ?_
  refine AW.reg tiOk (fun _ => []) [0, 1, 2] ?_
  intro k hk; simp -dsimp [go_sem, -decide_eq_true_eq, -decide_eq_false_iff_not, hx, hxA]
  repeat' (first | refine And.intro ?_ ?_ | refine hk _ ?_ | intro hg | omega | exact True.intro)
  all_goals clear hk k
  refine AW.seq ?_
  refine AW.reg tiOk (fun _ => []) [0, 1, 2, 9] ?_
  intro k hk; simp -dsimp [go_sem, -decide_eq_true_eq, -decide_eq_false_iff_not, hx, hxA]
  repeat' (first | refine And.intro ?_ ?_ | refine hk _ ?_ | intro hg | omega | exact True.intro)
  all_goals clear hk k
  refine AW.cond rfl ?_ ?_
  · intro hc; try simp at hc
    all_goals try (exfalso; first | omega | (have hk9 := inR_iff.1 hc; omega); done)
    all_goals (
      refine AW.reg tiOk (fun _ => []) [6] ?_
      intro k hk; simp -dsimp [go_sem, -decide_eq_true_eq, -decide_eq_false_iff_not, hx, hxA]
      repeat' (first | refine And.intro ?_ ?_ | refine hk _ ?_ | intro hg | omega | exact True.intro)
      all_goals clear hk k
      refine AW.retF (ow := [1000]) (muts := []) ?_ (fun h => And.intro (.inr rfl) h)
      rw [wkF_eq hP hi]; (try (first | rw [if_neg (show ¬ 16 < out.length by omega)] | rw [if_pos (show 16 < out.length by omega)])); simp [go_sem, Tryz.results183, *] <;> first | (intro h9; omega) | (simp_all; done) | omega | grind)
  · intro hc; try simp at hc
    all_goals try (exfalso; first | omega | (have hk9 := inR_iff.1 hc; omega); done)
    all_goals (
      refine AW.skipN (fun _ h => h) ?_
      refine AW.seq ?_
      refine AW.reg tiOk (fun _ => []) [0, 1, 2, 16] ?_
      intro k hk; simp -dsimp [go_sem, -decide_eq_true_eq, -decide_eq_false_iff_not, hx, hxA]
      repeat' (first | refine And.intro ?_ ?_ | refine hk _ ?_ | intro hg | omega | exact True.intro)
      all_goals clear hk k
      refine AW.cond rfl ?_ ?_
      · intro hc; try simp at hc
        all_goals try (exfalso; first | omega | (have hk9 := inR_iff.1 hc; omega); done)
        all_goals (
          have hk0 : 2 < x.kind := by simpa using hc
          have hl := left_of hpx hk0
          obtain ⟨a, ha⟩ : ∃ a : Nat, x.left = a := ⟨_, (Int.toNat_of_nonneg hl.1).symm⟩
          have hla : x.left.toNat = a := by omega
          have hwa := wkF_len (e := e) (i := a) (out := []) (by first | assumption | simp) (by omega)
          refine AW.regN tiOk (fun i => if i = 7 then [2] else []) [0, 1, 2] (fun _ h => h) ?_
          intro k hk; simp -dsimp (maxSteps := 2000000) [go_sem, -decide_eq_true_eq, -decide_eq_false_iff_not, hx, hxA, ha]
          repeat' (first | refine And.intro ?_ ?_ | refine hk _ ?_ | intro hg | (refine CallK.intro (ihn a (by omega)) ?_; simp -dsimp (maxSteps := 2000000) [go_sem, -decide_eq_true_eq, -decide_eq_false_iff_not, hx, hxA, ha]) | (refine CallK.intro (iho b (by omega) _ hwa) ?_; simp -dsimp (maxSteps := 2000000) [go_sem, -decide_eq_true_eq, -decide_eq_false_iff_not, hx, hxA, ha]) | omega | exact True.intro)
          all_goals clear hk k
          refine AW.seq ?_
          refine AW.reg tiOk (fun _ => []) [0, 1, 2, 30] ?_
          intro k hk; simp -dsimp (maxSteps := 2000000) [go_sem, -decide_eq_true_eq, -decide_eq_false_iff_not, hx, hxA]
          repeat' (first | refine And.intro ?_ ?_ | refine hk _ ?_ | intro hg | (refine CallK.intro (dc_spec_l3Two _) ?_; simp -dsimp (maxSteps := 2000000) [go_sem, -decide_eq_true_eq, -decide_eq_false_iff_not, hx, hxA]) | omega | exact True.intro)
          all_goals clear hk k
          refine AW.cond rfl ?_ ?_
          · intro hc; try simp at hc
            all_goals try (exfalso; first | omega | (have hk9 := inR_iff.1 hc; omega); done)
            all_goals (
              have hk2 : isTwoB x.kind = true := by simpa using hc
              have hr := hq.2.1 hk2
              have hk3 := inR_iff.1 hk2
              obtain ⟨b, hb⟩ : ∃ b : Nat, x.right = b := ⟨_, (Int.toNat_of_nonneg hr.2.2.1).symm⟩
              have hrb : x.right.toNat = b := by omega
              refine AW.regN tiOk (fun i => if i = 7 then [2] else []) [1, 2] (fun _ h => h) ?_
              intro k hk; simp -dsimp (maxSteps := 2000000) [go_sem, -decide_eq_true_eq, -decide_eq_false_iff_not, hx, hxA, hb]
              repeat' (first | refine And.intro ?_ ?_ | refine hk _ ?_ | intro hg | (refine CallK.intro (ihn a (by omega)) ?_; simp -dsimp (maxSteps := 2000000) [go_sem, -decide_eq_true_eq, -decide_eq_false_iff_not, hx, hxA, hb]) | (refine CallK.intro (iho b (by omega) _ hwa) ?_; simp -dsimp (maxSteps := 2000000) [go_sem, -decide_eq_true_eq, -decide_eq_false_iff_not, hx, hxA, hb]) | omega | exact True.intro)
              all_goals clear hk k
              try (have hwb := wkF_len (e := e) (i := b) hwa (by omega))
              refine AW.reg tiOk (fun _ => []) [6] ?_
              intro k hk; simp -dsimp [go_sem, -decide_eq_true_eq, -decide_eq_false_iff_not, hx, hxA]
              repeat' (first | refine And.intro ?_ ?_ | refine hk _ ?_ | intro hg | omega | exact True.intro)
              all_goals clear hk k
              refine AW.retF (ow := [1000]) (muts := []) ?_ (fun h => And.intro (.inr rfl) h)
              rw [wkF_eq hP hi]; (try (first | rw [if_neg (show ¬ 16 < out.length by omega)] | rw [if_pos (show 16 < out.length by omega)])); simp [go_sem, Tryz.results183, *] <;> first | (intro h9; omega) | (simp_all; done) | omega | grind)
          · intro hc; try simp at hc
            all_goals try (exfalso; first | omega | (have hk9 := inR_iff.1 hc; omega); done)
            all_goals (
              refine AW.skipN (fun _ h => h) ?_
              try (have hwb := wkF_len (e := e) (i := b) hwa (by omega))
              refine AW.reg tiOk (fun _ => []) [6] ?_
              intro k hk; simp -dsimp [go_sem, -decide_eq_true_eq, -decide_eq_false_iff_not, hx, hxA]
              repeat' (first | refine And.intro ?_ ?_ | refine hk _ ?_ | intro hg | omega | exact True.intro)
              all_goals clear hk k
              refine AW.retF (ow := [1000]) (muts := []) ?_ (fun h => And.intro (.inr rfl) h)
              rw [wkF_eq hP hi]; (try (first | rw [if_neg (show ¬ 16 < out.length by omega)] | rw [if_pos (show 16 < out.length by omega)])); simp [go_sem, Tryz.results183, *] <;> first | (intro h9; omega) | (simp_all; done) | omega | grind))
      · intro hc; try simp at hc
        all_goals try (exfalso; first | omega | (have hk9 := inR_iff.1 hc; omega); done)
        all_goals (
          refine AW.skipN (fun _ h => h) ?_
          refine AW.seq ?_
          refine AW.reg tiOk (fun _ => []) [0, 1, 2, 30] ?_
          intro k hk; simp -dsimp (maxSteps := 2000000) [go_sem, -decide_eq_true_eq, -decide_eq_false_iff_not, hx, hxA]
          repeat' (first | refine And.intro ?_ ?_ | refine hk _ ?_ | intro hg | (refine CallK.intro (dc_spec_l3Two _) ?_; simp -dsimp (maxSteps := 2000000) [go_sem, -decide_eq_true_eq, -decide_eq_false_iff_not, hx, hxA]) | omega | exact True.intro)
          all_goals clear hk k
          refine AW.cond rfl ?_ ?_
          · intro hc; try simp at hc
            all_goals try (exfalso; first | omega | (have hk9 := inR_iff.1 hc; omega); done)
            all_goals (
              have hk2 : isTwoB x.kind = true := by simpa using hc
              have hr := hq.2.1 hk2
              have hk3 := inR_iff.1 hk2
              obtain ⟨b, hb⟩ : ∃ b : Nat, x.right = b := ⟨_, (Int.toNat_of_nonneg hr.2.2.1).symm⟩
              have hrb : x.right.toNat = b := by omega
              refine AW.regN tiOk (fun i => if i = 7 then [2] else []) [1, 2] (fun _ h => h) ?_
              intro k hk; simp -dsimp (maxSteps := 2000000) [go_sem, -decide_eq_true_eq, -decide_eq_false_iff_not, hx, hxA, hb]
              repeat' (first | refine And.intro ?_ ?_ | refine hk _ ?_ | intro hg | (refine CallK.intro (ihn a (by omega)) ?_; simp -dsimp (maxSteps := 2000000) [go_sem, -decide_eq_true_eq, -decide_eq_false_iff_not, hx, hxA, hb]) | (refine CallK.intro (iho b (by omega) _ hwa) ?_; simp -dsimp (maxSteps := 2000000) [go_sem, -decide_eq_true_eq, -decide_eq_false_iff_not, hx, hxA, hb]) | omega | exact True.intro)
              all_goals clear hk k
              try (have hwb := wkF_len (e := e) (i := b) hwa (by omega))
              refine AW.reg tiOk (fun _ => []) [6] ?_
              intro k hk; simp -dsimp [go_sem, -decide_eq_true_eq, -decide_eq_false_iff_not, hx, hxA]
              repeat' (first | refine And.intro ?_ ?_ | refine hk _ ?_ | intro hg | omega | exact True.intro)
              all_goals clear hk k
              refine AW.retF (ow := [1000]) (muts := []) ?_ (fun h => And.intro (.inr rfl) h)
              rw [wkF_eq hP hi]; (try (first | rw [if_neg (show ¬ 16 < out.length by omega)] | rw [if_pos (show 16 < out.length by omega)])); simp [go_sem, Tryz.results183, *] <;> first | (intro h9; omega) | (simp_all; done) | omega | grind)
          · intro hc; try simp at hc
            all_goals try (exfalso; first | omega | (have hk9 := inR_iff.1 hc; omega); done)
            all_goals (
              refine AW.skipN (fun _ h => h) ?_
              try (have hwb := wkF_len (e := e) (i := b) hwa (by omega))
              refine AW.reg tiOk (fun _ => []) [6] ?_
              intro k hk; simp -dsimp [go_sem, -decide_eq_true_eq, -decide_eq_false_iff_not, hx, hxA]
              repeat' (first | refine And.intro ?_ ?_ | refine hk _ ?_ | intro hg | omega | exact True.intro)
              all_goals clear hk k
              refine AW.retF (ow := [1000]) (muts := []) ?_ (fun h => And.intro (.inr rfl) h)
              rw [wkF_eq hP hi]; (try (first | rw [if_neg (show ¬ 16 < out.length by omega)] | rw [if_pos (show 16 < out.length by omega)])); simp [go_sem, Tryz.results183, *] <;> first | (intro h9; omega) | (simp_all; done) | omega | grind)))

set_option maxHeartbeats 600000 in
set_option linter.unusedSimpArgs false in
set_option maxRecDepth 100000 in
/-- spec.l3Walk -/
theorem dc_spec_l3Walk_o (e : List TNode) (hP : PartsOk e e.length) (h16 : e.length ≤ 16) (i : Nat) (hi : i < e.length) (out : List Nat) (ho : out.length ≤ 40) (ihn : ∀ j : Nat, j < i → DC Tryz.prog 183 [.isl 4 (e.map TNode.ro), .int .i64 ((j : Nat) : Int), .nils] (.osl 1 ((wkF e j []).map N1)) []) (iho : ∀ j : Nat, j < i → ∀ out : List Nat, out.length ≤ 40 → DC Tryz.prog 183 [.isl 4 (e.map TNode.ro), .int .i64 ((j : Nat) : Int), .osl 1 (out.map N1)] (.osl 1 ((wkF e j out).map N1)) []) : DC Tryz.prog 183 [.isl 4 (e.map TNode.ro), .int .i64 ((i : Nat) : Int), .osl 1 (out.map N1)] (.osl 1 ((wkF e i out).map N1)) [] := by
  obtain ⟨x, hx⟩ := at_some hi
  have hxA := nA_at hx
  have hpx := hP i hi
  rw [nodeAt_at hx] at hpx
  have hq := nodeF_parts hpx
  refine DC.intro tiOk Tryz.func183 rfl rfl rfl rfl rfl rfl rfl rfl [1000] ?_
  refine AW.reg tiOk (fun _ => []) [0, 1, 2] ?_
  intro k hk; simp -dsimp [go_sem, -decide_eq_true_eq, -decide_eq_false_iff_not, hx, hxA]
  repeat' (first | refine And.intro ?_ ?_ | refine hk _ ?_ | intro hg | omega | exact True.intro)
  all_goals clear hk k
  refine AW.seq ?_
  refine AW.reg tiOk (fun _ => []) [0, 1, 2, 9] ?_
  intro k hk; simp -dsimp [go_sem, -decide_eq_true_eq, -decide_eq_false_iff_not, hx, hxA]
  repeat' (first | refine And.intro ?_ ?_ | refine hk _ ?_ | intro hg | omega | exact True.intro)
  all_goals clear hk k
  refine AW.cond rfl ?_ ?_
  · intro hc; try simp at hc
    all_goals try (exfalso; first | omega | (have hk9 := inR_iff.1 hc; omega); done)
    all_goals (
      refine AW.reg tiOk (fun _ => []) [6] ?_
      intro k hk; simp -dsimp [go_sem, -decide_eq_true_eq, -decide_eq_false_iff_not, hx, hxA]
      repeat' (first | refine And.intro ?_ ?_ | refine hk _ ?_ | intro hg | omega | exact True.intro)
      all_goals clear hk k
      refine AW.retF (ow := [1000]) (muts := []) ?_ (fun h => And.intro (.inr rfl) h)
      rw [wkF_eq hP hi]; (try (first | rw [if_neg (show ¬ 16 < out.length by omega)] | rw [if_pos (show 16 < out.length by omega)])); simp [go_sem, Tryz.results183, *] <;> first | (intro h9; omega) | (simp_all; done) | omega | grind)
  · intro hc; try simp at hc
    all_goals try (exfalso; first | omega | (have hk9 := inR_iff.1 hc; omega); done)
    all_goals (
      refine AW.skipN (fun _ h => h) ?_
      refine AW.seq ?_
      refine AW.reg tiOk (fun _ => []) [0, 1, 2, 16] ?_
      intro k hk; simp -dsimp [go_sem, -decide_eq_true_eq, -decide_eq_false_iff_not, hx, hxA]
      repeat' (first | refine And.intro ?_ ?_ | refine hk _ ?_ | intro hg | omega | exact True.intro)
      all_goals clear hk k
      refine AW.cond rfl ?_ ?_
      · intro hc; try simp at hc
        all_goals try (exfalso; first | omega | (have hk9 := inR_iff.1 hc; omega); done)
        all_goals (
          have hk0 : 2 < x.kind := by simpa using hc
          have hl := left_of hpx hk0
          obtain ⟨a, ha⟩ : ∃ a : Nat, x.left = a := ⟨_, (Int.toNat_of_nonneg hl.1).symm⟩
          have hla : x.left.toNat = a := by omega
          have hwa := wkF_len (e := e) (i := a) (out := out) (by first | assumption | simp) (by omega)
          refine AW.regN tiOk (fun i => if i = 7 then [2] else []) [0, 1, 2] (fun _ h => h) ?_
          intro k hk; simp -dsimp (maxSteps := 2000000) [go_sem, -decide_eq_true_eq, -decide_eq_false_iff_not, hx, hxA, ha]
          repeat' (first | refine And.intro ?_ ?_ | refine hk _ ?_ | intro hg | (refine CallK.intro (iho a (by omega) _ ho) ?_; simp -dsimp (maxSteps := 2000000) [go_sem, -decide_eq_true_eq, -decide_eq_false_iff_not, hx, hxA, ha]) | (refine CallK.intro (iho b (by omega) _ hwa) ?_; simp -dsimp (maxSteps := 2000000) [go_sem, -decide_eq_true_eq, -decide_eq_false_iff_not, hx, hxA, ha]) | omega | exact True.intro)
          all_goals clear hk k
          refine AW.seq ?_
          refine AW.reg tiOk (fun _ => []) [0, 1, 2, 30] ?_
          intro k hk; simp -dsimp (maxSteps := 2000000) [go_sem, -decide_eq_true_eq, -decide_eq_false_iff_not, hx, hxA]
          repeat' (first | refine And.intro ?_ ?_ | refine hk _ ?_ | intro hg | (refine CallK.intro (dc_spec_l3Two _) ?_; simp -dsimp (maxSteps := 2000000) [go_sem, -decide_eq_true_eq, -decide_eq_false_iff_not, hx, hxA]) | omega | exact True.intro)
          all_goals clear hk k
          refine AW.cond rfl ?_ ?_
          · intro hc; try simp at hc
            all_goals try (exfalso; first | omega | (have hk9 := inR_iff.1 hc; omega); done)
            all_goals (
              have hk2 : isTwoB x.kind = true := by simpa using hc
              have hr := hq.2.1 hk2
              have hk3 := inR_iff.1 hk2
              obtain ⟨b, hb⟩ : ∃ b : Nat, x.right = b := ⟨_, (Int.toNat_of_nonneg hr.2.2.1).symm⟩
              have hrb : x.right.toNat = b := by omega
              refine AW.regN tiOk (fun i => if i = 7 then [2] else []) [1, 2] (fun _ h => h) ?_
              intro k hk; simp -dsimp (maxSteps := 2000000) [go_sem, -decide_eq_true_eq, -decide_eq_false_iff_not, hx, hxA, hb]
              repeat' (first | refine And.intro ?_ ?_ | refine hk _ ?_ | intro hg | (refine CallK.intro (iho a (by omega) _ ho) ?_; simp -dsimp (maxSteps := 2000000) [go_sem, -decide_eq_true_eq, -decide_eq_false_iff_not, hx, hxA, hb]) | (refine CallK.intro (iho b (by omega) _ hwa) ?_; simp -dsimp (maxSteps := 2000000) [go_sem, -decide_eq_true_eq, -decide_eq_false_iff_not, hx, hxA, hb]) | omega | exact True.intro)
              all_goals clear hk k
              try (have hwb := wkF_len (e := e) (i := b) hwa (by omega))
              refine AW.reg tiOk (fun _ => []) [6] ?_
              intro k hk; simp -dsimp [go_sem, -decide_eq_true_eq, -decide_eq_false_iff_not, hx, hxA]
              repeat' (first | refine And.intro ?_ ?_ | refine hk _ ?_ | intro hg | omega | exact True.intro)
              all_goals clear hk k
              refine AW.retF (ow := [1000]) (muts := []) ?_ (fun h => And.intro (.inr rfl) h)
              rw [wkF_eq hP hi]; (try (first | rw [if_neg (show ¬ 16 < out.length by omega)] | rw [if_pos (show 16 < out.length by omega)])); simp [go_sem, Tryz.results183, *] <;> first | (intro h9; omega) | (simp_all; done) | omega | grind)
          · intro hc; try simp at hc
            all_goals try (exfalso; first | omega | (have hk9 := inR_iff.1 hc; omega); done)
            all_goals (
              refine AW.skipN (fun _ h => h) ?_
              try (have hwb := wkF_len (e := e) (i := b) hwa (by omega))
              refine AW.reg tiOk (fun _ => []) [6] ?_
              intro k hk; simp -dsimp [go_sem, -decide_eq_true_eq, -decide_eq_false_iff_not, hx, hxA]
              repeat' (first | refine And.intro ?_ ?_ | refine hk _ ?_ | intro hg | omega | exact True.intro)
              all_goals clear hk k
              refine AW.retF (ow := [1000]) (muts := []) ?_ (fun h => And.intro (.inr rfl) h)
              rw [wkF_eq hP hi]; (try (first | rw [if_neg (show ¬ 16 < out.length by omega)] | rw [if_pos (show 16 < out.length by omega)])); simp [go_sem, Tryz.results183, *] <;> first | (intro h9; omega) | (simp_all; done) | omega | grind))
      · intro hc; try simp at hc
        all_goals try (exfalso; first | omega | (have hk9 := inR_iff.1 hc; omega); done)
        all_goals (
          refine AW.skipN (fun _ h => h) ?_
          refine AW.seq ?_
          refine AW.reg tiOk (fun _ => []) [0, 1, 2, 30] ?_
          intro k hk; simp -dsimp (maxSteps := 2000000) [go_sem, -decide_eq_true_eq, -decide_eq_false_iff_not, hx, hxA]
          repeat' (first | refine And.intro ?_ ?_ | refine hk _ ?_ | intro hg | (refine CallK.intro (dc_spec_l3Two _) ?_; simp -dsimp (maxSteps := 2000000) [go_sem, -decide_eq_true_eq, -decide_eq_false_iff_not, hx, hxA]) | omega | exact True.intro)
          all_goals clear hk k
          refine AW.cond rfl ?_ ?_
          · intro hc; try simp at hc
            all_goals try (exfalso; first | omega | (have hk9 := inR_iff.1 hc; omega); done)
            all_goals (
              have hk2 : isTwoB x.kind = true := by simpa using hc
              have hr := hq.2.1 hk2
              have hk3 := inR_iff.1 hk2
              obtain ⟨b, hb⟩ : ∃ b : Nat, x.right = b := ⟨_, (Int.toNat_of_nonneg hr.2.2.1).symm⟩
              have hrb : x.right.toNat = b := by omega
              refine AW.regN tiOk (fun i => if i = 7 then [2] else []) [1, 2] (fun _ h => h) ?_
              intro k hk; simp -dsimp (maxSteps := 2000000) [go_sem, -decide_eq_true_eq, -decide_eq_false_iff_not, hx, hxA, hb]
              repeat' (first | refine And.intro ?_ ?_ | refine hk _ ?_ | intro hg | (refine CallK.intro (iho a (by omega) _ ho) ?_; simp -dsimp (maxSteps := 2000000) [go_sem, -decide_eq_true_eq, -decide_eq_false_iff_not, hx, hxA, hb]) | (refine CallK.intro (iho b (by omega) _ hwa) ?_; simp -dsimp (maxSteps := 2000000) [go_sem, -decide_eq_true_eq, -decide_eq_false_iff_not, hx, hxA, hb]) | omega | exact True.intro)
              all_goals clear hk k
              try (have hwb := wkF_len (e := e) (i := b) hwa (by omega))
              refine AW.reg tiOk (fun _ => []) [6] ?_
              intro k hk; simp -dsimp [go_sem, -decide_eq_true_eq, -decide_eq_false_iff_not, hx, hxA]
              repeat' (first | refine And.intro ?_ ?_ | refine hk _ ?_ | intro hg | omega | exact True.intro)
              all_goals clear hk k
              refine AW.retF (ow := [1000]) (muts := []) ?_ (fun h => And.intro (.inr rfl) h)
              rw [wkF_eq hP hi]; (try (first | rw [if_neg (show ¬ 16 < out.length by omega)] | rw [if_pos (show 16 < out.length by omega)])); simp [go_sem, Tryz.results183, *] <;> first | (intro h9; omega) | (simp_all; done) | omega | grind)
          · intro hc; try simp at hc
            all_goals try (exfalso; first | omega | (have hk9 := inR_iff.1 hc; omega); done)
            all_goals (
              refine AW.skipN (fun _ h => h) ?_
              try (have hwb := wkF_len (e := e) (i := b) hwa (by omega))
              refine AW.reg tiOk (fun _ => []) [6] ?_
              intro k hk; simp -dsimp [go_sem, -decide_eq_true_eq, -decide_eq_false_iff_not, hx, hxA]
              repeat' (first | refine And.intro ?_ ?_ | refine hk _ ?_ | intro hg | omega | exact True.intro)
              all_goals clear hk k
              refine AW.retF (ow := [1000]) (muts := []) ?_ (fun h => And.intro (.inr rfl) h)
              rw [wkF_eq hP hi]; (try (first | rw [if_neg (show ¬ 16 < out.length by omega)] | rw [if_pos (show 16 < out.length by omega)])); simp [go_sem, Tryz.results183, *] <;> first | (intro h9; omega) | (simp_all; done) | omega | grind)))
theorem dc_spec_l3Walk (e : List TNode) (hP : PartsOk e e.length) (h16 : e.length ≤ 16) : ∀ (m i : Nat), i ≤ m → i < e.length → DC Tryz.prog 183 [.isl 4 (e.map TNode.ro), .int .i64 ((i : Nat) : Int), .nils] (.osl 1 ((wkF e i []).map N1)) [] ∧ ∀ out : List Nat, out.length ≤ 40 → DC Tryz.prog 183 [.isl 4 (e.map TNode.ro), .int .i64 ((i : Nat) : Int), .osl 1 (out.map N1)] (.osl 1 ((wkF e i out).map N1)) [] := by
  intro m
  induction m with
  | zero =>
    intro i hm hi
    have h1 : ∀ j : Nat, j < i → False := fun j hj => by omega
    exact ⟨dc_spec_l3Walk_n e hP h16 i hi (fun j hj => (h1 j hj).elim) (fun j hj => (h1 j hj).elim), fun out ho => dc_spec_l3Walk_o e hP h16 i hi out ho (fun j hj => (h1 j hj).elim) (fun j hj => (h1 j hj).elim)⟩
  | succ m ih =>
    intro i hm hi
    have h1 : ∀ j : Nat, j < i → _ := fun j hj => ih j (by omega) (by omega)
    exact ⟨dc_spec_l3Walk_n e hP h16 i hi (fun j hj => (h1 j hj).1) (fun j hj => (h1 j hj).2), fun out ho => dc_spec_l3Walk_o e hP h16 i hi out ho (fun j hj => (h1 j hj).1) (fun j hj => (h1 j hj).2)⟩
theorem dc_spec_l3Walk_nil (e : List TNode) (hP : PartsOk e e.length) (h16 : e.length ≤ 16) (i : Nat) (hi : i < e.length) : DC Tryz.prog 183 [.isl 4 (e.map TNode.ro), .int .i64 ((i : Nat) : Int), .nils] (.osl 1 ((wkF e i []).map N1)) [] := (dc_spec_l3Walk e hP h16 i i (Nat.le_refl _) hi).1

end Go.AM

/-! ### F4 -/
set_option linter.unusedVariables false
set_option linter.unusedSimpArgs false
namespace Go.AM
open Go.Proofs

set_option maxHeartbeats 600000 in
set_option linter.unusedSimpArgs false in
set_option maxRecDepth 100000 in
/-- spec.l3Fault -/
theorem dc_spec_l3Fault (e : List TNode) (he : e.length ≤ 9223372036854775807) : DC Tryz.prog 164 [.isl 4 (e.map TNode.ro)] (.int .i64 (exprF e)) [] := by
  refine DC.intro tiOk Tryz.func164 rfl rfl rfl rfl rfl rfl rfl rfl [] ?_
  refine AW.reg tiOk (fun _ => []) [0] ?_
  intro k hk; simp -dsimp [go_sem, -decide_eq_true_eq, -decide_eq_false_iff_not]
  repeat' (first | refine And.intro ?_ ?_ | refine hk _ ?_ | intro hg | omega | exact True.intro)
  all_goals clear hk k
  refine AW.seq ?_
  refine AW.cut ⟨51, [(0, .isl 4 (e.map TNode.ro)), (14, .bool (decide (e.length < 1 ∨ 16 < e.length)))], []⟩ ?_ ?_
  · skip
    refine AW.regK tiOk (fun _ => []) ?_
    intro k hk; simp +contextual -dsimp (maxSteps := 2000000) [go_sem, -decide_eq_true_eq, -decide_eq_false_iff_not]
    repeat' (first | refine And.intro ?_ ?_ | refine hk _ ?_ | (intro hg; try simp only [decide_eq_true_eq, decide_eq_false_iff_not] at hg) | omega | exact True.intro)
    all_goals clear hk k
    all_goals (show St.Less _ _; exact Less.of rfl (by simp [go_sem, -Nat.lt_one_iff, -List.length_eq_zero_iff] <;> first | omega | grind) (by simp [go_sem]))
  · skip
    refine AW.cond rfl ?_ ?_
    · intro hc; try simp at hc
      all_goals (
        refine AW.reg tiOk (fun _ => []) [2] ?_
        intro k hk; simp -dsimp [go_sem, -decide_eq_true_eq, -decide_eq_false_iff_not]
        repeat' (first | refine And.intro ?_ ?_ | refine hk _ ?_ | intro hg | omega | exact True.intro)
        all_goals clear hk k
        refine AW.retF (ow := []) (muts := []) ?_ (fun h => And.intro (.inr rfl) h)
        first | (rw [exprF_len' (by simpa using hc)]; simp [go_sem, Tryz.results164]; done) | (rw [exprF_node hR hlt hall (by rw [hxn]; assumption), hxn]; simp [go_sem, Tryz.results164]; done) | (rw [exprF_wk hR hN, if_neg (wk_ne_len (by first | assumption | omega))]; simp [go_sem, Tryz.results164]; done) | (rw [exprF_wk hR hN, if_neg (wk_ne_at hy (by first | assumption | omega))]; simp [go_sem, Tryz.results164]; done) | (rw [exprF_wk hR hN, if_pos (wk_eq (by first | assumption | omega) (fun k hk => hal2 k (by omega)))]; simp [go_sem, Tryz.results164]))
    · intro hc; try simp at hc
      all_goals (
        refine AW.skipN (fun _ h => h) ?_
        refine AW.seq ?_
        have hlen : 1 ≤ e.length ∧ e.length ≤ 16 := by obtain ⟨h8, h9⟩ := hc; have : e.length ≠ 0 := (fun h => h8 (List.length_eq_zero_iff.1 h)); omega
        have hR : inR e.length 1 16 = true := inR_iff.2 (by omega)
        refine AW.reg tiOk (fun _ => []) [0, 3] ?_
        intro k hk; simp -dsimp [go_sem, -decide_eq_true_eq, -decide_eq_false_iff_not]
        repeat' (first | refine And.intro ?_ ?_ | refine hk _ ?_ | intro hg | omega | exact True.intro)
        all_goals clear hk k
        refine AW.block ?_
        -- live at the loop's head: [0, 3]
        refine AW.loopI (fun i : Nat => ⟨51, [(0, .isl 4 (e.map TNode.ro)), (3, .int .i64 i)], []⟩) (fun i => i ≤ e.length ∧ ∀ k, k < i → nodeAt e k = 0) (fun i => e.length - i) (0) (by simp) (Less.of rfl (by simp [go_sem]) (by simp [go_sem])) ?_
        rintro i ⟨hi, hall⟩
        refine AW.seq ?_
        refine AW.reg tiOk (fun _ => []) [0, 3, 18] ?_
        intro k hk; simp -dsimp [go_sem, -decide_eq_true_eq, -decide_eq_false_iff_not]
        repeat' (first | refine And.intro ?_ ?_ | refine hk _ ?_ | intro hg | omega | exact True.intro)
        all_goals clear hk k
        refine AW.cond rfl ?_ ?_
        · intro hc; try simp at hc
          all_goals (
            have hlt : i < e.length := by assumption
            obtain ⟨x, hx⟩ := at_some hlt
            have hxn := nodeAt_at hx
            refine AW.skipN (fun _ h => h) ?_
            refine AW.seq ?_
            refine AW.block ?_
            refine AW.reg tiOk (fun _ => []) [0, 3, 4] ?_
            intro k hk; simp -dsimp (maxSteps := 2000000) [go_sem, -decide_eq_true_eq, -decide_eq_false_iff_not, hx]
            repeat' (first | refine And.intro ?_ ?_ | refine hk _ ?_ | intro hg | (refine CallK.intro (dc_spec_l3Node x i (by omega)) ?_; simp -dsimp (maxSteps := 2000000) [go_sem, -decide_eq_true_eq, -decide_eq_false_iff_not, hx]) | omega | exact True.intro)
            all_goals clear hk k
            refine AW.reg tiOk (fun _ => []) [0, 3, 4, 27] ?_
            intro k hk; simp -dsimp [go_sem, -decide_eq_true_eq, -decide_eq_false_iff_not, hx]
            repeat' (first | refine And.intro ?_ ?_ | refine hk _ ?_ | intro hg | omega | exact True.intro)
            all_goals clear hk k
            refine AW.cond rfl ?_ ?_
            · intro hc; try simp at hc
              all_goals (
                refine AW.reg tiOk (fun _ => []) [2] ?_
                intro k hk; simp -dsimp [go_sem, -decide_eq_true_eq, -decide_eq_false_iff_not, hx]
                repeat' (first | refine And.intro ?_ ?_ | refine hk _ ?_ | intro hg | omega | exact True.intro)
                all_goals clear hk k
                refine AW.retF (ow := []) (muts := []) ?_ (fun h => And.intro (.inr rfl) h)
                first | (rw [exprF_len' (by simpa using hc)]; simp [go_sem, Tryz.results164]; done) | (rw [exprF_node hR hlt hall (by rw [hxn]; assumption), hxn]; simp [go_sem, Tryz.results164]; done) | (rw [exprF_wk hR hN, if_neg (wk_ne_len (by first | assumption | omega))]; simp [go_sem, Tryz.results164]; done) | (rw [exprF_wk hR hN, if_neg (wk_ne_at hy (by first | assumption | omega))]; simp [go_sem, Tryz.results164]; done) | (rw [exprF_wk hR hN, if_pos (wk_eq (by first | assumption | omega) (fun k hk => hal2 k (by omega)))]; simp [go_sem, Tryz.results164]))
            · intro hc; try simp at hc
              all_goals (
                refine AW.skipN (fun _ h => h) ?_
                refine AW.regK tiOk (fun _ => []) ?_
                intro k hk; simp -dsimp [go_sem, -decide_eq_true_eq, -decide_eq_false_iff_not, hx]
                repeat' (first | refine And.intro ?_ ?_ | refine hk _ ?_ | intro hg | omega | exact True.intro)
                all_goals clear hk k
                show ∃ _, _
                have hw := wrapi hlt (by omega)
                refine ⟨i + 1, ⟨by omega, upto hall (by rw [hxn]; first | assumption | simpa using hc)⟩, by omega, Less.of rfl (by simp [go_sem, hw]) (by simp [go_sem])⟩))
        · intro hc; try simp at hc
          all_goals (
            refine AW.exitN (fun _ h => h) ?_
            have hN : ∀ k, k < e.length → nodeAt e k = 0 := fun k hk => hall k (by omega)
            have hP : PartsOk e e.length := hN
            have hwl : IntKind.wrap .i64 ((e.length : Int) - 1) = ((e.length - 1 : Nat) : Int) := by rw [wrap64 (by omega) (by omega)]; omega
            have hwk := wkF_len (e := e) (i := e.length - 1) (out := []) (by simp) (by omega)
            refine AW.reg tiOk (fun _ => []) [0, 5] ?_
            intro k hk; simp -dsimp (maxSteps := 2000000) [go_sem, -decide_eq_true_eq, -decide_eq_false_iff_not, hwl]
            repeat' (first | refine And.intro ?_ ?_ | refine hk _ ?_ | intro hg | (refine CallK.intro (dc_spec_l3Walk_nil e hP (by omega) (e.length - 1) (by omega)) ?_; simp -dsimp (maxSteps := 2000000) [go_sem, -decide_eq_true_eq, -decide_eq_false_iff_not, hwl]) | omega | exact True.intro)
            all_goals clear hk k
            refine AW.seq ?_
            refine AW.reg tiOk (fun _ => []) [5, 38] ?_
            intro k hk; simp -dsimp [go_sem, -decide_eq_true_eq, -decide_eq_false_iff_not]
            repeat' (first | refine And.intro ?_ ?_ | refine hk _ ?_ | intro hg | omega | exact True.intro)
            all_goals clear hk k
            refine AW.cond rfl ?_ ?_
            · intro hc; try simp at hc
              all_goals (
                refine AW.reg tiOk (fun _ => []) [2] ?_
                intro k hk; simp -dsimp [go_sem, -decide_eq_true_eq, -decide_eq_false_iff_not]
                repeat' (first | refine And.intro ?_ ?_ | refine hk _ ?_ | intro hg | omega | exact True.intro)
                all_goals clear hk k
                refine AW.retF (ow := []) (muts := []) ?_ (fun h => And.intro (.inr rfl) h)
                first | (rw [exprF_len' (by simpa using hc)]; simp [go_sem, Tryz.results164]; done) | (rw [exprF_node hR hlt hall (by rw [hxn]; assumption), hxn]; simp [go_sem, Tryz.results164]; done) | (rw [exprF_wk hR hN, if_neg (wk_ne_len (by first | assumption | omega))]; simp [go_sem, Tryz.results164]; done) | (rw [exprF_wk hR hN, if_neg (wk_ne_at hy (by first | assumption | omega))]; simp [go_sem, Tryz.results164]; done) | (rw [exprF_wk hR hN, if_pos (wk_eq (by first | assumption | omega) (fun k hk => hal2 k (by omega)))]; simp [go_sem, Tryz.results164]))
            · intro hc; try simp at hc
              all_goals (
                refine AW.skipN (fun _ h => h) ?_
                refine AW.seq ?_
                refine AW.reg tiOk (fun _ => []) [5, 6] ?_
                intro k hk; simp -dsimp [go_sem, -decide_eq_true_eq, -decide_eq_false_iff_not]
                repeat' (first | refine And.intro ?_ ?_ | refine hk _ ?_ | intro hg | omega | exact True.intro)
                all_goals clear hk k
                refine AW.block ?_
                -- live at the loop's head: [5, 6]
                refine AW.loopI (fun i : Nat => ⟨51, [(5, .sl 1033 1 0 (wkF e (e.length - 1) []).length), (6, .int .i64 i)], [(1033, some ⟨1, (wkF e (e.length - 1) []).map N1⟩)]⟩) (fun i => i ≤ (wkF e (e.length - 1) []).length ∧ ∀ k, k < i → (wkF e (e.length - 1) [])[k]? = some k) (fun i => (wkF e (e.length - 1) []).length - i) (0) (by simp) (Less.of rfl (by simp [go_sem]) (by simp [go_sem])) ?_
                rintro i ⟨hi2, hal2⟩
                refine AW.seq ?_
                refine AW.reg tiOk (fun _ => []) [5, 6, 42] ?_
                intro k hk; simp -dsimp [go_sem, -decide_eq_true_eq, -decide_eq_false_iff_not]
                repeat' (first | refine And.intro ?_ ?_ | refine hk _ ?_ | intro hg | omega | exact True.intro)
                all_goals clear hk k
                refine AW.cond rfl ?_ ?_
                · intro hc; try simp at hc
                  all_goals (
                    have hlt2 : i < (wkF e (e.length - 1) []).length := by assumption
                    obtain ⟨y, hy⟩ := at_some hlt2
                    refine AW.skipN (fun _ h => h) ?_
                    refine AW.seq ?_
                    refine AW.block ?_
                    refine AW.reg tiOk (fun _ => []) [5, 6, 50] ?_
                    intro k hk; simp -dsimp [go_sem, -decide_eq_true_eq, -decide_eq_false_iff_not, hy]
                    repeat' (first | refine And.intro ?_ ?_ | refine hk _ ?_ | intro hg | omega | exact True.intro)
                    all_goals clear hk k
                    refine AW.cond rfl ?_ ?_
                    · intro hc; try simp at hc
                      all_goals (
                        refine AW.reg tiOk (fun _ => []) [2] ?_
                        intro k hk; simp -dsimp [go_sem, -decide_eq_true_eq, -decide_eq_false_iff_not, hy]
                        repeat' (first | refine And.intro ?_ ?_ | refine hk _ ?_ | intro hg | omega | exact True.intro)
                        all_goals clear hk k
                        refine AW.retF (ow := []) (muts := []) ?_ (fun h => And.intro (.inr rfl) h)
                        first | (rw [exprF_len' (by simpa using hc)]; simp [go_sem, Tryz.results164]; done) | (rw [exprF_node hR hlt hall (by rw [hxn]; assumption), hxn]; simp [go_sem, Tryz.results164]; done) | (rw [exprF_wk hR hN, if_neg (wk_ne_len (by first | assumption | omega))]; simp [go_sem, Tryz.results164]; done) | (rw [exprF_wk hR hN, if_neg (wk_ne_at hy (by first | assumption | omega))]; simp [go_sem, Tryz.results164]; done) | (rw [exprF_wk hR hN, if_pos (wk_eq (by first | assumption | omega) (fun k hk => hal2 k (by omega)))]; simp [go_sem, Tryz.results164]))
                    · intro hc; try simp at hc
                      all_goals (
                        refine AW.skipN (fun _ h => h) ?_
                        refine AW.regK tiOk (fun _ => []) ?_
                        intro k hk; simp -dsimp [go_sem, -decide_eq_true_eq, -decide_eq_false_iff_not, hy]
                        repeat' (first | refine And.intro ?_ ?_ | refine hk _ ?_ | intro hg | omega | exact True.intro)
                        all_goals clear hk k
                        show ∃ _, _
                        have hw := wrapi hlt2 (by omega)
                        refine ⟨i + 1, ⟨by omega, upto_at hal2 hy (by first | assumption | omega)⟩, by omega, Less.of rfl (by simp [go_sem, hw]) (by simp [go_sem])⟩))
                · intro hc; try simp at hc
                  all_goals (
                    refine AW.exitN (fun _ h => h) ?_
                    refine AW.reg tiOk (fun _ => []) [2] ?_
                    intro k hk; simp -dsimp [go_sem, -decide_eq_true_eq, -decide_eq_false_iff_not]
                    repeat' (first | refine And.intro ?_ ?_ | refine hk _ ?_ | intro hg | omega | exact True.intro)
                    all_goals clear hk k
                    refine AW.retF (ow := []) (muts := []) ?_ (fun h => And.intro (.inr rfl) h)
                    first | (rw [exprF_len' (by simpa using hc)]; simp [go_sem, Tryz.results164]; done) | (rw [exprF_node hR hlt hall (by rw [hxn]; assumption), hxn]; simp [go_sem, Tryz.results164]; done) | (rw [exprF_wk hR hN, if_neg (wk_ne_len (by first | assumption | omega))]; simp [go_sem, Tryz.results164]; done) | (rw [exprF_wk hR hN, if_neg (wk_ne_at hy (by first | assumption | omega))]; simp [go_sem, Tryz.results164]; done) | (rw [exprF_wk hR hN, if_pos (wk_eq (by first | assumption | omega) (fun k hk => hal2 k (by omega)))]; simp [go_sem, Tryz.results164])))))

end Go.AM

/-! ### F6 -/
set_option linter.unusedVariables false
set_option linter.unusedSimpArgs false
namespace Go.AM
open Go.Proofs

set_option maxHeartbeats 600000 in
set_option linter.unusedSimpArgs false in
set_option maxRecDepth 100000 in
/-- spec.l3Types -/
theorem dc_spec_l3Types_b (e : List TNode) (hP : PartsOk e e.length) (hlen : e.length ≤ 16) (hub : typU e e.length = true) : DC Tryz.prog 184 [.isl 4 (e.map TNode.ro)] (.tup [.nils, .bool false]) [] := by
  refine DC.intro tiOk Tryz.func184 rfl rfl rfl rfl rfl rfl rfl rfl [1001] ?_
  refine AW.reg tiOk (fun _ => []) [0] ?_
  intro k hk; simp -dsimp [go_sem, -decide_eq_true_eq, -decide_eq_false_iff_not]
  repeat' (first | refine And.intro ?_ ?_ | refine hk _ ?_ | intro hg | omega | exact True.intro | (have h9 := hr (by assumption); omega) | fail)
  all_goals clear hk k
  refine AW.reg tiOk (fun _ => []) [0, 4] ?_
  intro k hk; simp -dsimp [go_sem, -decide_eq_true_eq, -decide_eq_false_iff_not]
  repeat' (first | refine And.intro ?_ ?_ | refine hk _ ?_ | intro hg | omega | exact True.intro | (have h9 := hr (by assumption); omega) | fail)
  all_goals clear hk k
  refine AW.seq ?_
  refine AW.reg tiOk (fun _ => []) [0, 4, 5] ?_
  intro k hk; simp -dsimp [go_sem, -decide_eq_true_eq, -decide_eq_false_iff_not]
  repeat' (first | refine And.intro ?_ ?_ | refine hk _ ?_ | intro hg | omega | exact True.intro | (have h9 := hr (by assumption); omega) | fail)
  all_goals clear hk k
  refine AW.block ?_
  -- live at the loop's head: [0, 4, 5]
  refine AW.rename (nd := ?nd_1) 9 60 ?h1_1 ?h2_1 ?h4_1 ?kk_1
  (case h1_1 => exact rfl)
  (case h2_1 => simp [go_sem])
  (case h4_1 => simp [go_sem])
  refine AW.loopI (fun i : Nat => ⟨62, [(0, .isl 4 (e.map TNode.ro)), (4, .sl 60 1 0 i), (5, .int .i64 i)], [(60, some ⟨1, (typesL e i).map I1⟩)]⟩) (fun i => i ≤ e.length ∧ typU e i = false) (fun i => e.length - i) (0) (by simp [typU]) (Less.of rfl (by simp [go_sem]) (by simp [go_sem, typesL])) ?_
  rintro i ⟨hi, hu⟩
  refine AW.rename (nd := ?nd_2) 60 9 ?h1_2 ?h2_2 ?h4_2 ?kk_2
  (case h1_2 => exact rfl)
  (case h2_2 => simp [go_sem])
  (case h4_2 => simp [go_sem])
  refine AW.seq ?_
  refine AW.reg tiOk (fun _ => []) [0, 4, 5, 13] ?_
  intro k hk; simp -dsimp [go_sem, -decide_eq_true_eq, -decide_eq_false_iff_not]
  repeat' (first | refine And.intro ?_ ?_ | refine hk _ ?_ | intro hg | omega | exact True.intro | (have h9 := hr (by assumption); omega) | fail)
  all_goals clear hk k
  refine AW.cond rfl ?_ ?_
  · intro hc; try simp at hc
    all_goals try (exfalso; omega; done)
    all_goals (
      have hlt : i < e.length := by assumption
      obtain ⟨x, hx⟩ := at_some hlt
      have hxA := nA_at hx
      have hpx := hP i hlt
      rw [nodeAt_at hx] at hpx
      have hq := nodeF_parts hpx
      have hl : 2 < x.kind → 0 ≤ x.left ∧ x.left.toNat < i := left_of hpx
      have hr := hq.2.1
      have htl := typesL_len e i
      have htk : List.take i ((typesL e i).map I1) = (typesL e i).map I1 := List.take_of_length_le (by simp [htl])
      have hsA : decide (2 < x.kind) = true → (typesL e i)[x.left.toNat]? = some (ownT (nA e x.left.toNat).kind) := fun h => typesL_at (hl (by simpa using h)).2
      have hsB : isTwoB x.kind = true → (typesL e i)[x.right.toNat]? = some (ownT (nA e x.right.toNat).kind) := fun h => typesL_at (hr h).2.2.2
      refine AW.skipN (fun _ h => h) ?_
      refine AW.seq ?_
      refine AW.block ?_
      refine AW.reg tiOk (fun _ => []) [0, 4, 5, 6] ?_
      intro k hk; simp -dsimp [go_sem, -decide_eq_true_eq, -decide_eq_false_iff_not, hx, htl, hsA, hsB]
      repeat' (first | refine And.intro ?_ ?_ | refine hk _ ?_ | intro hg | omega | exact True.intro | (have h9 := hr (by assumption); omega) | fail)
      all_goals clear hk k
      refine AW.reg tiOk (fun _ => []) [0, 4, 5, 6, 7] ?_
      intro k hk; simp -dsimp [go_sem, -decide_eq_true_eq, -decide_eq_false_iff_not, hx, htl, hsA, hsB]
      repeat' (first | refine And.intro ?_ ?_ | refine hk _ ?_ | intro hg | omega | exact True.intro | (have h9 := hr (by assumption); omega) | fail)
      all_goals clear hk k
      refine AW.reg tiOk (fun _ => []) [0, 4, 5, 6, 7, 8] ?_
      intro k hk; simp -dsimp [go_sem, -decide_eq_true_eq, -decide_eq_false_iff_not, hx, htl, hsA, hsB]
      repeat' (first | refine And.intro ?_ ?_ | refine hk _ ?_ | intro hg | omega | exact True.intro | (have h9 := hr (by assumption); omega) | fail)
      all_goals clear hk k
      refine AW.seq ?_
      refine AW.cut ⟨62, [(0, .isl 4 (e.map TNode.ro)), (4, .sl 9 1 0 i), (5, .int .i64 i), (6, .ptr 6 4 0 0), (7, .int .i64 1), (8, .int .i64 1), (27, .bool (decide (x.kind = 9 ∨ x.kind = 10)))], [(6, some ⟨4, [x.ro]⟩), (9, some ⟨1, (typesL e i).map I1⟩)]⟩ ?_ ?_
      · skip
        refine AW.regK tiOk (fun _ => []) ?_
        intro k hk; simp +contextual -dsimp (maxSteps := 2000000) [go_sem, -decide_eq_true_eq, -decide_eq_false_iff_not, hx, htl, hsA, hsB]
        repeat' (first | refine And.intro ?_ ?_ | refine hk _ ?_ | (intro hg; try simp only [decide_eq_true_eq, decide_eq_false_iff_not] at hg) | omega | exact True.intro | (have h9 := hr (by assumption); omega) | fail)
        all_goals clear hk k
        all_goals (show St.Less _ _; exact Less.of rfl (by simp [go_sem] <;> first | omega | grind) (by simp [go_sem]))
      · skip
        refine AW.cond rfl ?_ ?_
        · intro hc; try simp at hc
          all_goals try (exfalso; omega; done)
          all_goals (
            have hk9 : x.kind = 9 ∨ x.kind = 10 := by simpa using hc
            refine AW.regN tiOk (fun _ => []) [0, 4, 5, 6, 7, 8] (fun _ h => h) ?_
            intro k hk; simp -dsimp [go_sem, -decide_eq_true_eq, -decide_eq_false_iff_not, hx, htl, hsA, hsB]
            repeat' (first | refine And.intro ?_ ?_ | refine hk _ ?_ | intro hg | omega | exact True.intro | (have h9 := hr (by assumption); omega) | fail)
            all_goals clear hk k
            refine AW.seq ?_
            refine AW.reg tiOk (fun _ => []) [0, 4, 5, 6, 7, 8, 30] ?_
            intro k hk; simp -dsimp [go_sem, -decide_eq_true_eq, -decide_eq_false_iff_not, hx, htl, hsA, hsB]
            repeat' (first | refine And.intro ?_ ?_ | refine hk _ ?_ | intro hg | omega | exact True.intro | (have h9 := hr (by assumption); omega) | fail)
            all_goals clear hk k
            refine AW.cond rfl ?_ ?_
            · intro hc; try simp at hc
              all_goals try (exfalso; omega; done)
              all_goals (
                refine AW.regN tiOk (fun _ => []) [0, 4, 5, 6, 7, 8] (fun _ h => h) ?_
                intro k hk; simp -dsimp [go_sem, -decide_eq_true_eq, -decide_eq_false_iff_not, hx, htl, hsA, hsB]
                repeat' (first | refine And.intro ?_ ?_ | refine hk _ ?_ | intro hg | omega | exact True.intro | (have h9 := hr (by assumption); omega) | fail)
                all_goals clear hk k
                refine AW.seq ?_
                have hpt : partT x.kind = _ := rfl
                refine AW.cut ⟨62, [(0, .isl 4 (e.map TNode.ro)), (4, .sl 9 1 0 i), (5, .int .i64 i), (8, .int .i64 (ownT x.kind)), (56, .bool (typBad e i))], [(9, some ⟨1, (typesL e i).map I1⟩)]⟩ ?_ ?_
                · skip
                  refine AW.regK tiOk (fun _ => []) ?_
                  intro k hk; simp +contextual -dsimp (maxSteps := 2000000) [go_sem, -decide_eq_true_eq, -decide_eq_false_iff_not, hx, htl, hsA, hsB]
                  repeat' (first | refine And.intro ?_ ?_ | refine hk _ ?_ | (intro hg; try simp only [decide_eq_true_eq, decide_eq_false_iff_not] at hg) | (refine CallK.intro (dc_spec_l3Two _) ?_; simp +contextual -dsimp (maxSteps := 2000000) [go_sem, -decide_eq_true_eq, -decide_eq_false_iff_not, hx, htl, hsA, hsB]) | omega | exact True.intro | (have h9 := hr (by assumption); omega) | fail)
                  all_goals clear hk k
                  all_goals (show St.Less _ _; exact Less.of rfl (by simp [go_sem, typBad, hxA] <;> grind [ownT, partT]) (by simp [go_sem]))
                · skip
                  refine AW.cond rfl ?_ ?_
                  · intro hc; try simp at hc
                    all_goals try (exfalso; omega; done)
                    all_goals (
                      refine AW.reg tiOk (fun _ => []) [2, 3] ?_
                      intro k hk; simp -dsimp [go_sem, -decide_eq_true_eq, -decide_eq_false_iff_not, hx, htl, hsA, hsB]
                      repeat' (first | refine And.intro ?_ ?_ | refine hk _ ?_ | intro hg | omega | exact True.intro | (have h9 := hr (by assumption); omega) | fail)
                      all_goals clear hk k
                      refine AW.retF (ow := [1001]) (muts := []) ?_ (fun h => And.intro (.inr rfl) h)
                      first | (simp [go_sem, Tryz.results184]; done) | (exfalso; have hie : i = e.length := (by omega); rw [hie, hub] at hu; cases hu))
                  · intro hc; try simp at hc
                    all_goals try (exfalso; omega; done)
                    all_goals (
                      refine AW.skipN (fun _ h => h) ?_
                      refine AW.regN tiOk (fun _ => []) [0, 4, 5] (fun _ h => h) ?_
                      intro k hk; simp -dsimp [go_sem, -decide_eq_true_eq, -decide_eq_false_iff_not, hx, htl, hsA, hsB]
                      repeat' (first | refine And.intro ?_ ?_ | refine hk _ ?_ | intro hg | omega | exact True.intro | (have h9 := hr (by assumption); omega) | fail)
                      all_goals clear hk k
                      refine AW.regK tiOk (fun _ => []) ?_
                      intro k hk; simp -dsimp [go_sem, -decide_eq_true_eq, -decide_eq_false_iff_not, hx, htl, hsA, hsB]
                      repeat' (first | refine And.intro ?_ ?_ | refine hk _ ?_ | intro hg | omega | exact True.intro | (have h9 := hr (by assumption); omega) | fail)
                      all_goals clear hk k
                      show ∃ _, _
                      have hw := wrapi hlt (by omega)
                      have hub : typBad e i = false := by simpa using hc
                      refine ⟨i + 1, ⟨by omega, typU_go hu hub⟩, by omega, Less.of rfl (by simp [go_sem, hw]) (by simp [go_sem, typesL_succ, hxA, htk] <;> (unfold ownT; first | omega | (split <;> omega)))⟩))
            · intro hc; try simp at hc
              all_goals try (exfalso; omega; done)
              all_goals (
                refine AW.skipN (fun _ h => h) ?_
                refine AW.seq ?_
                have hpt : partT x.kind = _ := rfl
                refine AW.cut ⟨62, [(0, .isl 4 (e.map TNode.ro)), (4, .sl 9 1 0 i), (5, .int .i64 i), (8, .int .i64 (ownT x.kind)), (56, .bool (typBad e i))], [(9, some ⟨1, (typesL e i).map I1⟩)]⟩ ?_ ?_
                · skip
                  refine AW.regK tiOk (fun _ => []) ?_
                  intro k hk; simp +contextual -dsimp (maxSteps := 2000000) [go_sem, -decide_eq_true_eq, -decide_eq_false_iff_not, hx, htl, hsA, hsB]
                  repeat' (first | refine And.intro ?_ ?_ | refine hk _ ?_ | (intro hg; try simp only [decide_eq_true_eq, decide_eq_false_iff_not] at hg) | (refine CallK.intro (dc_spec_l3Two _) ?_; simp +contextual -dsimp (maxSteps := 2000000) [go_sem, -decide_eq_true_eq, -decide_eq_false_iff_not, hx, htl, hsA, hsB]) | omega | exact True.intro | (have h9 := hr (by assumption); omega) | fail)
                  all_goals clear hk k
                  all_goals (show St.Less _ _; exact Less.of rfl (by simp [go_sem, typBad, hxA] <;> grind [ownT, partT]) (by simp [go_sem]))
                · skip
                  refine AW.cond rfl ?_ ?_
                  · intro hc; try simp at hc
                    all_goals try (exfalso; omega; done)
                    all_goals (
                      refine AW.reg tiOk (fun _ => []) [2, 3] ?_
                      intro k hk; simp -dsimp [go_sem, -decide_eq_true_eq, -decide_eq_false_iff_not, hx, htl, hsA, hsB]
                      repeat' (first | refine And.intro ?_ ?_ | refine hk _ ?_ | intro hg | omega | exact True.intro | (have h9 := hr (by assumption); omega) | fail)
                      all_goals clear hk k
                      refine AW.retF (ow := [1001]) (muts := []) ?_ (fun h => And.intro (.inr rfl) h)
                      first | (simp [go_sem, Tryz.results184]; done) | (exfalso; have hie : i = e.length := (by omega); rw [hie, hub] at hu; cases hu))
                  · intro hc; try simp at hc
                    all_goals try (exfalso; omega; done)
                    all_goals (
                      refine AW.skipN (fun _ h => h) ?_
                      refine AW.regN tiOk (fun _ => []) [0, 4, 5] (fun _ h => h) ?_
                      intro k hk; simp -dsimp [go_sem, -decide_eq_true_eq, -decide_eq_false_iff_not, hx, htl, hsA, hsB]
                      repeat' (first | refine And.intro ?_ ?_ | refine hk _ ?_ | intro hg | omega | exact True.intro | (have h9 := hr (by assumption); omega) | fail)
                      all_goals clear hk k
                      refine AW.regK tiOk (fun _ => []) ?_
                      intro k hk; simp -dsimp [go_sem, -decide_eq_true_eq, -decide_eq_false_iff_not, hx, htl, hsA, hsB]
                      repeat' (first | refine And.intro ?_ ?_ | refine hk _ ?_ | intro hg | omega | exact True.intro | (have h9 := hr (by assumption); omega) | fail)
                      all_goals clear hk k
                      show ∃ _, _
                      have hw := wrapi hlt (by omega)
                      have hub : typBad e i = false := by simpa using hc
                      refine ⟨i + 1, ⟨by omega, typU_go hu hub⟩, by omega, Less.of rfl (by simp [go_sem, hw]) (by simp [go_sem, typesL_succ, hxA, htk] <;> (unfold ownT; first | omega | (split <;> omega)))⟩)))
        · intro hc; try simp at hc
          all_goals try (exfalso; omega; done)
          all_goals (
            refine AW.skipN (fun _ h => h) ?_
            refine AW.seq ?_
            refine AW.reg tiOk (fun _ => []) [0, 4, 5, 6, 7, 8, 30] ?_
            intro k hk; simp -dsimp [go_sem, -decide_eq_true_eq, -decide_eq_false_iff_not, hx, htl, hsA, hsB]
            repeat' (first | refine And.intro ?_ ?_ | refine hk _ ?_ | intro hg | omega | exact True.intro | (have h9 := hr (by assumption); omega) | fail)
            all_goals clear hk k
            refine AW.cond rfl ?_ ?_
            · intro hc; try simp at hc
              all_goals try (exfalso; omega; done)
              all_goals (
                refine AW.regN tiOk (fun _ => []) [0, 4, 5, 6, 7, 8] (fun _ h => h) ?_
                intro k hk; simp -dsimp [go_sem, -decide_eq_true_eq, -decide_eq_false_iff_not, hx, htl, hsA, hsB]
                repeat' (first | refine And.intro ?_ ?_ | refine hk _ ?_ | intro hg | omega | exact True.intro | (have h9 := hr (by assumption); omega) | fail)
                all_goals clear hk k
                refine AW.seq ?_
                have hpt : partT x.kind = _ := rfl
                refine AW.cut ⟨62, [(0, .isl 4 (e.map TNode.ro)), (4, .sl 9 1 0 i), (5, .int .i64 i), (8, .int .i64 (ownT x.kind)), (56, .bool (typBad e i))], [(9, some ⟨1, (typesL e i).map I1⟩)]⟩ ?_ ?_
                · skip
                  refine AW.regK tiOk (fun _ => []) ?_
                  intro k hk; simp +contextual -dsimp (maxSteps := 2000000) [go_sem, -decide_eq_true_eq, -decide_eq_false_iff_not, hx, htl, hsA, hsB]
                  repeat' (first | refine And.intro ?_ ?_ | refine hk _ ?_ | (intro hg; try simp only [decide_eq_true_eq, decide_eq_false_iff_not] at hg) | (refine CallK.intro (dc_spec_l3Two _) ?_; simp +contextual -dsimp (maxSteps := 2000000) [go_sem, -decide_eq_true_eq, -decide_eq_false_iff_not, hx, htl, hsA, hsB]) | omega | exact True.intro | (have h9 := hr (by assumption); omega) | fail)
                  all_goals clear hk k
                  all_goals (show St.Less _ _; exact Less.of rfl (by simp [go_sem, typBad, hxA] <;> grind [ownT, partT]) (by simp [go_sem]))
                · skip
                  refine AW.cond rfl ?_ ?_
                  · intro hc; try simp at hc
                    all_goals try (exfalso; omega; done)
                    all_goals (
                      refine AW.reg tiOk (fun _ => []) [2, 3] ?_
                      intro k hk; simp -dsimp [go_sem, -decide_eq_true_eq, -decide_eq_false_iff_not, hx, htl, hsA, hsB]
                      repeat' (first | refine And.intro ?_ ?_ | refine hk _ ?_ | intro hg | omega | exact True.intro | (have h9 := hr (by assumption); omega) | fail)
                      all_goals clear hk k
                      refine AW.retF (ow := [1001]) (muts := []) ?_ (fun h => And.intro (.inr rfl) h)
                      first | (simp [go_sem, Tryz.results184]; done) | (exfalso; have hie : i = e.length := (by omega); rw [hie, hub] at hu; cases hu))
                  · intro hc; try simp at hc
                    all_goals try (exfalso; omega; done)
                    all_goals (
                      refine AW.skipN (fun _ h => h) ?_
                      refine AW.regN tiOk (fun _ => []) [0, 4, 5] (fun _ h => h) ?_
                      intro k hk; simp -dsimp [go_sem, -decide_eq_true_eq, -decide_eq_false_iff_not, hx, htl, hsA, hsB]
                      repeat' (first | refine And.intro ?_ ?_ | refine hk _ ?_ | intro hg | omega | exact True.intro | (have h9 := hr (by assumption); omega) | fail)
                      all_goals clear hk k
                      refine AW.regK tiOk (fun _ => []) ?_
                      intro k hk; simp -dsimp [go_sem, -decide_eq_true_eq, -decide_eq_false_iff_not, hx, htl, hsA, hsB]
                      repeat' (first | refine And.intro ?_ ?_ | refine hk _ ?_ | intro hg | omega | exact True.intro | (have h9 := hr (by assumption); omega) | fail)
                      all_goals clear hk k
                      show ∃ _, _
                      have hw := wrapi hlt (by omega)
                      have hub : typBad e i = false := by simpa using hc
                      refine ⟨i + 1, ⟨by omega, typU_go hu hub⟩, by omega, Less.of rfl (by simp [go_sem, hw]) (by simp [go_sem, typesL_succ, hxA, htk] <;> (unfold ownT; first | omega | (split <;> omega)))⟩))
            · intro hc; try simp at hc
              all_goals try (exfalso; omega; done)
              all_goals (
                refine AW.skipN (fun _ h => h) ?_
                refine AW.seq ?_
                have hpt : partT x.kind = _ := rfl
                refine AW.cut ⟨62, [(0, .isl 4 (e.map TNode.ro)), (4, .sl 9 1 0 i), (5, .int .i64 i), (8, .int .i64 (ownT x.kind)), (56, .bool (typBad e i))], [(9, some ⟨1, (typesL e i).map I1⟩)]⟩ ?_ ?_
                · skip
                  refine AW.regK tiOk (fun _ => []) ?_
                  intro k hk; simp +contextual -dsimp (maxSteps := 2000000) [go_sem, -decide_eq_true_eq, -decide_eq_false_iff_not, hx, htl, hsA, hsB]
                  repeat' (first | refine And.intro ?_ ?_ | refine hk _ ?_ | (intro hg; try simp only [decide_eq_true_eq, decide_eq_false_iff_not] at hg) | (refine CallK.intro (dc_spec_l3Two _) ?_; simp +contextual -dsimp (maxSteps := 2000000) [go_sem, -decide_eq_true_eq, -decide_eq_false_iff_not, hx, htl, hsA, hsB]) | omega | exact True.intro | (have h9 := hr (by assumption); omega) | fail)
                  all_goals clear hk k
                  all_goals (show St.Less _ _; exact Less.of rfl (by simp [go_sem, typBad, hxA] <;> grind [ownT, partT]) (by simp [go_sem]))
                · skip
                  refine AW.cond rfl ?_ ?_
                  · intro hc; try simp at hc
                    all_goals try (exfalso; omega; done)
                    all_goals (
                      refine AW.reg tiOk (fun _ => []) [2, 3] ?_
                      intro k hk; simp -dsimp [go_sem, -decide_eq_true_eq, -decide_eq_false_iff_not, hx, htl, hsA, hsB]
                      repeat' (first | refine And.intro ?_ ?_ | refine hk _ ?_ | intro hg | omega | exact True.intro | (have h9 := hr (by assumption); omega) | fail)
                      all_goals clear hk k
                      refine AW.retF (ow := [1001]) (muts := []) ?_ (fun h => And.intro (.inr rfl) h)
                      first | (simp [go_sem, Tryz.results184]; done) | (exfalso; have hie : i = e.length := (by omega); rw [hie, hub] at hu; cases hu))
                  · intro hc; try simp at hc
                    all_goals try (exfalso; omega; done)
                    all_goals (
                      refine AW.skipN (fun _ h => h) ?_
                      refine AW.regN tiOk (fun _ => []) [0, 4, 5] (fun _ h => h) ?_
                      intro k hk; simp -dsimp [go_sem, -decide_eq_true_eq, -decide_eq_false_iff_not, hx, htl, hsA, hsB]
                      repeat' (first | refine And.intro ?_ ?_ | refine hk _ ?_ | intro hg | omega | exact True.intro | (have h9 := hr (by assumption); omega) | fail)
                      all_goals clear hk k
                      refine AW.regK tiOk (fun _ => []) ?_
                      intro k hk; simp -dsimp [go_sem, -decide_eq_true_eq, -decide_eq_false_iff_not, hx, htl, hsA, hsB]
                      repeat' (first | refine And.intro ?_ ?_ | refine hk _ ?_ | intro hg | omega | exact True.intro | (have h9 := hr (by assumption); omega) | fail)
                      all_goals clear hk k
                      show ∃ _, _
                      have hw := wrapi hlt (by omega)
                      have hub : typBad e i = false := by simpa using hc
                      refine ⟨i + 1, ⟨by omega, typU_go hu hub⟩, by omega, Less.of rfl (by simp [go_sem, hw]) (by simp [go_sem, typesL_succ, hxA, htk] <;> (unfold ownT; first | omega | (split <;> omega)))⟩))))
  · intro hc; try simp at hc
    all_goals try (exfalso; omega; done)
    all_goals (
      refine AW.exitN (fun _ h => h) ?_
      refine AW.reg tiOk (fun _ => []) [2, 3] ?_
      intro k hk; simp -dsimp [go_sem, -decide_eq_true_eq, -decide_eq_false_iff_not]
      repeat' (first | refine And.intro ?_ ?_ | refine hk _ ?_ | intro hg | omega | exact True.intro | (have h9 := hr (by assumption); omega) | fail)
      all_goals clear hk k
      refine AW.retF (ow := [1001]) (muts := []) ?_ (fun h => And.intro (.inr rfl) h)
      first | (simp [go_sem, Tryz.results184]; done) | (exfalso; have hie : i = e.length := (by omega); rw [hie, hub] at hu; cases hu))

set_option maxHeartbeats 600000 in
set_option linter.unusedSimpArgs false in
set_option maxRecDepth 100000 in
/-- spec.l3Types -/
theorem dc_spec_l3Types_k (e : List TNode) (hP : PartsOk e e.length) (hlen : e.length ≤ 16) (huk : typU e e.length = false) : DC Tryz.prog 184 [.isl 4 (e.map TNode.ro)] (.tup [.osl 1 ((typesL e e.length).map I1), .bool true]) [] := by
  refine DC.intro tiOk Tryz.func184 rfl rfl rfl rfl rfl rfl rfl rfl [1001] ?_
  refine AW.reg tiOk (fun _ => []) [0] ?_
  intro k hk; simp -dsimp [go_sem, -decide_eq_true_eq, -decide_eq_false_iff_not]
  repeat' (first | refine And.intro ?_ ?_ | refine hk _ ?_ | intro hg | omega | exact True.intro | (have h9 := hr (by assumption); omega) | fail)
  all_goals clear hk k
  refine AW.reg tiOk (fun _ => []) [0, 4] ?_
  intro k hk; simp -dsimp [go_sem, -decide_eq_true_eq, -decide_eq_false_iff_not]
  repeat' (first | refine And.intro ?_ ?_ | refine hk _ ?_ | intro hg | omega | exact True.intro | (have h9 := hr (by assumption); omega) | fail)
  all_goals clear hk k
  refine AW.seq ?_
  refine AW.reg tiOk (fun _ => []) [0, 4, 5] ?_
  intro k hk; simp -dsimp [go_sem, -decide_eq_true_eq, -decide_eq_false_iff_not]
  repeat' (first | refine And.intro ?_ ?_ | refine hk _ ?_ | intro hg | omega | exact True.intro | (have h9 := hr (by assumption); omega) | fail)
  all_goals clear hk k
  refine AW.block ?_
  -- live at the loop's head: [0, 4, 5]
  refine AW.rename (nd := ?nd_1) 9 60 ?h1_1 ?h2_1 ?h4_1 ?kk_1
  (case h1_1 => exact rfl)
  (case h2_1 => simp [go_sem])
  (case h4_1 => simp [go_sem])
  refine AW.loopI (fun i : Nat => ⟨62, [(0, .isl 4 (e.map TNode.ro)), (4, .sl 60 1 0 i), (5, .int .i64 i)], [(60, some ⟨1, (typesL e i).map I1⟩)]⟩) (fun i => i ≤ e.length ∧ typU e i = false) (fun i => e.length - i) (0) (by simp [typU]) (Less.of rfl (by simp [go_sem]) (by simp [go_sem, typesL])) ?_
  rintro i ⟨hi, hu⟩
  refine AW.rename (nd := ?nd_2) 60 9 ?h1_2 ?h2_2 ?h4_2 ?kk_2
  (case h1_2 => exact rfl)
  (case h2_2 => simp [go_sem])
  (case h4_2 => simp [go_sem])
  refine AW.seq ?_
  refine AW.reg tiOk (fun _ => []) [0, 4, 5, 13] ?_
  intro k hk; simp -dsimp [go_sem, -decide_eq_true_eq, -decide_eq_false_iff_not]
  repeat' (first | refine And.intro ?_ ?_ | refine hk _ ?_ | intro hg | omega | exact True.intro | (have h9 := hr (by assumption); omega) | fail)
  all_goals clear hk k
  refine AW.cond rfl ?_ ?_
  · intro hc; try simp at hc
    all_goals try (exfalso; omega; done)
    all_goals (
      have hlt : i < e.length := by assumption
      obtain ⟨x, hx⟩ := at_some hlt
      have hxA := nA_at hx
      have hpx := hP i hlt
      rw [nodeAt_at hx] at hpx
      have hq := nodeF_parts hpx
      have hl : 2 < x.kind → 0 ≤ x.left ∧ x.left.toNat < i := left_of hpx
      have hr := hq.2.1
      have htl := typesL_len e i
      have htk : List.take i ((typesL e i).map I1) = (typesL e i).map I1 := List.take_of_length_le (by simp [htl])
      have hsA : decide (2 < x.kind) = true → (typesL e i)[x.left.toNat]? = some (ownT (nA e x.left.toNat).kind) := fun h => typesL_at (hl (by simpa using h)).2
      have hsB : isTwoB x.kind = true → (typesL e i)[x.right.toNat]? = some (ownT (nA e x.right.toNat).kind) := fun h => typesL_at (hr h).2.2.2
      refine AW.skipN (fun _ h => h) ?_
      refine AW.seq ?_
      refine AW.block ?_
      refine AW.reg tiOk (fun _ => []) [0, 4, 5, 6] ?_
      intro k hk; simp -dsimp [go_sem, -decide_eq_true_eq, -decide_eq_false_iff_not, hx, htl, hsA, hsB]
      repeat' (first | refine And.intro ?_ ?_ | refine hk _ ?_ | intro hg | omega | exact True.intro | (have h9 := hr (by assumption); omega) | fail)
      all_goals clear hk k
      refine AW.reg tiOk (fun _ => []) [0, 4, 5, 6, 7] ?_
      intro k hk; simp -dsimp [go_sem, -decide_eq_true_eq, -decide_eq_false_iff_not, hx, htl, hsA, hsB]
      repeat' (first | refine And.intro ?_ ?_ | refine hk _ ?_ | intro hg | omega | exact True.intro | (have h9 := hr (by assumption); omega) | fail)
      all_goals clear hk k
      refine AW.reg tiOk (fun _ => []) [0, 4, 5, 6, 7, 8] ?_
      intro k hk; simp -dsimp [go_sem, -decide_eq_true_eq, -decide_eq_false_iff_not, hx, htl, hsA, hsB]
      repeat' (first | refine And.intro ?_ ?_ | refine hk _ ?_ | intro hg | omega | exact True.intro | (have h9 := hr (by assumption); omega) | fail)
      all_goals clear hk k
      refine AW.seq ?_
      refine AW.cut ⟨62, [(0, .isl 4 (e.map TNode.ro)), (4, .sl 9 1 0 i), (5, .int .i64 i), (6, .ptr 6 4 0 0), (7, .int .i64 1), (8, .int .i64 1), (27, .bool (decide (x.kind = 9 ∨ x.kind = 10)))], [(6, some ⟨4, [x.ro]⟩), (9, some ⟨1, (typesL e i).map I1⟩)]⟩ ?_ ?_
      · skip
        refine AW.regK tiOk (fun _ => []) ?_
        intro k hk; simp +contextual -dsimp (maxSteps := 2000000) [go_sem, -decide_eq_true_eq, -decide_eq_false_iff_not, hx, htl, hsA, hsB]
        repeat' (first | refine And.intro ?_ ?_ | refine hk _ ?_ | (intro hg; try simp only [decide_eq_true_eq, decide_eq_false_iff_not] at hg) | omega | exact True.intro | (have h9 := hr (by assumption); omega) | fail)
        all_goals clear hk k
        all_goals (show St.Less _ _; exact Less.of rfl (by simp [go_sem] <;> first | omega | grind) (by simp [go_sem]))
      · skip
        refine AW.cond rfl ?_ ?_
        · intro hc; try simp at hc
          all_goals try (exfalso; omega; done)
          all_goals (
            have hk9 : x.kind = 9 ∨ x.kind = 10 := by simpa using hc
            refine AW.regN tiOk (fun _ => []) [0, 4, 5, 6, 7, 8] (fun _ h => h) ?_
            intro k hk; simp -dsimp [go_sem, -decide_eq_true_eq, -decide_eq_false_iff_not, hx, htl, hsA, hsB]
            repeat' (first | refine And.intro ?_ ?_ | refine hk _ ?_ | intro hg | omega | exact True.intro | (have h9 := hr (by assumption); omega) | fail)
            all_goals clear hk k
            refine AW.seq ?_
            refine AW.reg tiOk (fun _ => []) [0, 4, 5, 6, 7, 8, 30] ?_
            intro k hk; simp -dsimp [go_sem, -decide_eq_true_eq, -decide_eq_false_iff_not, hx, htl, hsA, hsB]
            repeat' (first | refine And.intro ?_ ?_ | refine hk _ ?_ | intro hg | omega | exact True.intro | (have h9 := hr (by assumption); omega) | fail)
            all_goals clear hk k
            refine AW.cond rfl ?_ ?_
            · intro hc; try simp at hc
              all_goals try (exfalso; omega; done)
              all_goals (
                refine AW.regN tiOk (fun _ => []) [0, 4, 5, 6, 7, 8] (fun _ h => h) ?_
                intro k hk; simp -dsimp [go_sem, -decide_eq_true_eq, -decide_eq_false_iff_not, hx, htl, hsA, hsB]
                repeat' (first | refine And.intro ?_ ?_ | refine hk _ ?_ | intro hg | omega | exact True.intro | (have h9 := hr (by assumption); omega) | fail)
                all_goals clear hk k
                refine AW.seq ?_
                have hpt : partT x.kind = _ := rfl
                refine AW.cut ⟨62, [(0, .isl 4 (e.map TNode.ro)), (4, .sl 9 1 0 i), (5, .int .i64 i), (8, .int .i64 (ownT x.kind)), (56, .bool (typBad e i))], [(9, some ⟨1, (typesL e i).map I1⟩)]⟩ ?_ ?_
                · skip
                  refine AW.regK tiOk (fun _ => []) ?_
                  intro k hk; simp +contextual -dsimp (maxSteps := 2000000) [go_sem, -decide_eq_true_eq, -decide_eq_false_iff_not, hx, htl, hsA, hsB]
                  repeat' (first | refine And.intro ?_ ?_ | refine hk _ ?_ | (intro hg; try simp only [decide_eq_true_eq, decide_eq_false_iff_not] at hg) | (refine CallK.intro (dc_spec_l3Two _) ?_; simp +contextual -dsimp (maxSteps := 2000000) [go_sem, -decide_eq_true_eq, -decide_eq_false_iff_not, hx, htl, hsA, hsB]) | omega | exact True.intro | (have h9 := hr (by assumption); omega) | fail)
                  all_goals clear hk k
                  all_goals (show St.Less _ _; exact Less.of rfl (by simp [go_sem, typBad, hxA] <;> grind [ownT, partT]) (by simp [go_sem]))
                · skip
                  refine AW.cond rfl ?_ ?_
                  · intro hc; try simp at hc
                    all_goals try (exfalso; omega; done)
                    all_goals (
                      refine AW.reg tiOk (fun _ => []) [2, 3] ?_
                      intro k hk; simp -dsimp [go_sem, -decide_eq_true_eq, -decide_eq_false_iff_not, hx, htl, hsA, hsB]
                      repeat' (first | refine And.intro ?_ ?_ | refine hk _ ?_ | intro hg | omega | exact True.intro | (have h9 := hr (by assumption); omega) | fail)
                      all_goals clear hk k
                      refine AW.retF (ow := [1001]) (muts := []) ?_ (fun h => And.intro (.inr rfl) h)
                      first | (exfalso; have h8 := typU_hit hlt (by first | assumption | simpa using hc); rw [huk] at h8; cases h8) | (have hie : i = e.length := (by omega); simp [go_sem, Tryz.results184, hie, typesL_len]))
                  · intro hc; try simp at hc
                    all_goals try (exfalso; omega; done)
                    all_goals (
                      refine AW.skipN (fun _ h => h) ?_
                      refine AW.regN tiOk (fun _ => []) [0, 4, 5] (fun _ h => h) ?_
                      intro k hk; simp -dsimp [go_sem, -decide_eq_true_eq, -decide_eq_false_iff_not, hx, htl, hsA, hsB]
                      repeat' (first | refine And.intro ?_ ?_ | refine hk _ ?_ | intro hg | omega | exact True.intro | (have h9 := hr (by assumption); omega) | fail)
                      all_goals clear hk k
                      refine AW.regK tiOk (fun _ => []) ?_
                      intro k hk; simp -dsimp [go_sem, -decide_eq_true_eq, -decide_eq_false_iff_not, hx, htl, hsA, hsB]
                      repeat' (first | refine And.intro ?_ ?_ | refine hk _ ?_ | intro hg | omega | exact True.intro | (have h9 := hr (by assumption); omega) | fail)
                      all_goals clear hk k
                      show ∃ _, _
                      have hw := wrapi hlt (by omega)
                      have hub : typBad e i = false := by simpa using hc
                      refine ⟨i + 1, ⟨by omega, typU_go hu hub⟩, by omega, Less.of rfl (by simp [go_sem, hw]) (by simp [go_sem, typesL_succ, hxA, htk] <;> (unfold ownT; first | omega | (split <;> omega)))⟩))
            · intro hc; try simp at hc
              all_goals try (exfalso; omega; done)
              all_goals (
                refine AW.skipN (fun _ h => h) ?_
                refine AW.seq ?_
                have hpt : partT x.kind = _ := rfl
                refine AW.cut ⟨62, [(0, .isl 4 (e.map TNode.ro)), (4, .sl 9 1 0 i), (5, .int .i64 i), (8, .int .i64 (ownT x.kind)), (56, .bool (typBad e i))], [(9, some ⟨1, (typesL e i).map I1⟩)]⟩ ?_ ?_
                · skip
                  refine AW.regK tiOk (fun _ => []) ?_
                  intro k hk; simp +contextual -dsimp (maxSteps := 2000000) [go_sem, -decide_eq_true_eq, -decide_eq_false_iff_not, hx, htl, hsA, hsB]
                  repeat' (first | refine And.intro ?_ ?_ | refine hk _ ?_ | (intro hg; try simp only [decide_eq_true_eq, decide_eq_false_iff_not] at hg) | (refine CallK.intro (dc_spec_l3Two _) ?_; simp +contextual -dsimp (maxSteps := 2000000) [go_sem, -decide_eq_true_eq, -decide_eq_false_iff_not, hx, htl, hsA, hsB]) | omega | exact True.intro | (have h9 := hr (by assumption); omega) | fail)
                  all_goals clear hk k
                  all_goals (show St.Less _ _; exact Less.of rfl (by simp [go_sem, typBad, hxA] <;> grind [ownT, partT]) (by simp [go_sem]))
                · skip
                  refine AW.cond rfl ?_ ?_
                  · intro hc; try simp at hc
                    all_goals try (exfalso; omega; done)
                    all_goals (
                      refine AW.reg tiOk (fun _ => []) [2, 3] ?_
                      intro k hk; simp -dsimp [go_sem, -decide_eq_true_eq, -decide_eq_false_iff_not, hx, htl, hsA, hsB]
                      repeat' (first | refine And.intro ?_ ?_ | refine hk _ ?_ | intro hg | omega | exact True.intro | (have h9 := hr (by assumption); omega) | fail)
                      all_goals clear hk k
                      refine AW.retF (ow := [1001]) (muts := []) ?_ (fun h => And.intro (.inr rfl) h)
                      first | (exfalso; have h8 := typU_hit hlt (by first | assumption | simpa using hc); rw [huk] at h8; cases h8) | (have hie : i = e.length := (by omega); simp [go_sem, Tryz.results184, hie, typesL_len]))
                  · intro hc; try simp at hc
                    all_goals try (exfalso; omega; done)
                    all_goals (
                      refine AW.skipN (fun _ h => h) ?_
                      refine AW.regN tiOk (fun _ => []) [0, 4, 5] (fun _ h => h) ?_
                      intro k hk; simp -dsimp [go_sem, -decide_eq_true_eq, -decide_eq_false_iff_not, hx, htl, hsA, hsB]
                      repeat' (first | refine And.intro ?_ ?_ | refine hk _ ?_ | intro hg | omega | exact True.intro | (have h9 := hr (by assumption); omega) | fail)
                      all_goals clear hk k
                      refine AW.regK tiOk (fun _ => []) ?_
                      intro k hk; simp -dsimp [go_sem, -decide_eq_true_eq, -decide_eq_false_iff_not, hx, htl, hsA, hsB]
                      repeat' (first | refine And.intro ?_ ?_ | refine hk _ ?_ | intro hg | omega | exact True.intro | (have h9 := hr (by assumption); omega) | fail)
                      all_goals clear hk k
                      show ∃ _, _
                      have hw := wrapi hlt (by omega)
                      have hub : typBad e i = false := by simpa using hc
                      refine ⟨i + 1, ⟨by omega, typU_go hu hub⟩, by omega, Less.of rfl (by simp [go_sem, hw]) (by simp [go_sem, typesL_succ, hxA, htk] <;> (unfold ownT; first | omega | (split <;> omega)))⟩)))
        · intro hc; try simp at hc
          all_goals try (exfalso; omega; done)
          all_goals (
            refine AW.skipN (fun _ h => h) ?_
            refine AW.seq ?_
            refine AW.reg tiOk (fun _ => []) [0, 4, 5, 6, 7, 8, 30] ?_
            intro k hk; simp -dsimp [go_sem, -decide_eq_true_eq, -decide_eq_false_iff_not, hx, htl, hsA, hsB]
            repeat' (first | refine And.intro ?_ ?_ | refine hk _ ?_ | intro hg | omega | exact True.intro | (have h9 := hr (by assumption); omega) | fail)
            all_goals clear hk k
            refine AW.cond rfl ?_ ?_
            · intro hc; try simp at hc
              all_goals try (exfalso; omega; done)
              all_goals (
                refine AW.regN tiOk (fun _ => []) [0, 4, 5, 6, 7, 8] (fun _ h => h) ?_
                intro k hk; simp -dsimp [go_sem, -decide_eq_true_eq, -decide_eq_false_iff_not, hx, htl, hsA, hsB]
                repeat' (first | refine And.intro ?_ ?_ | refine hk _ ?_ | intro hg | omega | exact True.intro | (have h9 := hr (by assumption); omega) | fail)
                all_goals clear hk k
                refine AW.seq ?_
                have hpt : partT x.kind = _ := rfl
                refine AW.cut ⟨62, [(0, .isl 4 (e.map TNode.ro)), (4, .sl 9 1 0 i), (5, .int .i64 i), (8, .int .i64 (ownT x.kind)), (56, .bool (typBad e i))], [(9, some ⟨1, (typesL e i).map I1⟩)]⟩ ?_ ?_
                · skip
                  refine AW.regK tiOk (fun _ => []) ?_
                  intro k hk; simp +contextual -dsimp (maxSteps := 2000000) [go_sem, -decide_eq_true_eq, -decide_eq_false_iff_not, hx, htl, hsA, hsB]
                  repeat' (first | refine And.intro ?_ ?_ | refine hk _ ?_ | (intro hg; try simp only [decide_eq_true_eq, decide_eq_false_iff_not] at hg) | (refine CallK.intro (dc_spec_l3Two _) ?_; simp +contextual -dsimp (maxSteps := 2000000) [go_sem, -decide_eq_true_eq, -decide_eq_false_iff_not, hx, htl, hsA, hsB]) | omega | exact True.intro | (have h9 := hr (by assumption); omega) | fail)
                  all_goals clear hk k
                  all_goals (show St.Less _ _; exact Less.of rfl (by simp [go_sem, typBad, hxA] <;> grind [ownT, partT]) (by simp [go_sem]))
                · skip
                  refine AW.cond rfl ?_ ?_
                  · intro hc; try simp at hc
                    all_goals try (exfalso; omega; done)
                    all_goals (
                      refine AW.reg tiOk (fun _ => []) [2, 3] ?_
                      intro k hk; simp -dsimp [go_sem, -decide_eq_true_eq, -decide_eq_false_iff_not, hx, htl, hsA, hsB]
                      repeat' (first | refine And.intro ?_ ?_ | refine hk _ ?_ | intro hg | omega | exact True.intro | (have h9 := hr (by assumption); omega) | fail)
                      all_goals clear hk k
                      refine AW.retF (ow := [1001]) (muts := []) ?_ (fun h => And.intro (.inr rfl) h)
                      first | (exfalso; have h8 := typU_hit hlt (by first | assumption | simpa using hc); rw [huk] at h8; cases h8) | (have hie : i = e.length := (by omega); simp [go_sem, Tryz.results184, hie, typesL_len]))
                  · intro hc; try simp at hc
                    all_goals try (exfalso; omega; done)
                    all_goals (
                      refine AW.skipN (fun _ h => h) ?_
                      refine AW.regN tiOk (fun _ => []) [0, 4, 5] (fun _ h => h) ?_
                      intro k hk; simp -dsimp [go_sem, -decide_eq_true_eq, -decide_eq_false_iff_not, hx, htl, hsA, hsB]
                      repeat' (first | refine And.intro ?_ ?_ | refine hk _ ?_ | intro hg | omega | exact True.intro | (have h9 := hr (by assumption); omega) | fail)
                      all_goals clear hk k
                      refine AW.regK tiOk (fun _ => []) ?_
                      intro k hk; simp -dsimp [go_sem, -decide_eq_true_eq, -decide_eq_false_iff_not, hx, htl, hsA, hsB]
                      repeat' (first | refine And.intro ?_ ?_ | refine hk _ ?_ | intro hg | omega | exact True.intro | (have h9 := hr (by assumption); omega) | fail)
                      all_goals clear hk k
                      show ∃ _, _
                      have hw := wrapi hlt (by omega)
                      have hub : typBad e i = false := by simpa using hc
                      refine ⟨i + 1, ⟨by omega, typU_go hu hub⟩, by omega, Less.of rfl (by simp [go_sem, hw]) (by simp [go_sem, typesL_succ, hxA, htk] <;> (unfold ownT; first | omega | (split <;> omega)))⟩))
            · intro hc; try simp at hc
              all_goals try (exfalso; omega; done)
              all_goals (
                refine AW.skipN (fun _ h => h) ?_
                refine AW.seq ?_
                have hpt : partT x.kind = _ := rfl
                refine AW.cut ⟨62, [(0, .isl 4 (e.map TNode.ro)), (4, .sl 9 1 0 i), (5, .int .i64 i), (8, .int .i64 (ownT x.kind)), (56, .bool (typBad e i))], [(9, some ⟨1, (typesL e i).map I1⟩)]⟩ ?_ ?_
                · skip
                  refine AW.regK tiOk (fun _ => []) ?_
                  intro k hk; simp +contextual -dsimp (maxSteps := 2000000) [go_sem, -decide_eq_true_eq, -decide_eq_false_iff_not, hx, htl, hsA, hsB]
                  repeat' (first | refine And.intro ?_ ?_ | refine hk _ ?_ | (intro hg; try simp only [decide_eq_true_eq, decide_eq_false_iff_not] at hg) | (refine CallK.intro (dc_spec_l3Two _) ?_; simp +contextual -dsimp (maxSteps := 2000000) [go_sem, -decide_eq_true_eq, -decide_eq_false_iff_not, hx, htl, hsA, hsB]) | omega | exact True.intro | (have h9 := hr (by assumption); omega) | fail)
                  all_goals clear hk k
                  all_goals (show St.Less _ _; exact Less.of rfl (by simp [go_sem, typBad, hxA] <;> grind [ownT, partT]) (by simp [go_sem]))
                · skip
                  refine AW.cond rfl ?_ ?_
                  · intro hc; try simp at hc
                    all_goals try (exfalso; omega; done)
                    all_goals (
                      refine AW.reg tiOk (fun _ => []) [2, 3] ?_
                      intro k hk; simp -dsimp [go_sem, -decide_eq_true_eq, -decide_eq_false_iff_not, hx, htl, hsA, hsB]
                      repeat' (first | refine And.intro ?_ ?_ | refine hk _ ?_ | intro hg | omega | exact True.intro | (have h9 := hr (by assumption); omega) | fail)
                      all_goals clear hk k
                      refine AW.retF (ow := [1001]) (muts := []) ?_ (fun h => And.intro (.inr rfl) h)
                      first | (exfalso; have h8 := typU_hit hlt (by first | assumption | simpa using hc); rw [huk] at h8; cases h8) | (have hie : i = e.length := (by omega); simp [go_sem, Tryz.results184, hie, typesL_len]))
                  · intro hc; try simp at hc
                    all_goals try (exfalso; omega; done)
                    all_goals (
                      refine AW.skipN (fun _ h => h) ?_
                      refine AW.regN tiOk (fun _ => []) [0, 4, 5] (fun _ h => h) ?_
                      intro k hk; simp -dsimp [go_sem, -decide_eq_true_eq, -decide_eq_false_iff_not, hx, htl, hsA, hsB]
                      repeat' (first | refine And.intro ?_ ?_ | refine hk _ ?_ | intro hg | omega | exact True.intro | (have h9 := hr (by assumption); omega) | fail)
                      all_goals clear hk k
                      refine AW.regK tiOk (fun _ => []) ?_
                      intro k hk; simp -dsimp [go_sem, -decide_eq_true_eq, -decide_eq_false_iff_not, hx, htl, hsA, hsB]
                      repeat' (first | refine And.intro ?_ ?_ | refine hk _ ?_ | intro hg | omega | exact True.intro | (have h9 := hr (by assumption); omega) | fail)
                      all_goals clear hk k
                      show ∃ _, _
                      have hw := wrapi hlt (by omega)
                      have hub : typBad e i = false := by simpa using hc
                      refine ⟨i + 1, ⟨by omega, typU_go hu hub⟩, by omega, Less.of rfl (by simp [go_sem, hw]) (by simp [go_sem, typesL_succ, hxA, htk] <;> (unfold ownT; first | omega | (split <;> omega)))⟩))))
  · intro hc; try simp at hc
    all_goals try (exfalso; omega; done)
    all_goals (
      refine AW.exitN (fun _ h => h) ?_
      refine AW.reg tiOk (fun _ => []) [2, 3] ?_
      intro k hk; simp -dsimp [go_sem, -decide_eq_true_eq, -decide_eq_false_iff_not]
      repeat' (first | refine And.intro ?_ ?_ | refine hk _ ?_ | intro hg | omega | exact True.intro | (have h9 := hr (by assumption); omega) | fail)
      all_goals clear hk k
      refine AW.retF (ow := [1001]) (muts := []) ?_ (fun h => And.intro (.inr rfl) h)
      first | (exfalso; have h8 := typU_hit hlt (by first | assumption | simpa using hc); rw [huk] at h8; cases h8) | (have hie : i = e.length := (by omega); simp [go_sem, Tryz.results184, hie, typesL_len]))

end Go.AM

/-! ### F8 -/
set_option linter.unusedVariables false
set_option linter.unusedSimpArgs false
namespace Go.AM
open Go.Proofs

set_option maxHeartbeats 600000 in
set_option linter.unusedSimpArgs false in
set_option maxRecDepth 100000 in
/-- spec.l3Type -/
theorem dc_spec_l3Type_f (e : List TNode) (he : e.length ≤ 9223372036854775807) (h0 : exprF e ≠ 0) : DC Tryz.prog 168 [.isl 4 (e.map TNode.ro)] (.tup [.int .i64 (typV e), .int .i64 (typC e)]) [] := by
  obtain ⟨hC, hV⟩ := typC_f h0
  refine DC.intro tiOk Tryz.func168 rfl rfl rfl rfl rfl rfl rfl rfl [] ?_
  refine AW.reg tiOk (fun _ => []) [0] ?_
  intro k hk; simp -dsimp [go_sem, -decide_eq_true_eq, -decide_eq_false_iff_not, h0, hC, hV]
  repeat' (first | refine And.intro ?_ ?_ | refine hk _ ?_ | intro hg | omega | exact True.intro)
  all_goals clear hk k
  refine AW.seq ?_
  refine AW.reg tiOk (fun _ => []) [0, 4] ?_
  intro k hk; simp -dsimp (maxSteps := 2000000) [go_sem, -decide_eq_true_eq, -decide_eq_false_iff_not, h0, hC, hV]
  repeat' (first | refine And.intro ?_ ?_ | refine hk _ ?_ | intro hg | (refine CallK.intro (dc_spec_l3Fault e he) ?_; simp -dsimp (maxSteps := 2000000) [go_sem, -decide_eq_true_eq, -decide_eq_false_iff_not, h0, hC, hV]) | omega | exact True.intro)
  all_goals clear hk k
  refine AW.reg tiOk (fun _ => []) [0, 4, 10] ?_
  intro k hk; simp -dsimp [go_sem, -decide_eq_true_eq, -decide_eq_false_iff_not, h0, hC, hV]
  repeat' (first | refine And.intro ?_ ?_ | refine hk _ ?_ | intro hg | omega | exact True.intro)
  all_goals clear hk k
  refine AW.cond rfl ?_ ?_
  · intro hc; try simp at hc
    all_goals try (exfalso; contradiction; done)
    all_goals (
      refine AW.reg tiOk (fun _ => []) [2, 3] ?_
      intro k hk; simp -dsimp [go_sem, -decide_eq_true_eq, -decide_eq_false_iff_not, h0, hC, hV]
      repeat' (first | refine And.intro ?_ ?_ | refine hk _ ?_ | intro hg | omega | exact True.intro)
      all_goals clear hk k
      refine AW.retF (ow := []) (muts := []) ?_ (fun h => And.intro (.inr rfl) h)
      simp [go_sem, Tryz.results168, hC, hV])
  · intro hc; try simp at hc
    all_goals try (exfalso; contradiction; done)
    all_goals (
      refine AW.skipN (fun _ h => h) ?_
      refine AW.reg tiOk (fun _ => []) [5, 6] ?_
      intro k hk; simp -dsimp (maxSteps := 2000000) [go_sem, -decide_eq_true_eq, -decide_eq_false_iff_not, h0, hC, hV]
      repeat' (first | refine And.intro ?_ ?_ | refine hk _ ?_ | intro hg | (refine CallK.intro (skip) ?_; simp -dsimp (maxSteps := 2000000) [go_sem, -decide_eq_true_eq, -decide_eq_false_iff_not, h0, hC, hV]) | omega | exact True.intro)
      all_goals clear hk k
      refine AW.seq ?_
      refine AW.reg tiOk (fun _ => []) [5, 18] ?_
      intro k hk; simp -dsimp [go_sem, -decide_eq_true_eq, -decide_eq_false_iff_not, h0, hC, hV]
      repeat' (first | refine And.intro ?_ ?_ | refine hk _ ?_ | intro hg | omega | exact True.intro)
      all_goals clear hk k
      refine AW.cond rfl ?_ ?_
      · intro hc; try simp at hc
        all_goals try (exfalso; contradiction; done)
        all_goals (
          refine AW.reg tiOk (fun _ => []) [2, 3] ?_
          intro k hk; simp -dsimp [go_sem, -decide_eq_true_eq, -decide_eq_false_iff_not, h0, hC, hV]
          repeat' (first | refine And.intro ?_ ?_ | refine hk _ ?_ | intro hg | omega | exact True.intro)
          all_goals clear hk k
          refine AW.retF (ow := []) (muts := []) ?_ (fun h => And.intro (.inr rfl) h)
          simp [go_sem, Tryz.results168, hC, hV])
      · intro hc; try simp at hc
        all_goals try (exfalso; contradiction; done)
        all_goals (
          refine AW.skipN (fun _ h => h) ?_
          have htl := typesL_len e e.length
          have hlast := typesL_at (e := e) (show e.length - 1 < e.length by omega)
          have hwl : IntKind.wrap .i64 ((e.length : Int) - 1) = (e.length : Int) - 1 := wrap64 (by omega) (by omega)
          have hwt : ((e.length : Int) - 1).toNat = e.length - 1 := by omega
          refine AW.reg tiOk (fun _ => []) [2, 3] ?_
          intro k hk; simp -dsimp (maxSteps := 2000000) [go_sem, -decide_eq_true_eq, -decide_eq_false_iff_not, h0, hC, hV, htl, hlast, hwl, hwt]
          repeat' (first | refine And.intro ?_ ?_ | refine hk _ ?_ | intro hg | omega | exact True.intro)
          all_goals clear hk k
          refine AW.retF (ow := []) (muts := []) ?_ (fun h => And.intro (.inr rfl) h)
          simp [go_sem, Tryz.results168, hC, hV]))

set_option maxHeartbeats 600000 in
set_option linter.unusedSimpArgs false in
set_option maxRecDepth 100000 in
/-- spec.l3Type -/
theorem dc_spec_l3Type_b (e : List TNode) (he : e.length ≤ 9223372036854775807) (h0 : exprF e = 0) (hub : typU e e.length = true) : DC Tryz.prog 168 [.isl 4 (e.map TNode.ro)] (.tup [.int .i64 (typV e), .int .i64 (typC e)]) [] := by
  obtain ⟨hR, hP⟩ := exprF_zero h0
  have hlen := inR_iff.1 hR
  obtain ⟨hC, hV⟩ := typC_b h0 hub
  refine DC.intro tiOk Tryz.func168 rfl rfl rfl rfl rfl rfl rfl rfl [] ?_
  refine AW.reg tiOk (fun _ => []) [0] ?_
  intro k hk; simp -dsimp [go_sem, -decide_eq_true_eq, -decide_eq_false_iff_not, h0, hC, hV]
  repeat' (first | refine And.intro ?_ ?_ | refine hk _ ?_ | intro hg | omega | exact True.intro)
  all_goals clear hk k
  refine AW.seq ?_
  refine AW.reg tiOk (fun _ => []) [0, 4] ?_
  intro k hk; simp -dsimp (maxSteps := 2000000) [go_sem, -decide_eq_true_eq, -decide_eq_false_iff_not, h0, hC, hV]
  repeat' (first | refine And.intro ?_ ?_ | refine hk _ ?_ | intro hg | (refine CallK.intro (dc_spec_l3Fault e he) ?_; simp -dsimp (maxSteps := 2000000) [go_sem, -decide_eq_true_eq, -decide_eq_false_iff_not, h0, hC, hV]) | omega | exact True.intro)
  all_goals clear hk k
  refine AW.reg tiOk (fun _ => []) [0, 4, 10] ?_
  intro k hk; simp -dsimp [go_sem, -decide_eq_true_eq, -decide_eq_false_iff_not, h0, hC, hV]
  repeat' (first | refine And.intro ?_ ?_ | refine hk _ ?_ | intro hg | omega | exact True.intro)
  all_goals clear hk k
  refine AW.cond rfl ?_ ?_
  · intro hc; try simp at hc
    all_goals try (exfalso; contradiction; done)
    all_goals (
      refine AW.reg tiOk (fun _ => []) [2, 3] ?_
      intro k hk; simp -dsimp [go_sem, -decide_eq_true_eq, -decide_eq_false_iff_not, h0, hC, hV]
      repeat' (first | refine And.intro ?_ ?_ | refine hk _ ?_ | intro hg | omega | exact True.intro)
      all_goals clear hk k
      refine AW.retF (ow := []) (muts := []) ?_ (fun h => And.intro (.inr rfl) h)
      simp [go_sem, Tryz.results168, hC, hV])
  · intro hc; try simp at hc
    all_goals try (exfalso; contradiction; done)
    all_goals (
      refine AW.skipN (fun _ h => h) ?_
      refine AW.reg tiOk (fun _ => []) [5, 6] ?_
      intro k hk; simp -dsimp (maxSteps := 2000000) [go_sem, -decide_eq_true_eq, -decide_eq_false_iff_not, h0, hC, hV]
      repeat' (first | refine And.intro ?_ ?_ | refine hk _ ?_ | intro hg | (refine CallK.intro (dc_spec_l3Types_b e hP (by omega) hub) ?_; simp -dsimp (maxSteps := 2000000) [go_sem, -decide_eq_true_eq, -decide_eq_false_iff_not, h0, hC, hV]) | omega | exact True.intro)
      all_goals clear hk k
      refine AW.seq ?_
      refine AW.reg tiOk (fun _ => []) [5, 18] ?_
      intro k hk; simp -dsimp [go_sem, -decide_eq_true_eq, -decide_eq_false_iff_not, h0, hC, hV]
      repeat' (first | refine And.intro ?_ ?_ | refine hk _ ?_ | intro hg | omega | exact True.intro)
      all_goals clear hk k
      refine AW.cond rfl ?_ ?_
      · intro hc; try simp at hc
        all_goals try (exfalso; contradiction; done)
        all_goals (
          refine AW.reg tiOk (fun _ => []) [2, 3] ?_
          intro k hk; simp -dsimp [go_sem, -decide_eq_true_eq, -decide_eq_false_iff_not, h0, hC, hV]
          repeat' (first | refine And.intro ?_ ?_ | refine hk _ ?_ | intro hg | omega | exact True.intro)
          all_goals clear hk k
          refine AW.retF (ow := []) (muts := []) ?_ (fun h => And.intro (.inr rfl) h)
          simp [go_sem, Tryz.results168, hC, hV])
      · intro hc; try simp at hc
        all_goals try (exfalso; contradiction; done)
        all_goals (
          refine AW.skipN (fun _ h => h) ?_
          have htl := typesL_len e e.length
          have hlast := typesL_at (e := e) (show e.length - 1 < e.length by omega)
          have hwl : IntKind.wrap .i64 ((e.length : Int) - 1) = (e.length : Int) - 1 := wrap64 (by omega) (by omega)
          have hwt : ((e.length : Int) - 1).toNat = e.length - 1 := by omega
          refine AW.reg tiOk (fun _ => []) [2, 3] ?_
          intro k hk; simp -dsimp (maxSteps := 2000000) [go_sem, -decide_eq_true_eq, -decide_eq_false_iff_not, h0, hC, hV, htl, hlast, hwl, hwt]
          repeat' (first | refine And.intro ?_ ?_ | refine hk _ ?_ | intro hg | omega | exact True.intro)
          all_goals clear hk k
          refine AW.retF (ow := []) (muts := []) ?_ (fun h => And.intro (.inr rfl) h)
          simp [go_sem, Tryz.results168, hC, hV]))

set_option maxHeartbeats 600000 in
set_option linter.unusedSimpArgs false in
set_option maxRecDepth 100000 in
/-- spec.l3Type -/
theorem dc_spec_l3Type_k (e : List TNode) (he : e.length ≤ 9223372036854775807) (h0 : exprF e = 0) (huk : typU e e.length = false) : DC Tryz.prog 168 [.isl 4 (e.map TNode.ro)] (.tup [.int .i64 (typV e), .int .i64 (typC e)]) [] := by
  obtain ⟨hR, hP⟩ := exprF_zero h0
  have hlen := inR_iff.1 hR
  obtain ⟨hC, hV⟩ := typC_k h0 huk
  refine DC.intro tiOk Tryz.func168 rfl rfl rfl rfl rfl rfl rfl rfl [] ?_
  refine AW.reg tiOk (fun _ => []) [0] ?_
  intro k hk; simp -dsimp [go_sem, -decide_eq_true_eq, -decide_eq_false_iff_not, h0, hC, hV]
  repeat' (first | refine And.intro ?_ ?_ | refine hk _ ?_ | intro hg | omega | exact True.intro)
  all_goals clear hk k
  refine AW.seq ?_
  refine AW.reg tiOk (fun _ => []) [0, 4] ?_
  intro k hk; simp -dsimp (maxSteps := 2000000) [go_sem, -decide_eq_true_eq, -decide_eq_false_iff_not, h0, hC, hV]
  repeat' (first | refine And.intro ?_ ?_ | refine hk _ ?_ | intro hg | (refine CallK.intro (dc_spec_l3Fault e he) ?_; simp -dsimp (maxSteps := 2000000) [go_sem, -decide_eq_true_eq, -decide_eq_false_iff_not, h0, hC, hV]) | omega | exact True.intro)
  all_goals clear hk k
  refine AW.reg tiOk (fun _ => []) [0, 4, 10] ?_
  intro k hk; simp -dsimp [go_sem, -decide_eq_true_eq, -decide_eq_false_iff_not, h0, hC, hV]
  repeat' (first | refine And.intro ?_ ?_ | refine hk _ ?_ | intro hg | omega | exact True.intro)
  all_goals clear hk k
  refine AW.cond rfl ?_ ?_
  · intro hc; try simp at hc
    all_goals try (exfalso; contradiction; done)
    all_goals (
      refine AW.reg tiOk (fun _ => []) [2, 3] ?_
      intro k hk; simp -dsimp [go_sem, -decide_eq_true_eq, -decide_eq_false_iff_not, h0, hC, hV]
      repeat' (first | refine And.intro ?_ ?_ | refine hk _ ?_ | intro hg | omega | exact True.intro)
      all_goals clear hk k
      refine AW.retF (ow := []) (muts := []) ?_ (fun h => And.intro (.inr rfl) h)
      simp [go_sem, Tryz.results168, hC, hV])
  · intro hc; try simp at hc
    all_goals try (exfalso; contradiction; done)
    all_goals (
      refine AW.skipN (fun _ h => h) ?_
      refine AW.reg tiOk (fun _ => []) [5, 6] ?_
      intro k hk; simp -dsimp (maxSteps := 2000000) [go_sem, -decide_eq_true_eq, -decide_eq_false_iff_not, h0, hC, hV]
      repeat' (first | refine And.intro ?_ ?_ | refine hk _ ?_ | intro hg | (refine CallK.intro (dc_spec_l3Types_k e hP (by omega) huk) ?_; simp -dsimp (maxSteps := 2000000) [go_sem, -decide_eq_true_eq, -decide_eq_false_iff_not, h0, hC, hV]) | omega | exact True.intro)
      all_goals clear hk k
      refine AW.seq ?_
      refine AW.reg tiOk (fun _ => []) [5, 18] ?_
      intro k hk; simp -dsimp [go_sem, -decide_eq_true_eq, -decide_eq_false_iff_not, h0, hC, hV]
      repeat' (first | refine And.intro ?_ ?_ | refine hk _ ?_ | intro hg | omega | exact True.intro)
      all_goals clear hk k
      refine AW.cond rfl ?_ ?_
      · intro hc; try simp at hc
        all_goals try (exfalso; contradiction; done)
        all_goals (
          refine AW.reg tiOk (fun _ => []) [2, 3] ?_
          intro k hk; simp -dsimp [go_sem, -decide_eq_true_eq, -decide_eq_false_iff_not, h0, hC, hV]
          repeat' (first | refine And.intro ?_ ?_ | refine hk _ ?_ | intro hg | omega | exact True.intro)
          all_goals clear hk k
          refine AW.retF (ow := []) (muts := []) ?_ (fun h => And.intro (.inr rfl) h)
          simp [go_sem, Tryz.results168, hC, hV])
      · intro hc; try simp at hc
        all_goals try (exfalso; contradiction; done)
        all_goals (
          refine AW.skipN (fun _ h => h) ?_
          have htl := typesL_len e e.length
          have hlast := typesL_at (e := e) (show e.length - 1 < e.length by omega)
          have hwl : IntKind.wrap .i64 ((e.length : Int) - 1) = (e.length : Int) - 1 := wrap64 (by omega) (by omega)
          have hwt : ((e.length : Int) - 1).toNat = e.length - 1 := by omega
          refine AW.reg tiOk (fun _ => []) [2, 3] ?_
          intro k hk; simp -dsimp (maxSteps := 2000000) [go_sem, -decide_eq_true_eq, -decide_eq_false_iff_not, h0, hC, hV, htl, hlast, hwl, hwt]
          repeat' (first | refine And.intro ?_ ?_ | refine hk _ ?_ | intro hg | omega | exact True.intro)
          all_goals clear hk k
          refine AW.retF (ow := []) (muts := []) ?_ (fun h => And.intro (.inr rfl) h)
          simp [go_sem, Tryz.results168, hC, hV]))
theorem dc_spec_l3Type (e : List TNode) (he : e.length ≤ 9223372036854775807) : DC Tryz.prog 168 [.isl 4 (e.map TNode.ro)] (.tup [.int .i64 (typV e), .int .i64 (typC e)]) [] := by
  by_cases h0 : exprF e = 0
  · by_cases hu : typU e e.length = true
    · exact dc_spec_l3Type_b e he h0 hu
    · exact dc_spec_l3Type_k e he h0 (by simpa using hu)
  · exact dc_spec_l3Type_f e he h0

set_option maxHeartbeats 600000 in
set_option linter.unusedSimpArgs false in
set_option maxRecDepth 100000 in
/-- spec.l4Typed -/
theorem dc_spec_l4Typed (e : List TNode) (w : Int) (he : e.length ≤ 9223372036854775807) : DC Tryz.prog 142 [.isl 4 (e.map TNode.ro), .int .i64 w] (.int .i64 (typF e w)) [] := by
  refine DC.intro tiOk Tryz.func142 rfl rfl rfl rfl rfl rfl rfl rfl [] ?_
  refine AW.reg tiOk (fun _ => []) [0, 1] ?_
  intro k hk; simp -dsimp [go_sem, -decide_eq_true_eq, -decide_eq_false_iff_not]
  repeat' (first | refine And.intro ?_ ?_ | refine hk _ ?_ | intro hg | omega | exact True.intro)
  all_goals clear hk k
  refine AW.seq ?_
  refine AW.reg tiOk (fun _ => []) [0, 1, 9] ?_
  intro k hk; simp -dsimp [go_sem, -decide_eq_true_eq, -decide_eq_false_iff_not]
  repeat' (first | refine And.intro ?_ ?_ | refine hk _ ?_ | intro hg | omega | exact True.intro)
  all_goals clear hk k
  refine AW.cond rfl ?_ ?_
  · intro hc; try simp at hc
    all_goals (
      refine AW.reg tiOk (fun _ => []) [4] ?_
      intro k hk; simp -dsimp [go_sem, -decide_eq_true_eq, -decide_eq_false_iff_not]
      repeat' (first | refine And.intro ?_ ?_ | refine hk _ ?_ | intro hg | omega | exact True.intro)
      all_goals clear hk k
      refine AW.retF (ow := []) (muts := []) ?_ (fun h => And.intro (.inr rfl) h)
      simp [go_sem, Tryz.results142, typF, firstC_cons, firstC_nil] <;> grind)
  · intro hc; try simp at hc
    all_goals (
      refine AW.skipN (fun _ h => h) ?_
      refine AW.reg tiOk (fun _ => []) [1, 5, 6] ?_
      intro k hk; simp -dsimp (maxSteps := 2000000) [go_sem, -decide_eq_true_eq, -decide_eq_false_iff_not]
      repeat' (first | refine And.intro ?_ ?_ | refine hk _ ?_ | intro hg | (refine CallK.intro (dc_spec_l3Type e he) ?_; simp -dsimp (maxSteps := 2000000) [go_sem, -decide_eq_true_eq, -decide_eq_false_iff_not]) | omega | exact True.intro)
      all_goals clear hk k
      refine AW.seq ?_
      refine AW.reg tiOk (fun _ => []) [1, 5, 6, 16] ?_
      intro k hk; simp -dsimp [go_sem, -decide_eq_true_eq, -decide_eq_false_iff_not]
      repeat' (first | refine And.intro ?_ ?_ | refine hk _ ?_ | intro hg | omega | exact True.intro)
      all_goals clear hk k
      refine AW.cond rfl ?_ ?_
      · intro hc; try simp at hc
        all_goals (
          refine AW.reg tiOk (fun _ => []) [4] ?_
          intro k hk; simp -dsimp [go_sem, -decide_eq_true_eq, -decide_eq_false_iff_not]
          repeat' (first | refine And.intro ?_ ?_ | refine hk _ ?_ | intro hg | omega | exact True.intro)
          all_goals clear hk k
          refine AW.retF (ow := []) (muts := []) ?_ (fun h => And.intro (.inr rfl) h)
          simp [go_sem, Tryz.results142, typF, firstC_cons, firstC_nil] <;> grind)
      · intro hc; try simp at hc
        all_goals (
          refine AW.skipN (fun _ h => h) ?_
          refine AW.seq ?_
          refine AW.reg tiOk (fun _ => []) [20] ?_
          intro k hk; simp -dsimp [go_sem, -decide_eq_true_eq, -decide_eq_false_iff_not]
          repeat' (first | refine And.intro ?_ ?_ | refine hk _ ?_ | intro hg | omega | exact True.intro)
          all_goals clear hk k
          refine AW.cond rfl ?_ ?_
          · intro hc; try simp at hc
            all_goals (
              refine AW.reg tiOk (fun _ => []) [4] ?_
              intro k hk; simp -dsimp [go_sem, -decide_eq_true_eq, -decide_eq_false_iff_not]
              repeat' (first | refine And.intro ?_ ?_ | refine hk _ ?_ | intro hg | omega | exact True.intro)
              all_goals clear hk k
              refine AW.retF (ow := []) (muts := []) ?_ (fun h => And.intro (.inr rfl) h)
              simp [go_sem, Tryz.results142, typF, firstC_cons, firstC_nil] <;> grind)
          · intro hc; try simp at hc
            all_goals (
              refine AW.skipN (fun _ h => h) ?_
              refine AW.reg tiOk (fun _ => []) [4] ?_
              intro k hk; simp -dsimp [go_sem, -decide_eq_true_eq, -decide_eq_false_iff_not]
              repeat' (first | refine And.intro ?_ ?_ | refine hk _ ?_ | intro hg | omega | exact True.intro)
              all_goals clear hk k
              refine AW.retF (ow := []) (muts := []) ?_ (fun h => And.intro (.inr rfl) h)
              simp [go_sem, Tryz.results142, typF, firstC_cons, firstC_nil] <;> grind)))

set_option maxHeartbeats 600000 in
set_option linter.unusedSimpArgs false in
set_option maxRecDepth 100000 in
/-- spec.l1Name -/
theorem dc_spec_l1Name (s : List UInt8) (hs : s.length ≤ 9223372036854775807) : DC Tryz.prog 162 [.str s] (.int .i64 (nameF s)) [] := by
  refine DC.intro tiOk Tryz.func162 rfl rfl rfl rfl rfl rfl rfl rfl [] ?_
  refine AW.reg tiOk (fun _ => []) [0] ?_
  intro k hk; simp -dsimp [go_sem, -decide_eq_true_eq, -decide_eq_false_iff_not]
  repeat' (first | refine And.intro ?_ ?_ | refine hk _ ?_ | intro hg | omega | exact True.intro)
  all_goals clear hk k
  refine AW.seq ?_
  refine AW.reg tiOk (fun _ => []) [0, 3] ?_
  intro k hk; simp -dsimp [go_sem, -decide_eq_true_eq, -decide_eq_false_iff_not]
  repeat' (first | refine And.intro ?_ ?_ | refine hk _ ?_ | intro hg | omega | exact True.intro)
  all_goals clear hk k
  refine AW.block ?_
  -- live at the loop's head: [0, 3]
  refine AW.loopI (fun i : Nat => ⟨25, [(0, .str s), (3, .int .i64 i)], []⟩) (fun i => i ≤ s.length ∧ (s.take i).all isLow = true) (fun i => s.length - i) (0) (by simp) (Less.of rfl (by simp [go_sem]) (by simp [go_sem])) ?_
  rintro i ⟨hi, hall⟩
  refine AW.seq ?_
  refine AW.reg tiOk (fun _ => []) [0, 3, 7] ?_
  intro k hk; simp -dsimp [go_sem, -decide_eq_true_eq, -decide_eq_false_iff_not]
  repeat' (first | refine And.intro ?_ ?_ | refine hk _ ?_ | intro hg | omega | exact True.intro)
  all_goals clear hk k
  refine AW.cond rfl ?_ ?_
  · intro hc; try simp at hc
    all_goals (
      have hlt : i < s.length := by assumption
      obtain ⟨x, hx⟩ := at_some hlt
      refine AW.skipN (fun _ h => h) ?_
      refine AW.seq ?_
      refine AW.block ?_
      refine AW.reg tiOk (fun _ => []) [0, 3, 19] ?_
      intro k hk; simp +contextual -dsimp (maxSteps := 2000000) [go_sem, -decide_eq_true_eq, -decide_eq_false_iff_not, hx]
      repeat' (first | refine And.intro ?_ ?_ | refine hk _ ?_ | (intro hg; try simp only [decide_eq_true_eq, decide_eq_false_iff_not] at hg) | omega | exact True.intro)
      all_goals clear hk k
      all_goals (
        refine AW.cond rfl ?_ ?_
        · intro hc; try simp at hc
          all_goals (
            refine AW.reg tiOk (fun _ => []) [2] ?_
            intro k hk; simp -dsimp [go_sem, -decide_eq_true_eq, -decide_eq_false_iff_not, hx]
            repeat' (first | refine And.intro ?_ ?_ | refine hk _ ?_ | intro hg | omega | exact True.intro)
            all_goals clear hk k
            refine AW.retF (ow := []) (muts := []) ?_ (fun h => And.intro (.inr rfl) h)
            first | (have hr := all_not (p := isLow) hx (by simp [isLow]; omega); simp [go_sem, Tryz.results162, nameF, hr]; done) | (have hr := all_end (p := isLow) (show s.length ≤ i by omega) hall; simp [go_sem, Tryz.results162, nameF, hr] at * <;> grind))
        · intro hc; try simp at hc
          all_goals (
            refine AW.skipN (fun _ h => h) ?_
            refine AW.regK tiOk (fun _ => []) ?_
            intro k hk; simp -dsimp [go_sem, -decide_eq_true_eq, -decide_eq_false_iff_not, hx]
            repeat' (first | refine And.intro ?_ ?_ | refine hk _ ?_ | intro hg | omega | exact True.intro)
            all_goals clear hk k
            show ∃ _, _
            have hw := wrapi hlt (by omega)
            refine ⟨i + 1, ⟨by omega, by rw [all_take hx hall]; simp [isLow]; omega⟩, by omega, Less.of rfl (by simp [go_sem, hw]) (by simp [go_sem])⟩)))
  · intro hc; try simp at hc
    all_goals (
      refine AW.exitN (fun _ h => h) ?_
      refine AW.seq ?_
      refine AW.reg tiOk (fun _ => []) [0, 21] ?_
      intro k hk; simp -dsimp [go_sem, -decide_eq_true_eq, -decide_eq_false_iff_not]
      repeat' (first | refine And.intro ?_ ?_ | refine hk _ ?_ | intro hg | omega | exact True.intro)
      all_goals clear hk k
      refine AW.cond rfl ?_ ?_
      · intro hc; try simp at hc
        all_goals (
          refine AW.reg tiOk (fun _ => []) [2] ?_
          intro k hk; simp -dsimp [go_sem, -decide_eq_true_eq, -decide_eq_false_iff_not]
          repeat' (first | refine And.intro ?_ ?_ | refine hk _ ?_ | intro hg | omega | exact True.intro)
          all_goals clear hk k
          refine AW.retF (ow := []) (muts := []) ?_ (fun h => And.intro (.inr rfl) h)
          first | (have hr := all_not (p := isLow) hx (by simp [isLow]; omega); simp [go_sem, Tryz.results162, nameF, hr]; done) | (have hr := all_end (p := isLow) (show s.length ≤ i by omega) hall; simp [go_sem, Tryz.results162, nameF, hr] at * <;> grind))
      · intro hc; try simp at hc
        all_goals (
          refine AW.skipN (fun _ h => h) ?_
          refine AW.seq ?_
          refine AW.reg tiOk (fun _ => []) [24] ?_
          intro k hk; simp -dsimp [go_sem, -decide_eq_true_eq, -decide_eq_false_iff_not]
          repeat' (first | refine And.intro ?_ ?_ | refine hk _ ?_ | intro hg | omega | exact True.intro)
          all_goals clear hk k
          refine AW.cond rfl ?_ ?_
          · intro hc; try simp at hc
            all_goals (
              refine AW.reg tiOk (fun _ => []) [2] ?_
              intro k hk; simp -dsimp [go_sem, -decide_eq_true_eq, -decide_eq_false_iff_not]
              repeat' (first | refine And.intro ?_ ?_ | refine hk _ ?_ | intro hg | omega | exact True.intro)
              all_goals clear hk k
              refine AW.retF (ow := []) (muts := []) ?_ (fun h => And.intro (.inr rfl) h)
              first | (have hr := all_not (p := isLow) hx (by simp [isLow]; omega); simp [go_sem, Tryz.results162, nameF, hr]; done) | (have hr := all_end (p := isLow) (show s.length ≤ i by omega) hall; simp [go_sem, Tryz.results162, nameF, hr] at * <;> grind))
          · intro hc; try simp at hc
            all_goals (
              refine AW.skipN (fun _ h => h) ?_
              refine AW.reg tiOk (fun _ => []) [2] ?_
              intro k hk; simp -dsimp [go_sem, -decide_eq_true_eq, -decide_eq_false_iff_not]
              repeat' (first | refine And.intro ?_ ?_ | refine hk _ ?_ | intro hg | omega | exact True.intro)
              all_goals clear hk k
              refine AW.retF (ow := []) (muts := []) ?_ (fun h => And.intro (.inr rfl) h)
              first | (have hr := all_not (p := isLow) hx (by simp [isLow]; omega); simp [go_sem, Tryz.results162, nameF, hr]; done) | (have hr := all_end (p := isLow) (show s.length ≤ i by omega) hall; simp [go_sem, Tryz.results162, nameF, hr] at * <;> grind))))

end Go.AM

/-! ### G8 -/
set_option linter.unusedVariables false
set_option linter.unusedSimpArgs false
namespace Go.AM
open Go.Proofs

set_option maxHeartbeats 600000 in
set_option linter.unusedSimpArgs false in
set_option maxRecDepth 100000 in
/-- spec.l4One -/
theorem dc_spec_l4One (p : List TStep) (hp : 1 ≤ p.length ∧ p.length ≤ 24) (hg : ∀ e ∈ p, e.gok) (i : Nat) (hi : i < p.length) (h1 : ∀ k, k < i → oneF p k = 0) : DC Tryz.prog 140 [.isl 6 (p.map TStep.ro), .int .i64 (i : Nat)] (.int .i64 (oneF p i)) [] := by
  obtain ⟨x, hx⟩ := at_some hi
  obtain ⟨g0, g1, g2⟩ := hg x (List.mem_of_getElem? hx)
  have hl := ones_ok i (by omega) h1
  have hL : ((pars p).take i).length = i := take_len (by omega)
  have hxo := oneF_at hx
  have hwi : IntKind.wrap .i64 ((i : Int) - 1) = (i : Int) - 1 := wrap64 (by omega) (by omega)
  have hdi : (decide ((i : Int) = 0)) = decide (i = 0) := by by_cases h : i = 0 <;> simp [h]
  refine DC.intro tiOk Tryz.func140 rfl rfl rfl rfl rfl rfl rfl rfl [] ?_
  refine AW.reg tiOk (fun _ => []) [0, 1] ?_
  intro k hk; simp -dsimp [go_sem, -decide_eq_true_eq, -decide_eq_false_iff_not, hx, hwi]
  repeat' (first | refine And.intro ?_ ?_ | refine hk _ ?_ | intro hg | omega | exact True.intro)
  all_goals clear hk k
  refine AW.reg tiOk (fun _ => []) [0, 1, 5] ?_
  intro k hk; simp -dsimp [go_sem, -decide_eq_true_eq, -decide_eq_false_iff_not, hx, hwi]
  repeat' (first | refine And.intro ?_ ?_ | refine hk _ ?_ | intro hg | omega | exact True.intro)
  all_goals clear hk k
  refine AW.seq ?_
  refine AW.cut ⟨82, [(0, .isl 6 (p.map TStep.ro)), (1, .int .i64 (i : Nat)), (5, .ip x.ro), (20, .bool (decide (inR x.kind 1 8 = false ∨ alien x = true)))], []⟩ ?_ ?_
  · skip
    refine AW.regK tiOk (fun _ => []) ?_
    intro k hk; simp +contextual -dsimp (maxSteps := 2000000) [go_sem, -decide_eq_true_eq, -decide_eq_false_iff_not, hx, hwi]
    repeat' (first | refine And.intro ?_ ?_ | refine hk _ ?_ | (intro hg; try simp only [decide_eq_true_eq, decide_eq_false_iff_not] at hg) | (refine CallK.intro (dc_spec_l1In _ _ _) ?_; simp +contextual -dsimp (maxSteps := 2000000) [go_sem, -decide_eq_true_eq, -decide_eq_false_iff_not, hx, hwi]) | (refine CallK.intro (dc_spec_l4Bare x ⟨g0, g1, g2⟩) ?_; simp +contextual -dsimp (maxSteps := 2000000) [go_sem, -decide_eq_true_eq, -decide_eq_false_iff_not, hx, hwi]) | omega | exact True.intro)
    all_goals clear hk k
    all_goals (show St.Less _ _; exact Less.of rfl (by simp [go_sem] <;> first | omega | grind) (by simp [go_sem]))
  · skip
    refine AW.cond rfl ?_ ?_
    · intro hc; try simp at hc
      all_goals try (exfalso; omega; done)
      all_goals (
        refine AW.reg tiOk (fun _ => []) [4] ?_
        intro k hk; simp -dsimp [go_sem, -decide_eq_true_eq, -decide_eq_false_iff_not, hx, hwi]
        repeat' (first | refine And.intro ?_ ?_ | refine hk _ ?_ | intro hg | omega | exact True.intro)
        all_goals clear hk k
        refine AW.retF (ow := []) (muts := []) ?_ (fun h => And.intro (.inr rfl) h)
        rw [hxo]
        first | (have hs : stepF ((pars p).take i) x = 1 := (by have := @inR_iff x.kind 1 8; unfold stepF; grind); rw [hs]; simp [go_sem, Tryz.results140]; done) | (have hs : stepF ((pars p).take i) x = 3 := (by have := @inR_iff x.kind 1 8; unfold stepF; grind); rw [hs]; simp [go_sem, Tryz.results140]; done) | (have hs : stepF ((pars p).take i) x = 2 := (by have := @inR_iff x.kind 1 8; unfold stepF; grind); rw [hs]; simp [go_sem, Tryz.results140]; done) | (have hs : stepF ((pars p).take i) x = nameF x.name := (by have := @inR_iff x.kind 1 8; unfold stepF; grind); rw [hs]; simp [go_sem, Tryz.results140]; done) | (have hs : stepF ((pars p).take i) x = exprF x.expr := (by have := @inR_iff x.kind 1 8; unfold stepF; grind); rw [hs]; simp [go_sem, Tryz.results140]; done) | (have hs : stepF ((pars p).take i) x = 0 := (by have := @inR_iff x.kind 1 8; unfold stepF; unfold alien at *; unfold lowA highA at *; grind); rw [hs]; simp [go_sem, Tryz.results140]))
    · intro hc; try simp at hc
      all_goals try (exfalso; omega; done)
      all_goals (
        refine AW.skipN (fun _ h => h) ?_
        refine AW.seq ?_
        refine AW.cut ⟨82, [(0, .isl 6 (p.map TStep.ro)), (1, .int .i64 (i : Nat)), (5, .ip x.ro), (43, .bool (decide (parF ((pars p).take i) x.par = 3)))], []⟩ ?_ ?_
        · skip
          refine AW.regK tiOk (fun _ => []) ?_
          intro k hk; simp +contextual -dsimp (maxSteps := 2000000) [go_sem, -decide_eq_true_eq, -decide_eq_false_iff_not, hx, hwi]
          repeat' (first | refine And.intro ?_ ?_ | refine hk _ ?_ | (intro hg; try simp only [decide_eq_true_eq, decide_eq_false_iff_not] at hg) | (refine CallK.intro (dc_spec_l1In _ _ _) ?_; simp +contextual -dsimp (maxSteps := 2000000) [go_sem, -decide_eq_true_eq, -decide_eq_false_iff_not, hx, hwi]) | omega | exact True.intro)
          all_goals clear hk k
          all_goals (show St.Less _ _; exact Less.of rfl (by simp [go_sem, parF, hL, inR] at * <;> grind) (by simp [go_sem]))
        · skip
          refine AW.cond rfl ?_ ?_
          · intro hc; try simp at hc
            all_goals try (exfalso; omega; done)
            all_goals (
              refine AW.reg tiOk (fun _ => []) [4] ?_
              intro k hk; simp -dsimp [go_sem, -decide_eq_true_eq, -decide_eq_false_iff_not, hx, hwi]
              repeat' (first | refine And.intro ?_ ?_ | refine hk _ ?_ | intro hg | omega | exact True.intro)
              all_goals clear hk k
              refine AW.retF (ow := []) (muts := []) ?_ (fun h => And.intro (.inr rfl) h)
              rw [hxo]
              first | (have hs : stepF ((pars p).take i) x = 1 := (by have := @inR_iff x.kind 1 8; unfold stepF; grind); rw [hs]; simp [go_sem, Tryz.results140]; done) | (have hs : stepF ((pars p).take i) x = 3 := (by have := @inR_iff x.kind 1 8; unfold stepF; grind); rw [hs]; simp [go_sem, Tryz.results140]; done) | (have hs : stepF ((pars p).take i) x = 2 := (by have := @inR_iff x.kind 1 8; unfold stepF; grind); rw [hs]; simp [go_sem, Tryz.results140]; done) | (have hs : stepF ((pars p).take i) x = nameF x.name := (by have := @inR_iff x.kind 1 8; unfold stepF; grind); rw [hs]; simp [go_sem, Tryz.results140]; done) | (have hs : stepF ((pars p).take i) x = exprF x.expr := (by have := @inR_iff x.kind 1 8; unfold stepF; grind); rw [hs]; simp [go_sem, Tryz.results140]; done) | (have hs : stepF ((pars p).take i) x = 0 := (by have := @inR_iff x.kind 1 8; unfold stepF; unfold alien at *; unfold lowA highA at *; grind); rw [hs]; simp [go_sem, Tryz.results140]))
          · intro hc; try simp at hc
            all_goals try (exfalso; omega; done)
            all_goals (
              refine AW.skipN (fun _ h => h) ?_
              refine AW.seq ?_
              refine AW.cut ⟨82, [(0, .isl 6 (p.map TStep.ro)), (1, .int .i64 (i : Nat)), (5, .ip x.ro), (51, .bool (decide (parF ((pars p).take i) x.par = 1)))], []⟩ ?_ ?_
              · skip
                refine AW.regK tiOk (fun _ => []) ?_
                intro k hk; simp +contextual -dsimp (maxSteps := 2000000) [go_sem, -decide_eq_true_eq, -decide_eq_false_iff_not, hx, hwi]
                repeat' (first | refine And.intro ?_ ?_ | refine hk _ ?_ | (intro hg; try simp only [decide_eq_true_eq, decide_eq_false_iff_not] at hg) | (refine CallK.intro (dc_spec_l4Line p hp.2 i x hx (by omega) hl) ?_; simp +contextual -dsimp (maxSteps := 2000000) [go_sem, -decide_eq_true_eq, -decide_eq_false_iff_not, hx, hwi]) | omega | exact True.intro)
                all_goals clear hk k
                all_goals (show St.Less _ _; exact Less.of rfl (by simp [go_sem, parF, hL] at * <;> grind) (by simp [go_sem]))
              · skip
                refine AW.cond rfl ?_ ?_
                · intro hc; try simp at hc
                  all_goals try (exfalso; omega; done)
                  all_goals (
                    refine AW.reg tiOk (fun _ => []) [4] ?_
                    intro k hk; simp -dsimp [go_sem, -decide_eq_true_eq, -decide_eq_false_iff_not, hx, hwi]
                    repeat' (first | refine And.intro ?_ ?_ | refine hk _ ?_ | intro hg | omega | exact True.intro)
                    all_goals clear hk k
                    refine AW.retF (ow := []) (muts := []) ?_ (fun h => And.intro (.inr rfl) h)
                    rw [hxo]
                    first | (have hs : stepF ((pars p).take i) x = 1 := (by have := @inR_iff x.kind 1 8; unfold stepF; grind); rw [hs]; simp [go_sem, Tryz.results140]; done) | (have hs : stepF ((pars p).take i) x = 3 := (by have := @inR_iff x.kind 1 8; unfold stepF; grind); rw [hs]; simp [go_sem, Tryz.results140]; done) | (have hs : stepF ((pars p).take i) x = 2 := (by have := @inR_iff x.kind 1 8; unfold stepF; grind); rw [hs]; simp [go_sem, Tryz.results140]; done) | (have hs : stepF ((pars p).take i) x = nameF x.name := (by have := @inR_iff x.kind 1 8; unfold stepF; grind); rw [hs]; simp [go_sem, Tryz.results140]; done) | (have hs : stepF ((pars p).take i) x = exprF x.expr := (by have := @inR_iff x.kind 1 8; unfold stepF; grind); rw [hs]; simp [go_sem, Tryz.results140]; done) | (have hs : stepF ((pars p).take i) x = 0 := (by have := @inR_iff x.kind 1 8; unfold stepF; unfold alien at *; unfold lowA highA at *; grind); rw [hs]; simp [go_sem, Tryz.results140]))
                · intro hc; try simp at hc
                  all_goals try (exfalso; omega; done)
                  all_goals (
                    refine AW.skipN (fun _ h => h) ?_
                    refine AW.seq ?_
                    have hz : parF ((pars p).take i) x.par = 0 := by have : parF ((pars p).take i) x.par = 0 ∨ parF ((pars p).take i) x.par = 1 ∨ parF ((pars p).take i) x.par = 3 := (by unfold parF; split; exact Or.inr (Or.inr rfl); split; exact Or.inr (Or.inl rfl); exact Or.inl rfl); grind
                    have hpo := parF_ok hz
                    have htn := take_next hx
                    have hl2 : ParOk ((pars p).take (i + 1)) := by rw [htn]; exact hl.snoc hpo.1 hpo.2.1
                    refine AW.reg tiOk (fun _ => []) [5, 55] ?_
                    intro k hk; simp -dsimp (maxSteps := 2000000) [go_sem, -decide_eq_true_eq, -decide_eq_false_iff_not, hx, hwi, htn]
                    repeat' (first | refine And.intro ?_ ?_ | refine hk _ ?_ | intro hg | (refine CallK.intro (dc_spec_l4Deep p hp.2 (i + 1) (by omega) hl2 (i : Int) (by omega)) ?_; simp -dsimp (maxSteps := 2000000) [go_sem, -decide_eq_true_eq, -decide_eq_false_iff_not, hx, hwi, htn]) | omega | exact True.intro)
                    all_goals clear hk k
                    refine AW.cond rfl ?_ ?_
                    · intro hc; try simp at hc
                      all_goals try (exfalso; omega; done)
                      all_goals (
                        refine AW.reg tiOk (fun _ => []) [4] ?_
                        intro k hk; simp -dsimp [go_sem, -decide_eq_true_eq, -decide_eq_false_iff_not, hx, hwi]
                        repeat' (first | refine And.intro ?_ ?_ | refine hk _ ?_ | intro hg | omega | exact True.intro)
                        all_goals clear hk k
                        refine AW.retF (ow := []) (muts := []) ?_ (fun h => And.intro (.inr rfl) h)
                        rw [hxo]
                        first | (have hs : stepF ((pars p).take i) x = 1 := (by have := @inR_iff x.kind 1 8; unfold stepF; grind); rw [hs]; simp [go_sem, Tryz.results140]; done) | (have hs : stepF ((pars p).take i) x = 3 := (by have := @inR_iff x.kind 1 8; unfold stepF; grind); rw [hs]; simp [go_sem, Tryz.results140]; done) | (have hs : stepF ((pars p).take i) x = 2 := (by have := @inR_iff x.kind 1 8; unfold stepF; grind); rw [hs]; simp [go_sem, Tryz.results140]; done) | (have hs : stepF ((pars p).take i) x = nameF x.name := (by have := @inR_iff x.kind 1 8; unfold stepF; grind); rw [hs]; simp [go_sem, Tryz.results140]; done) | (have hs : stepF ((pars p).take i) x = exprF x.expr := (by have := @inR_iff x.kind 1 8; unfold stepF; grind); rw [hs]; simp [go_sem, Tryz.results140]; done) | (have hs : stepF ((pars p).take i) x = 0 := (by have := @inR_iff x.kind 1 8; unfold stepF; unfold alien at *; unfold lowA highA at *; grind); rw [hs]; simp [go_sem, Tryz.results140]))
                    · intro hc; try simp at hc
                      all_goals try (exfalso; omega; done)
                      all_goals (
                        refine AW.skipN (fun _ h => h) ?_
                        refine AW.seq ?_
                        refine AW.reg tiOk (fun _ => []) [5, 60] ?_
                        intro k hk; simp -dsimp [go_sem, -decide_eq_true_eq, -decide_eq_false_iff_not, hx, hwi]
                        repeat' (first | refine And.intro ?_ ?_ | refine hk _ ?_ | intro hg | omega | exact True.intro)
                        all_goals clear hk k
                        refine AW.cond rfl ?_ ?_
                        · intro hc; try simp at hc
                          all_goals try (exfalso; omega; done)
                          all_goals (
                            refine AW.reg tiOk (fun _ => []) [5, 6] ?_
                            intro k hk; simp -dsimp (maxSteps := 2000000) [go_sem, -decide_eq_true_eq, -decide_eq_false_iff_not, hx, hwi]
                            repeat' (first | refine And.intro ?_ ?_ | refine hk _ ?_ | intro hg | (refine CallK.intro (dc_spec_l1Name x.name g0) ?_; simp -dsimp (maxSteps := 2000000) [go_sem, -decide_eq_true_eq, -decide_eq_false_iff_not, hx, hwi]) | omega | exact True.intro)
                            all_goals clear hk k
                            refine AW.reg tiOk (fun _ => []) [5, 6, 67] ?_
                            intro k hk; simp -dsimp [go_sem, -decide_eq_true_eq, -decide_eq_false_iff_not, hx, hwi]
                            repeat' (first | refine And.intro ?_ ?_ | refine hk _ ?_ | intro hg | omega | exact True.intro)
                            all_goals clear hk k
                            refine AW.cond rfl ?_ ?_
                            · intro hc; try simp at hc
                              all_goals try (exfalso; omega; done)
                              all_goals (
                                refine AW.reg tiOk (fun _ => []) [4] ?_
                                intro k hk; simp -dsimp [go_sem, -decide_eq_true_eq, -decide_eq_false_iff_not, hx, hwi]
                                repeat' (first | refine And.intro ?_ ?_ | refine hk _ ?_ | intro hg | omega | exact True.intro)
                                all_goals clear hk k
                                refine AW.retF (ow := []) (muts := []) ?_ (fun h => And.intro (.inr rfl) h)
                                rw [hxo]
                                first | (have hs : stepF ((pars p).take i) x = 1 := (by have := @inR_iff x.kind 1 8; unfold stepF; grind); rw [hs]; simp [go_sem, Tryz.results140]; done) | (have hs : stepF ((pars p).take i) x = 3 := (by have := @inR_iff x.kind 1 8; unfold stepF; grind); rw [hs]; simp [go_sem, Tryz.results140]; done) | (have hs : stepF ((pars p).take i) x = 2 := (by have := @inR_iff x.kind 1 8; unfold stepF; grind); rw [hs]; simp [go_sem, Tryz.results140]; done) | (have hs : stepF ((pars p).take i) x = nameF x.name := (by have := @inR_iff x.kind 1 8; unfold stepF; grind); rw [hs]; simp [go_sem, Tryz.results140]; done) | (have hs : stepF ((pars p).take i) x = exprF x.expr := (by have := @inR_iff x.kind 1 8; unfold stepF; grind); rw [hs]; simp [go_sem, Tryz.results140]; done) | (have hs : stepF ((pars p).take i) x = 0 := (by have := @inR_iff x.kind 1 8; unfold stepF; unfold alien at *; unfold lowA highA at *; grind); rw [hs]; simp [go_sem, Tryz.results140]))
                            · intro hc; try simp at hc
                              all_goals try (exfalso; omega; done)
                              all_goals (
                                refine AW.skipN (fun _ h => h) ?_
                                refine AW.seq ?_
                                refine AW.reg tiOk (fun _ => []) [5, 71] ?_
                                intro k hk; simp -dsimp (maxSteps := 2000000) [go_sem, -decide_eq_true_eq, -decide_eq_false_iff_not, hx, hwi]
                                repeat' (first | refine And.intro ?_ ?_ | refine hk _ ?_ | intro hg | (refine CallK.intro (dc_spec_l4Arg _) ?_; simp -dsimp (maxSteps := 2000000) [go_sem, -decide_eq_true_eq, -decide_eq_false_iff_not, hx, hwi]) | omega | exact True.intro)
                                all_goals clear hk k
                                refine AW.cond rfl ?_ ?_
                                · intro hc; try simp at hc
                                  all_goals try (exfalso; omega; done)
                                  all_goals (
                                    refine AW.reg tiOk (fun _ => []) [4] ?_
                                    intro k hk; simp -dsimp [go_sem, -decide_eq_true_eq, -decide_eq_false_iff_not, hx, hwi]
                                    repeat' (first | refine And.intro ?_ ?_ | refine hk _ ?_ | intro hg | omega | exact True.intro)
                                    all_goals clear hk k
                                    refine AW.retF (ow := []) (muts := []) ?_ (fun h => And.intro (.inr rfl) h)
                                    rw [hxo]
                                    first | (have hs : stepF ((pars p).take i) x = 1 := (by have := @inR_iff x.kind 1 8; unfold stepF; grind); rw [hs]; simp [go_sem, Tryz.results140]; done) | (have hs : stepF ((pars p).take i) x = 3 := (by have := @inR_iff x.kind 1 8; unfold stepF; grind); rw [hs]; simp [go_sem, Tryz.results140]; done) | (have hs : stepF ((pars p).take i) x = 2 := (by have := @inR_iff x.kind 1 8; unfold stepF; grind); rw [hs]; simp [go_sem, Tryz.results140]; done) | (have hs : stepF ((pars p).take i) x = nameF x.name := (by have := @inR_iff x.kind 1 8; unfold stepF; grind); rw [hs]; simp [go_sem, Tryz.results140]; done) | (have hs : stepF ((pars p).take i) x = exprF x.expr := (by have := @inR_iff x.kind 1 8; unfold stepF; grind); rw [hs]; simp [go_sem, Tryz.results140]; done) | (have hs : stepF ((pars p).take i) x = 0 := (by have := @inR_iff x.kind 1 8; unfold stepF; unfold alien at *; unfold lowA highA at *; grind); rw [hs]; simp [go_sem, Tryz.results140]))
                                · intro hc; try simp at hc
                                  all_goals try (exfalso; omega; done)
                                  all_goals (
                                    refine AW.skipN (fun _ h => h) ?_
                                    refine AW.seq ?_
                                    refine AW.reg tiOk (fun _ => []) [5, 76] ?_
                                    intro k hk; simp -dsimp [go_sem, -decide_eq_true_eq, -decide_eq_false_iff_not, hx, hwi]
                                    repeat' (first | refine And.intro ?_ ?_ | refine hk _ ?_ | intro hg | omega | exact True.intro)
                                    all_goals clear hk k
                                    refine AW.cond rfl ?_ ?_
                                    · intro hc; try simp at hc
                                      all_goals try (exfalso; omega; done)
                                      all_goals (
                                        refine AW.reg tiOk (fun _ => []) [4] ?_
                                        intro k hk; simp -dsimp (maxSteps := 2000000) [go_sem, -decide_eq_true_eq, -decide_eq_false_iff_not, hx, hwi]
                                        repeat' (first | refine And.intro ?_ ?_ | refine hk _ ?_ | intro hg | (refine CallK.intro (dc_spec_l3Fault x.expr g2) ?_; simp -dsimp (maxSteps := 2000000) [go_sem, -decide_eq_true_eq, -decide_eq_false_iff_not, hx, hwi]) | omega | exact True.intro)
                                        all_goals clear hk k
                                        refine AW.retF (ow := []) (muts := []) ?_ (fun h => And.intro (.inr rfl) h)
                                        rw [hxo]
                                        first | (have hs : stepF ((pars p).take i) x = 1 := (by have := @inR_iff x.kind 1 8; unfold stepF; grind); rw [hs]; simp [go_sem, Tryz.results140]; done) | (have hs : stepF ((pars p).take i) x = 3 := (by have := @inR_iff x.kind 1 8; unfold stepF; grind); rw [hs]; simp [go_sem, Tryz.results140]; done) | (have hs : stepF ((pars p).take i) x = 2 := (by have := @inR_iff x.kind 1 8; unfold stepF; grind); rw [hs]; simp [go_sem, Tryz.results140]; done) | (have hs : stepF ((pars p).take i) x = nameF x.name := (by have := @inR_iff x.kind 1 8; unfold stepF; grind); rw [hs]; simp [go_sem, Tryz.results140]; done) | (have hs : stepF ((pars p).take i) x = exprF x.expr := (by have := @inR_iff x.kind 1 8; unfold stepF; grind); rw [hs]; simp [go_sem, Tryz.results140]; done) | (have hs : stepF ((pars p).take i) x = 0 := (by have := @inR_iff x.kind 1 8; unfold stepF; unfold alien at *; unfold lowA highA at *; grind); rw [hs]; simp [go_sem, Tryz.results140]))
                                    · intro hc; try simp at hc
                                      all_goals try (exfalso; omega; done)
                                      all_goals (
                                        refine AW.skipN (fun _ h => h) ?_
                                        refine AW.reg tiOk (fun _ => []) [4] ?_
                                        intro k hk; simp -dsimp [go_sem, -decide_eq_true_eq, -decide_eq_false_iff_not, hx, hwi]
                                        repeat' (first | refine And.intro ?_ ?_ | refine hk _ ?_ | intro hg | omega | exact True.intro)
                                        all_goals clear hk k
                                        refine AW.retF (ow := []) (muts := []) ?_ (fun h => And.intro (.inr rfl) h)
                                        rw [hxo]
                                        first | (have hs : stepF ((pars p).take i) x = 1 := (by have := @inR_iff x.kind 1 8; unfold stepF; grind); rw [hs]; simp [go_sem, Tryz.results140]; done) | (have hs : stepF ((pars p).take i) x = 3 := (by have := @inR_iff x.kind 1 8; unfold stepF; grind); rw [hs]; simp [go_sem, Tryz.results140]; done) | (have hs : stepF ((pars p).take i) x = 2 := (by have := @inR_iff x.kind 1 8; unfold stepF; grind); rw [hs]; simp [go_sem, Tryz.results140]; done) | (have hs : stepF ((pars p).take i) x = nameF x.name := (by have := @inR_iff x.kind 1 8; unfold stepF; grind); rw [hs]; simp [go_sem, Tryz.results140]; done) | (have hs : stepF ((pars p).take i) x = exprF x.expr := (by have := @inR_iff x.kind 1 8; unfold stepF; grind); rw [hs]; simp [go_sem, Tryz.results140]; done) | (have hs : stepF ((pars p).take i) x = 0 := (by have := @inR_iff x.kind 1 8; unfold stepF; unfold alien at *; unfold lowA highA at *; grind); rw [hs]; simp [go_sem, Tryz.results140])))))
                        · intro hc; try simp at hc
                          all_goals try (exfalso; omega; done)
                          all_goals (
                            refine AW.skipN (fun _ h => h) ?_
                            refine AW.seq ?_
                            refine AW.reg tiOk (fun _ => []) [5, 71] ?_
                            intro k hk; simp -dsimp (maxSteps := 2000000) [go_sem, -decide_eq_true_eq, -decide_eq_false_iff_not, hx, hwi]
                            repeat' (first | refine And.intro ?_ ?_ | refine hk _ ?_ | intro hg | (refine CallK.intro (dc_spec_l4Arg _) ?_; simp -dsimp (maxSteps := 2000000) [go_sem, -decide_eq_true_eq, -decide_eq_false_iff_not, hx, hwi]) | omega | exact True.intro)
                            all_goals clear hk k
                            refine AW.cond rfl ?_ ?_
                            · intro hc; try simp at hc
                              all_goals try (exfalso; omega; done)
                              all_goals (
                                refine AW.reg tiOk (fun _ => []) [4] ?_
                                intro k hk; simp -dsimp [go_sem, -decide_eq_true_eq, -decide_eq_false_iff_not, hx, hwi]
                                repeat' (first | refine And.intro ?_ ?_ | refine hk _ ?_ | intro hg | omega | exact True.intro)
                                all_goals clear hk k
                                refine AW.retF (ow := []) (muts := []) ?_ (fun h => And.intro (.inr rfl) h)
                                rw [hxo]
                                first | (have hs : stepF ((pars p).take i) x = 1 := (by have := @inR_iff x.kind 1 8; unfold stepF; grind); rw [hs]; simp [go_sem, Tryz.results140]; done) | (have hs : stepF ((pars p).take i) x = 3 := (by have := @inR_iff x.kind 1 8; unfold stepF; grind); rw [hs]; simp [go_sem, Tryz.results140]; done) | (have hs : stepF ((pars p).take i) x = 2 := (by have := @inR_iff x.kind 1 8; unfold stepF; grind); rw [hs]; simp [go_sem, Tryz.results140]; done) | (have hs : stepF ((pars p).take i) x = nameF x.name := (by have := @inR_iff x.kind 1 8; unfold stepF; grind); rw [hs]; simp [go_sem, Tryz.results140]; done) | (have hs : stepF ((pars p).take i) x = exprF x.expr := (by have := @inR_iff x.kind 1 8; unfold stepF; grind); rw [hs]; simp [go_sem, Tryz.results140]; done) | (have hs : stepF ((pars p).take i) x = 0 := (by have := @inR_iff x.kind 1 8; unfold stepF; unfold alien at *; unfold lowA highA at *; grind); rw [hs]; simp [go_sem, Tryz.results140]))
                            · intro hc; try simp at hc
                              all_goals try (exfalso; omega; done)
                              all_goals (
                                refine AW.skipN (fun _ h => h) ?_
                                refine AW.seq ?_
                                refine AW.reg tiOk (fun _ => []) [5, 76] ?_
                                intro k hk; simp -dsimp [go_sem, -decide_eq_true_eq, -decide_eq_false_iff_not, hx, hwi]
                                repeat' (first | refine And.intro ?_ ?_ | refine hk _ ?_ | intro hg | omega | exact True.intro)
                                all_goals clear hk k
                                refine AW.cond rfl ?_ ?_
                                · intro hc; try simp at hc
                                  all_goals try (exfalso; omega; done)
                                  all_goals (
                                    refine AW.reg tiOk (fun _ => []) [4] ?_
                                    intro k hk; simp -dsimp (maxSteps := 2000000) [go_sem, -decide_eq_true_eq, -decide_eq_false_iff_not, hx, hwi]
                                    repeat' (first | refine And.intro ?_ ?_ | refine hk _ ?_ | intro hg | (refine CallK.intro (dc_spec_l3Fault x.expr g2) ?_; simp -dsimp (maxSteps := 2000000) [go_sem, -decide_eq_true_eq, -decide_eq_false_iff_not, hx, hwi]) | omega | exact True.intro)
                                    all_goals clear hk k
                                    refine AW.retF (ow := []) (muts := []) ?_ (fun h => And.intro (.inr rfl) h)
                                    rw [hxo]
                                    first | (have hs : stepF ((pars p).take i) x = 1 := (by have := @inR_iff x.kind 1 8; unfold stepF; grind); rw [hs]; simp [go_sem, Tryz.results140]; done) | (have hs : stepF ((pars p).take i) x = 3 := (by have := @inR_iff x.kind 1 8; unfold stepF; grind); rw [hs]; simp [go_sem, Tryz.results140]; done) | (have hs : stepF ((pars p).take i) x = 2 := (by have := @inR_iff x.kind 1 8; unfold stepF; grind); rw [hs]; simp [go_sem, Tryz.results140]; done) | (have hs : stepF ((pars p).take i) x = nameF x.name := (by have := @inR_iff x.kind 1 8; unfold stepF; grind); rw [hs]; simp [go_sem, Tryz.results140]; done) | (have hs : stepF ((pars p).take i) x = exprF x.expr := (by have := @inR_iff x.kind 1 8; unfold stepF; grind); rw [hs]; simp [go_sem, Tryz.results140]; done) | (have hs : stepF ((pars p).take i) x = 0 := (by have := @inR_iff x.kind 1 8; unfold stepF; unfold alien at *; unfold lowA highA at *; grind); rw [hs]; simp [go_sem, Tryz.results140]))
                                · intro hc; try simp at hc
                                  all_goals try (exfalso; omega; done)
                                  all_goals (
                                    refine AW.skipN (fun _ h => h) ?_
                                    refine AW.reg tiOk (fun _ => []) [4] ?_
                                    intro k hk; simp -dsimp [go_sem, -decide_eq_true_eq, -decide_eq_false_iff_not, hx, hwi]
                                    repeat' (first | refine And.intro ?_ ?_ | refine hk _ ?_ | intro hg | omega | exact True.intro)
                                    all_goals clear hk k
                                    refine AW.retF (ow := []) (muts := []) ?_ (fun h => And.intro (.inr rfl) h)
                                    rw [hxo]
                                    first | (have hs : stepF ((pars p).take i) x = 1 := (by have := @inR_iff x.kind 1 8; unfold stepF; grind); rw [hs]; simp [go_sem, Tryz.results140]; done) | (have hs : stepF ((pars p).take i) x = 3 := (by have := @inR_iff x.kind 1 8; unfold stepF; grind); rw [hs]; simp [go_sem, Tryz.results140]; done) | (have hs : stepF ((pars p).take i) x = 2 := (by have := @inR_iff x.kind 1 8; unfold stepF; grind); rw [hs]; simp [go_sem, Tryz.results140]; done) | (have hs : stepF ((pars p).take i) x = nameF x.name := (by have := @inR_iff x.kind 1 8; unfold stepF; grind); rw [hs]; simp [go_sem, Tryz.results140]; done) | (have hs : stepF ((pars p).take i) x = exprF x.expr := (by have := @inR_iff x.kind 1 8; unfold stepF; grind); rw [hs]; simp [go_sem, Tryz.results140]; done) | (have hs : stepF ((pars p).take i) x = 0 := (by have := @inR_iff x.kind 1 8; unfold stepF; unfold alien at *; unfold lowA highA at *; grind); rw [hs]; simp [go_sem, Tryz.results140]))))))))

end Go.AM

/-! ### G9 -/
set_option linter.unusedVariables false
set_option linter.unusedSimpArgs false
namespace Go.AM
open Go.Proofs

set_option maxHeartbeats 600000 in
set_option linter.unusedSimpArgs false in
set_option maxRecDepth 100000 in
/-- spec.l4Shape -/
theorem dc_spec_l4Shape (p : List TStep) (ho : StepsOk p) (hg : ∀ e ∈ p, e.gok) : DC Tryz.prog 141 [.isl 6 (p.map TStep.ro)] (.int .i64 (sc (shapeF p) p.length 0)) [] := by
  have hlen := ho.len
  refine DC.intro tiOk Tryz.func141 rfl rfl rfl rfl rfl rfl rfl rfl [] ?_
  refine AW.reg tiOk (fun _ => []) [0] ?_
  intro k hk; simp -dsimp [go_sem, -decide_eq_true_eq, -decide_eq_false_iff_not]
  repeat' (first | refine And.intro ?_ ?_ | refine hk _ ?_ | intro hg | omega | exact True.intro)
  all_goals clear hk k
  refine AW.seq ?_
  refine AW.reg tiOk (fun _ => []) [0, 3] ?_
  intro k hk; simp -dsimp [go_sem, -decide_eq_true_eq, -decide_eq_false_iff_not]
  repeat' (first | refine And.intro ?_ ?_ | refine hk _ ?_ | intro hg | omega | exact True.intro)
  all_goals clear hk k
  refine AW.block ?_
  -- live at the loop's head: [0, 3]
  refine AW.loopI (fun i : Nat => ⟨49, [(0, .isl 6 (p.map TStep.ro)), (3, .int .i64 i)], []⟩) (fun i => i ≤ p.length ∧ ∀ k, k < i → shapeF p k = 0) (fun i => p.length - i) (0) (by simp) (Less.of rfl (by simp [go_sem]) (by simp [go_sem])) ?_
  rintro i ⟨hi, hall⟩
  refine AW.seq ?_
  refine AW.reg tiOk (fun _ => []) [0, 3, 8] ?_
  intro k hk; simp -dsimp [go_sem, -decide_eq_true_eq, -decide_eq_false_iff_not]
  repeat' (first | refine And.intro ?_ ?_ | refine hk _ ?_ | intro hg | omega | exact True.intro)
  all_goals clear hk k
  refine AW.cond rfl ?_ ?_
  · intro hc; try simp at hc
    all_goals (
      have hlt : i < p.length := by assumption
      obtain ⟨x, hx⟩ := at_some hlt
      have hxS := nS_at hx
      obtain ⟨g0, g1, g2⟩ := hg x (List.mem_of_getElem? hx)
      have hkm := kids_len p (i : Int)
      refine AW.skipN (fun _ h => h) ?_
      refine AW.seq ?_
      refine AW.block ?_
      refine AW.seq ?_
      refine AW.reg tiOk (fun _ => []) [0, 3, 21] ?_
      intro k hk; simp -dsimp (maxSteps := 2000000) [go_sem, -decide_eq_true_eq, -decide_eq_false_iff_not, hx]
      repeat' (first | refine And.intro ?_ ?_ | (refine Chk.keys ?_; simp only [go_sem, List.map_cons, List.map_nil, List.flatMap_cons, List.flatMap_nil, List.flatMap_append, List.append_nil, List.nil_append, List.cons_append]; decide +kernel) | refine hk _ ?_ | intro hg | (refine CallK.intro (dc_spec_l4Kids p (i : Int) (by omega) (by rw [ho.par0]; omega)) ?_; simp -dsimp (maxSteps := 2000000) [go_sem, -decide_eq_true_eq, -decide_eq_false_iff_not, hx]) | (refine CallK.intro (dc_spec_l4Many x.kind (kids p (i : Int)).length (by omega)) ?_; simp -dsimp (maxSteps := 2000000) [go_sem, -decide_eq_true_eq, -decide_eq_false_iff_not, hx]) | omega | exact True.intro)
      all_goals clear hk k
      refine AW.cond rfl ?_ ?_
      · intro hc; try simp at hc
        all_goals (
          refine AW.reg tiOk (fun _ => []) [2] ?_
          intro k hk; simp -dsimp [go_sem, -decide_eq_true_eq, -decide_eq_false_iff_not, hx]
          repeat' (first | refine And.intro ?_ ?_ | refine hk _ ?_ | intro hg | omega | exact True.intro)
          all_goals clear hk k
          refine AW.retF (ow := []) (muts := []) ?_ (fun h => And.intro (.inr rfl) h)
          first | (rw [sc_none (fun k hk => hall k (by omega))]; simp [go_sem, Tryz.results141]; done) | (have hs : shapeF p i = 1 := (by simp [shapeF, hxS] at * <;> grind); rw [shape_sc hlt hall (by rw [hs]; decide), hs]; simp [go_sem, Tryz.results141]; done) | (have hs : shapeF p i = exprF x.cond := (by simp [shapeF, hxS] at * <;> grind); rw [shape_sc hlt hall (by rw [hs]; first | assumption | simpa using hc), hs]; simp [go_sem, Tryz.results141]))
      · intro hc; try simp at hc
        all_goals (
          refine AW.skipN (fun _ h => h) ?_
          refine AW.seq ?_
          refine AW.reg tiOk (fun _ => []) [0, 3, 32] ?_
          intro k hk; simp -dsimp (maxSteps := 2000000) [go_sem, -decide_eq_true_eq, -decide_eq_false_iff_not, hx]
          repeat' (first | refine And.intro ?_ ?_ | (refine Chk.keys ?_; simp only [go_sem, List.map_cons, List.map_nil, List.flatMap_cons, List.flatMap_nil, List.flatMap_append, List.append_nil, List.nil_append, List.cons_append]; decide +kernel) | refine hk _ ?_ | intro hg | (refine CallK.intro (dc_spec_l4Needs p ho i hlt) ?_; simp -dsimp (maxSteps := 2000000) [go_sem, -decide_eq_true_eq, -decide_eq_false_iff_not, hx]) | omega | exact True.intro)
          all_goals clear hk k
          refine AW.cond rfl ?_ ?_
          · intro hc; try simp at hc
            all_goals (
              refine AW.reg tiOk (fun _ => []) [2] ?_
              intro k hk; simp -dsimp [go_sem, -decide_eq_true_eq, -decide_eq_false_iff_not, hx]
              repeat' (first | refine And.intro ?_ ?_ | refine hk _ ?_ | intro hg | omega | exact True.intro)
              all_goals clear hk k
              refine AW.retF (ow := []) (muts := []) ?_ (fun h => And.intro (.inr rfl) h)
              first | (rw [sc_none (fun k hk => hall k (by omega))]; simp [go_sem, Tryz.results141]; done) | (have hs : shapeF p i = 1 := (by simp [shapeF, hxS] at * <;> grind); rw [shape_sc hlt hall (by rw [hs]; decide), hs]; simp [go_sem, Tryz.results141]; done) | (have hs : shapeF p i = exprF x.cond := (by simp [shapeF, hxS] at * <;> grind); rw [shape_sc hlt hall (by rw [hs]; first | assumption | simpa using hc), hs]; simp [go_sem, Tryz.results141]))
          · intro hc; try simp at hc
            all_goals (
              refine AW.skipN (fun _ h => h) ?_
              refine AW.reg tiOk (fun _ => []) [0, 3, 39] ?_
              intro k hk; simp -dsimp (maxSteps := 2000000) [go_sem, -decide_eq_true_eq, -decide_eq_false_iff_not, hx]
              repeat' (first | refine And.intro ?_ ?_ | refine hk _ ?_ | intro hg | omega | exact True.intro)
              all_goals clear hk k
              refine AW.cond rfl ?_ ?_
              · intro hc; try simp at hc
                all_goals (
                  refine AW.reg tiOk (fun _ => []) [0, 3, 4] ?_
                  intro k hk; simp -dsimp (maxSteps := 2000000) [go_sem, -decide_eq_true_eq, -decide_eq_false_iff_not, hx]
                  repeat' (first | refine And.intro ?_ ?_ | refine hk _ ?_ | intro hg | (refine CallK.intro (dc_spec_l3Fault x.cond g1) ?_; simp -dsimp (maxSteps := 2000000) [go_sem, -decide_eq_true_eq, -decide_eq_false_iff_not, hx]) | omega | exact True.intro)
                  all_goals clear hk k
                  refine AW.reg tiOk (fun _ => []) [0, 3, 4, 47] ?_
                  intro k hk; simp -dsimp [go_sem, -decide_eq_true_eq, -decide_eq_false_iff_not, hx]
                  repeat' (first | refine And.intro ?_ ?_ | refine hk _ ?_ | intro hg | omega | exact True.intro)
                  all_goals clear hk k
                  refine AW.cond rfl ?_ ?_
                  · intro hc; try simp at hc
                    all_goals (
                      refine AW.reg tiOk (fun _ => []) [2] ?_
                      intro k hk; simp -dsimp [go_sem, -decide_eq_true_eq, -decide_eq_false_iff_not, hx]
                      repeat' (first | refine And.intro ?_ ?_ | refine hk _ ?_ | intro hg | omega | exact True.intro)
                      all_goals clear hk k
                      refine AW.retF (ow := []) (muts := []) ?_ (fun h => And.intro (.inr rfl) h)
                      first | (rw [sc_none (fun k hk => hall k (by omega))]; simp [go_sem, Tryz.results141]; done) | (have hs : shapeF p i = 1 := (by simp [shapeF, hxS] at * <;> grind); rw [shape_sc hlt hall (by rw [hs]; decide), hs]; simp [go_sem, Tryz.results141]; done) | (have hs : shapeF p i = exprF x.cond := (by simp [shapeF, hxS] at * <;> grind); rw [shape_sc hlt hall (by rw [hs]; first | assumption | simpa using hc), hs]; simp [go_sem, Tryz.results141]))
                  · intro hc; try simp at hc
                    all_goals (
                      refine AW.skipN (fun _ h => h) ?_
                      refine AW.regK tiOk (fun _ => []) ?_
                      intro k hk; simp -dsimp [go_sem, -decide_eq_true_eq, -decide_eq_false_iff_not, hx]
                      repeat' (first | refine And.intro ?_ ?_ | refine hk _ ?_ | intro hg | omega | exact True.intro)
                      all_goals clear hk k
                      show ∃ _, _
                      have hw := wrapi hlt (by omega)
                      refine ⟨i + 1, ⟨by omega, upto hall (by simp [shapeF, hxS] at * <;> grind)⟩, by omega, Less.of rfl (by simp [go_sem, hw]) (by simp [go_sem])⟩))
              · intro hc; try simp at hc
                all_goals (
                  refine AW.skipN (fun _ h => h) ?_
                  refine AW.regK tiOk (fun _ => []) ?_
                  intro k hk; simp -dsimp [go_sem, -decide_eq_true_eq, -decide_eq_false_iff_not, hx]
                  repeat' (first | refine And.intro ?_ ?_ | refine hk _ ?_ | intro hg | omega | exact True.intro)
                  all_goals clear hk k
                  show ∃ _, _
                  have hw := wrapi hlt (by omega)
                  refine ⟨i + 1, ⟨by omega, upto hall (by simp [shapeF, hxS] at * <;> grind)⟩, by omega, Less.of rfl (by simp [go_sem, hw]) (by simp [go_sem])⟩))))
  · intro hc; try simp at hc
    all_goals (
      refine AW.exitN (fun _ h => h) ?_
      refine AW.reg tiOk (fun _ => []) [2] ?_
      intro k hk; simp -dsimp [go_sem, -decide_eq_true_eq, -decide_eq_false_iff_not]
      repeat' (first | refine And.intro ?_ ?_ | refine hk _ ?_ | intro hg | omega | exact True.intro)
      all_goals clear hk k
      refine AW.retF (ow := []) (muts := []) ?_ (fun h => And.intro (.inr rfl) h)
      first | (rw [sc_none (fun k hk => hall k (by omega))]; simp [go_sem, Tryz.results141]; done) | (have hs : shapeF p i = 1 := (by simp [shapeF, hxS] at * <;> grind); rw [shape_sc hlt hall (by rw [hs]; decide), hs]; simp [go_sem, Tryz.results141]; done) | (have hs : shapeF p i = exprF x.cond := (by simp [shapeF, hxS] at * <;> grind); rw [shape_sc hlt hall (by rw [hs]; first | assumption | simpa using hc), hs]; simp [go_sem, Tryz.results141]))

end Go.AM

/-! ### Ga -/
set_option linter.unusedVariables false
set_option linter.unusedSimpArgs false
namespace Go.AM
open Go.Proofs

set_option maxHeartbeats 600000 in
set_option linter.unusedSimpArgs false in
set_option maxRecDepth 100000 in
/-- spec.l4Fault -/
theorem dc_spec_l4Fault (p : List TStep) (hp : p.length ≤ 9223372036854775807) (hg : ∀ e ∈ p, e.gok) : DC Tryz.prog 117 [.isl 6 (p.map TStep.ro)] (.int .i64 (procF p)) [] := by
  refine DC.intro tiOk Tryz.func117 rfl rfl rfl rfl rfl rfl rfl rfl [] ?_
  refine AW.reg tiOk (fun _ => []) [0] ?_
  intro k hk; simp -dsimp [go_sem, -decide_eq_true_eq, -decide_eq_false_iff_not]
  repeat' (first | refine And.intro ?_ ?_ | refine hk _ ?_ | intro hg | omega | exact True.intro)
  all_goals clear hk k
  refine AW.seq ?_
  refine AW.cut ⟨58, [(0, .isl 6 (p.map TStep.ro)), (16, .bool (decide (p.length < 1 ∨ 24 < p.length)))], []⟩ ?_ ?_
  · skip
    refine AW.regK tiOk (fun _ => []) ?_
    intro k hk; simp +contextual -dsimp (maxSteps := 2000000) [go_sem, -decide_eq_true_eq, -decide_eq_false_iff_not]
    repeat' (first | refine And.intro ?_ ?_ | refine hk _ ?_ | (intro hg; try simp only [decide_eq_true_eq, decide_eq_false_iff_not] at hg) | omega | exact True.intro)
    all_goals clear hk k
    all_goals (show St.Less _ _; exact Less.of rfl (by simp [go_sem, -Nat.lt_one_iff, -List.length_eq_zero_iff] <;> first | omega | grind) (by simp [go_sem]))
  · skip
    refine AW.cond rfl ?_ ?_
    · intro hc; try simp at hc
      all_goals (
        refine AW.reg tiOk (fun _ => []) [2] ?_
        intro k hk; simp -dsimp [go_sem, -decide_eq_true_eq, -decide_eq_false_iff_not]
        repeat' (first | refine And.intro ?_ ?_ | refine hk _ ?_ | intro hg | omega | exact True.intro)
        all_goals clear hk k
        refine AW.retF (ow := []) (muts := []) ?_ (fun h => And.intro (.inr rfl) h)
        first | (rw [procF_len' (by simpa using hc)]; simp [go_sem, Tryz.results117]; done) | (rw [procF_ok hR h1 h2 h3]; simp [go_sem, Tryz.results117]; done) | (have hty : tyF p i = typF x.cond 2 := (by rw [hxt]; grind); rw [procF_ty hR h1 h2 hlt hal3 (by rw [hty]; first | assumption | simpa using hc), hty]; simp [go_sem, Tryz.results117]; done) | (have hty : tyF p i = typF x.expr 1 := (by rw [hxt]; grind); rw [procF_ty hR h1 h2 hlt hal3 (by rw [hty]; first | assumption | simpa using hc), hty]; simp [go_sem, Tryz.results117]; done) | (rw [procF_shape' hR h1 (by first | assumption | simpa using hc)]; simp [go_sem, Tryz.results117]; done) | (rw [procF_one hR hlt hall (by first | assumption | simpa using hc)]; simp [go_sem, Tryz.results117]))
    · intro hc; try simp at hc
      all_goals (
        refine AW.skipN (fun _ h => h) ?_
        refine AW.seq ?_
        have hlen : 1 ≤ p.length ∧ p.length ≤ 24 := by obtain ⟨h8, h9⟩ := hc; have : p.length ≠ 0 := (fun h => h8 (List.length_eq_zero_iff.1 h)); omega
        have hR : inR p.length 1 24 = true := inR_iff.2 (by omega)
        refine AW.reg tiOk (fun _ => []) [0, 3] ?_
        intro k hk; simp -dsimp [go_sem, -decide_eq_true_eq, -decide_eq_false_iff_not]
        repeat' (first | refine And.intro ?_ ?_ | refine hk _ ?_ | intro hg | omega | exact True.intro)
        all_goals clear hk k
        refine AW.block ?_
        -- live at the loop's head: [0, 3]
        refine AW.loopI (fun i : Nat => ⟨58, [(0, .isl 6 (p.map TStep.ro)), (3, .int .i64 i)], []⟩) (fun i => i ≤ p.length ∧ ∀ k, k < i → oneF p k = 0) (fun i => p.length - i) (0) (by simp) (Less.of rfl (by simp [go_sem]) (by simp [go_sem])) ?_
        rintro i ⟨hi, hall⟩
        refine AW.seq ?_
        refine AW.reg tiOk (fun _ => []) [0, 3, 20] ?_
        intro k hk; simp -dsimp [go_sem, -decide_eq_true_eq, -decide_eq_false_iff_not]
        repeat' (first | refine And.intro ?_ ?_ | refine hk _ ?_ | intro hg | omega | exact True.intro)
        all_goals clear hk k
        refine AW.cond rfl ?_ ?_
        · intro hc; try simp at hc
          all_goals (
            have hlt : i < p.length := by assumption
            refine AW.skipN (fun _ h => h) ?_
            refine AW.seq ?_
            refine AW.block ?_
            refine AW.reg tiOk (fun _ => []) [0, 3, 4] ?_
            intro k hk; simp -dsimp (maxSteps := 2000000) [go_sem, -decide_eq_true_eq, -decide_eq_false_iff_not]
            repeat' (first | refine And.intro ?_ ?_ | refine hk _ ?_ | intro hg | (refine CallK.intro (dc_spec_l4One p (by omega) hg i hlt hall) ?_; simp -dsimp (maxSteps := 2000000) [go_sem, -decide_eq_true_eq, -decide_eq_false_iff_not]) | omega | exact True.intro)
            all_goals clear hk k
            refine AW.reg tiOk (fun _ => []) [0, 3, 4, 27] ?_
            intro k hk; simp -dsimp [go_sem, -decide_eq_true_eq, -decide_eq_false_iff_not]
            repeat' (first | refine And.intro ?_ ?_ | refine hk _ ?_ | intro hg | omega | exact True.intro)
            all_goals clear hk k
            refine AW.cond rfl ?_ ?_
            · intro hc; try simp at hc
              all_goals (
                refine AW.reg tiOk (fun _ => []) [2] ?_
                intro k hk; simp -dsimp [go_sem, -decide_eq_true_eq, -decide_eq_false_iff_not]
                repeat' (first | refine And.intro ?_ ?_ | refine hk _ ?_ | intro hg | omega | exact True.intro)
                all_goals clear hk k
                refine AW.retF (ow := []) (muts := []) ?_ (fun h => And.intro (.inr rfl) h)
                first | (rw [procF_len' (by simpa using hc)]; simp [go_sem, Tryz.results117]; done) | (rw [procF_ok hR h1 h2 h3]; simp [go_sem, Tryz.results117]; done) | (have hty : tyF p i = typF x.cond 2 := (by rw [hxt]; grind); rw [procF_ty hR h1 h2 hlt hal3 (by rw [hty]; first | assumption | simpa using hc), hty]; simp [go_sem, Tryz.results117]; done) | (have hty : tyF p i = typF x.expr 1 := (by rw [hxt]; grind); rw [procF_ty hR h1 h2 hlt hal3 (by rw [hty]; first | assumption | simpa using hc), hty]; simp [go_sem, Tryz.results117]; done) | (rw [procF_shape' hR h1 (by first | assumption | simpa using hc)]; simp [go_sem, Tryz.results117]; done) | (rw [procF_one hR hlt hall (by first | assumption | simpa using hc)]; simp [go_sem, Tryz.results117]))
            · intro hc; try simp at hc
              all_goals (
                refine AW.skipN (fun _ h => h) ?_
                refine AW.regK tiOk (fun _ => []) ?_
                intro k hk; simp -dsimp [go_sem, -decide_eq_true_eq, -decide_eq_false_iff_not]
                repeat' (first | refine And.intro ?_ ?_ | refine hk _ ?_ | intro hg | omega | exact True.intro)
                all_goals clear hk k
                show ∃ _, _
                have hw := wrapi hlt (by omega)
                refine ⟨i + 1, ⟨by omega, upto hall (by first | assumption | simpa using hc)⟩, by omega, Less.of rfl (by simp [go_sem, hw]) (by simp [go_sem])⟩))
        · intro hc; try simp at hc
          all_goals (
            refine AW.exitN (fun _ h => h) ?_
            refine AW.seq ?_
            have h1 : ∀ k, k < p.length → oneF p k = 0 := fun k hk => hall k (by omega)
            have ho : StepsOk p := ⟨by omega, h1⟩
            refine AW.reg tiOk (fun _ => []) [0, 5] ?_
            intro k hk; simp -dsimp (maxSteps := 2000000) [go_sem, -decide_eq_true_eq, -decide_eq_false_iff_not]
            repeat' (first | refine And.intro ?_ ?_ | refine hk _ ?_ | intro hg | (refine CallK.intro (dc_spec_l4Shape p ho hg) ?_; simp -dsimp (maxSteps := 2000000) [go_sem, -decide_eq_true_eq, -decide_eq_false_iff_not]) | omega | exact True.intro)
            all_goals clear hk k
            refine AW.reg tiOk (fun _ => []) [0, 5, 32] ?_
            intro k hk; simp -dsimp [go_sem, -decide_eq_true_eq, -decide_eq_false_iff_not]
            repeat' (first | refine And.intro ?_ ?_ | refine hk _ ?_ | intro hg | omega | exact True.intro)
            all_goals clear hk k
            refine AW.cond rfl ?_ ?_
            · intro hc; try simp at hc
              all_goals (
                refine AW.reg tiOk (fun _ => []) [2] ?_
                intro k hk; simp -dsimp [go_sem, -decide_eq_true_eq, -decide_eq_false_iff_not]
                repeat' (first | refine And.intro ?_ ?_ | refine hk _ ?_ | intro hg | omega | exact True.intro)
                all_goals clear hk k
                refine AW.retF (ow := []) (muts := []) ?_ (fun h => And.intro (.inr rfl) h)
                first | (rw [procF_len' (by simpa using hc)]; simp [go_sem, Tryz.results117]; done) | (rw [procF_ok hR h1 h2 h3]; simp [go_sem, Tryz.results117]; done) | (have hty : tyF p i = typF x.cond 2 := (by rw [hxt]; grind); rw [procF_ty hR h1 h2 hlt hal3 (by rw [hty]; first | assumption | simpa using hc), hty]; simp [go_sem, Tryz.results117]; done) | (have hty : tyF p i = typF x.expr 1 := (by rw [hxt]; grind); rw [procF_ty hR h1 h2 hlt hal3 (by rw [hty]; first | assumption | simpa using hc), hty]; simp [go_sem, Tryz.results117]; done) | (rw [procF_shape' hR h1 (by first | assumption | simpa using hc)]; simp [go_sem, Tryz.results117]; done) | (rw [procF_one hR hlt hall (by first | assumption | simpa using hc)]; simp [go_sem, Tryz.results117]))
            · intro hc; try simp at hc
              all_goals (
                refine AW.skipN (fun _ h => h) ?_
                refine AW.seq ?_
                have h2 : ∀ k, k < p.length → shapeF p k = 0 := sc_all (by first | assumption | simpa using hc)
                refine AW.reg tiOk (fun _ => []) [0, 6] ?_
                intro k hk; simp -dsimp [go_sem, -decide_eq_true_eq, -decide_eq_false_iff_not]
                repeat' (first | refine And.intro ?_ ?_ | refine hk _ ?_ | intro hg | omega | exact True.intro)
                all_goals clear hk k
                refine AW.block ?_
                -- live at the loop's head: [0, 6]
                refine AW.loopI (fun i : Nat => ⟨58, [(0, .isl 6 (p.map TStep.ro)), (6, .int .i64 i)], []⟩) (fun i => i ≤ p.length ∧ ∀ k, k < i → tyF p k = 0) (fun i => p.length - i) (0) (by simp) (Less.of rfl (by simp [go_sem]) (by simp [go_sem])) ?_
                rintro i ⟨hi, hal3⟩
                refine AW.seq ?_
                refine AW.reg tiOk (fun _ => []) [0, 6, 37] ?_
                intro k hk; simp -dsimp [go_sem, -decide_eq_true_eq, -decide_eq_false_iff_not]
                repeat' (first | refine And.intro ?_ ?_ | refine hk _ ?_ | intro hg | omega | exact True.intro)
                all_goals clear hk k
                refine AW.cond rfl ?_ ?_
                · intro hc; try simp at hc
                  all_goals (
                    have hlt : i < p.length := by assumption
                    obtain ⟨x, hx⟩ := at_some hlt
                    have hxt := tyF_at hx
                    obtain ⟨g0, g1, g2⟩ := hg x (List.mem_of_getElem? hx)
                    refine AW.skipN (fun _ h => h) ?_
                    refine AW.seq ?_
                    refine AW.block ?_
                    refine AW.seq ?_
                    refine AW.reg tiOk (fun _ => []) [0, 6, 7] ?_
                    intro k hk; simp -dsimp (maxSteps := 2000000) [go_sem, -decide_eq_true_eq, -decide_eq_false_iff_not, hx]
                    repeat' (first | refine And.intro ?_ ?_ | refine hk _ ?_ | intro hg | (refine CallK.intro (dc_spec_l4Typed x.cond 2 g1) ?_; simp -dsimp (maxSteps := 2000000) [go_sem, -decide_eq_true_eq, -decide_eq_false_iff_not, hx]) | (refine CallK.intro (dc_spec_l4Typed x.expr 1 g2) ?_; simp -dsimp (maxSteps := 2000000) [go_sem, -decide_eq_true_eq, -decide_eq_false_iff_not, hx]) | omega | exact True.intro)
                    all_goals clear hk k
                    refine AW.reg tiOk (fun _ => []) [0, 6, 7, 47] ?_
                    intro k hk; simp -dsimp [go_sem, -decide_eq_true_eq, -decide_eq_false_iff_not, hx]
                    repeat' (first | refine And.intro ?_ ?_ | refine hk _ ?_ | intro hg | omega | exact True.intro)
                    all_goals clear hk k
                    refine AW.cond rfl ?_ ?_
                    · intro hc; try simp at hc
                      all_goals (
                        refine AW.reg tiOk (fun _ => []) [2] ?_
                        intro k hk; simp -dsimp [go_sem, -decide_eq_true_eq, -decide_eq_false_iff_not, hx]
                        repeat' (first | refine And.intro ?_ ?_ | refine hk _ ?_ | intro hg | omega | exact True.intro)
                        all_goals clear hk k
                        refine AW.retF (ow := []) (muts := []) ?_ (fun h => And.intro (.inr rfl) h)
                        first | (rw [procF_len' (by simpa using hc)]; simp [go_sem, Tryz.results117]; done) | (rw [procF_ok hR h1 h2 h3]; simp [go_sem, Tryz.results117]; done) | (have hty : tyF p i = typF x.cond 2 := (by rw [hxt]; grind); rw [procF_ty hR h1 h2 hlt hal3 (by rw [hty]; first | assumption | simpa using hc), hty]; simp [go_sem, Tryz.results117]; done) | (have hty : tyF p i = typF x.expr 1 := (by rw [hxt]; grind); rw [procF_ty hR h1 h2 hlt hal3 (by rw [hty]; first | assumption | simpa using hc), hty]; simp [go_sem, Tryz.results117]; done) | (rw [procF_shape' hR h1 (by first | assumption | simpa using hc)]; simp [go_sem, Tryz.results117]; done) | (rw [procF_one hR hlt hall (by first | assumption | simpa using hc)]; simp [go_sem, Tryz.results117]))
                    · intro hc; try simp at hc
                      all_goals (
                        refine AW.skipN (fun _ h => h) ?_
                        refine AW.reg tiOk (fun _ => []) [0, 6, 8] ?_
                        intro k hk; simp -dsimp (maxSteps := 2000000) [go_sem, -decide_eq_true_eq, -decide_eq_false_iff_not, hx]
                        repeat' (first | refine And.intro ?_ ?_ | refine hk _ ?_ | intro hg | (refine CallK.intro (dc_spec_l4Typed x.cond 2 g1) ?_; simp -dsimp (maxSteps := 2000000) [go_sem, -decide_eq_true_eq, -decide_eq_false_iff_not, hx]) | (refine CallK.intro (dc_spec_l4Typed x.expr 1 g2) ?_; simp -dsimp (maxSteps := 2000000) [go_sem, -decide_eq_true_eq, -decide_eq_false_iff_not, hx]) | omega | exact True.intro)
                        all_goals clear hk k
                        refine AW.reg tiOk (fun _ => []) [0, 6, 8, 56] ?_
                        intro k hk; simp -dsimp [go_sem, -decide_eq_true_eq, -decide_eq_false_iff_not, hx]
                        repeat' (first | refine And.intro ?_ ?_ | refine hk _ ?_ | intro hg | omega | exact True.intro)
                        all_goals clear hk k
                        refine AW.cond rfl ?_ ?_
                        · intro hc; try simp at hc
                          all_goals (
                            refine AW.reg tiOk (fun _ => []) [2] ?_
                            intro k hk; simp -dsimp [go_sem, -decide_eq_true_eq, -decide_eq_false_iff_not, hx]
                            repeat' (first | refine And.intro ?_ ?_ | refine hk _ ?_ | intro hg | omega | exact True.intro)
                            all_goals clear hk k
                            refine AW.retF (ow := []) (muts := []) ?_ (fun h => And.intro (.inr rfl) h)
                            first | (rw [procF_len' (by simpa using hc)]; simp [go_sem, Tryz.results117]; done) | (rw [procF_ok hR h1 h2 h3]; simp [go_sem, Tryz.results117]; done) | (have hty : tyF p i = typF x.cond 2 := (by rw [hxt]; grind); rw [procF_ty hR h1 h2 hlt hal3 (by rw [hty]; first | assumption | simpa using hc), hty]; simp [go_sem, Tryz.results117]; done) | (have hty : tyF p i = typF x.expr 1 := (by rw [hxt]; grind); rw [procF_ty hR h1 h2 hlt hal3 (by rw [hty]; first | assumption | simpa using hc), hty]; simp [go_sem, Tryz.results117]; done) | (rw [procF_shape' hR h1 (by first | assumption | simpa using hc)]; simp [go_sem, Tryz.results117]; done) | (rw [procF_one hR hlt hall (by first | assumption | simpa using hc)]; simp [go_sem, Tryz.results117]))
                        · intro hc; try simp at hc
                          all_goals (
                            refine AW.skipN (fun _ h => h) ?_
                            refine AW.regK tiOk (fun _ => []) ?_
                            intro k hk; simp -dsimp [go_sem, -decide_eq_true_eq, -decide_eq_false_iff_not, hx]
                            repeat' (first | refine And.intro ?_ ?_ | refine hk _ ?_ | intro hg | omega | exact True.intro)
                            all_goals clear hk k
                            show ∃ _, _
                            have hw := wrapi hlt (by omega)
                            have htz : tyF p i = 0 := by rw [hxt]; grind
                            refine ⟨i + 1, ⟨by omega, upto hal3 htz⟩, by omega, Less.of rfl (by simp [go_sem, hw]) (by simp [go_sem])⟩)))
                · intro hc; try simp at hc
                  all_goals (
                    refine AW.exitN (fun _ h => h) ?_
                    have h3 : ∀ k, k < p.length → tyF p k = 0 := fun k hk => hal3 k (by omega)
                    refine AW.reg tiOk (fun _ => []) [2] ?_
                    intro k hk; simp -dsimp [go_sem, -decide_eq_true_eq, -decide_eq_false_iff_not]
                    repeat' (first | refine And.intro ?_ ?_ | refine hk _ ?_ | intro hg | omega | exact True.intro)
                    all_goals clear hk k
                    refine AW.retF (ow := []) (muts := []) ?_ (fun h => And.intro (.inr rfl) h)
                    first | (rw [procF_len' (by simpa using hc)]; simp [go_sem, Tryz.results117]; done) | (rw [procF_ok hR h1 h2 h3]; simp [go_sem, Tryz.results117]; done) | (have hty : tyF p i = typF x.cond 2 := (by rw [hxt]; grind); rw [procF_ty hR h1 h2 hlt hal3 (by rw [hty]; first | assumption | simpa using hc), hty]; simp [go_sem, Tryz.results117]; done) | (have hty : tyF p i = typF x.expr 1 := (by rw [hxt]; grind); rw [procF_ty hR h1 h2 hlt hal3 (by rw [hty]; first | assumption | simpa using hc), hty]; simp [go_sem, Tryz.results117]; done) | (rw [procF_shape' hR h1 (by first | assumption | simpa using hc)]; simp [go_sem, Tryz.results117]; done) | (rw [procF_one hR hlt hall (by first | assumption | simpa using hc)]; simp [go_sem, Tryz.results117])))))

end Go.AM

/-! ### H4 -/
set_option linter.unusedVariables false
set_option linter.unusedSimpArgs false
namespace Go.AM
open Go.Proofs

end Go.AM

/-! ### H5 -/
set_option linter.unusedVariables false
set_option linter.unusedSimpArgs false
namespace Go.AM
open Go.Proofs

end Go.AM

/-! ### K2 -/
set_option linter.unusedVariables false
set_option linter.unusedSimpArgs false
namespace Go.AM
open Go.Proofs

set_option maxHeartbeats 600000 in
set_option linter.unusedSimpArgs false in
set_option maxRecDepth 100000 in
/-- spec.l11Procs -/
theorem dc_spec_l11Procs (l : List TProc) (hl : l.length ≤ 9223372036854775807 ∧ ∀ e ∈ l, e.gok) : DC Tryz.prog 83 [.isl 1 (l.map TProc.ro)] (.int .i64 (procsF l)) [] := by
  obtain ⟨hl, hg⟩ := hl
  refine DC.intro tiOk Tryz.func83 rfl rfl rfl rfl rfl rfl rfl rfl [] ?_
  refine AW.reg tiOk (fun _ => []) [0] ?_
  intro k hk; simp -dsimp [go_sem, -decide_eq_true_eq, -decide_eq_false_iff_not]
  repeat' (first | refine And.intro ?_ ?_ | refine hk _ ?_ | intro hg | omega | exact True.intro)
  all_goals clear hk k
  refine AW.seq ?_
  refine AW.cut ⟨28, [(0, .isl 1 (l.map TProc.ro)), (12, .bool (decide (l.length < 1 ∨ 3 < l.length)))], []⟩ ?_ ?_
  · skip
    refine AW.regK tiOk (fun _ => []) ?_
    intro k hk; simp +contextual -dsimp (maxSteps := 2000000) [go_sem, -decide_eq_true_eq, -decide_eq_false_iff_not]
    repeat' (first | refine And.intro ?_ ?_ | refine hk _ ?_ | (intro hg; try simp only [decide_eq_true_eq, decide_eq_false_iff_not] at hg) | omega | exact True.intro)
    all_goals clear hk k
    all_goals (show St.Less _ _; exact Less.of rfl (by simp [go_sem, -Nat.lt_one_iff, -List.length_eq_zero_iff] <;> first | omega | grind) (by simp [go_sem]))
  · skip
    refine AW.cond rfl ?_ ?_
    · intro hc; try simp at hc
      all_goals (
        refine AW.reg tiOk (fun _ => []) [2] ?_
        intro k hk; simp -dsimp [go_sem, -decide_eq_true_eq, -decide_eq_false_iff_not]
        repeat' (first | refine And.intro ?_ ?_ | refine hk _ ?_ | intro hg | omega | exact True.intro)
        all_goals clear hk k
        refine AW.retF (ow := []) (muts := []) ?_ (fun h => And.intro (.inr rfl) h)
        first | (rw [procsF_ok hR (fun k hk => hall k (by omega))]; simp [go_sem, Tryz.results83]; done) | (rw [procsF_hit hR hlt hall (by rw [hxp]; first | assumption | simpa using hc), hxp]; simp [go_sem, Tryz.results83]; done) | (rw [procsF_len' (by simpa using hc)]; simp [go_sem, Tryz.results83]))
    · intro hc; try simp at hc
      all_goals (
        refine AW.skipN (fun _ h => h) ?_
        refine AW.seq ?_
        have hlen : 1 ≤ l.length ∧ l.length ≤ 3 := by obtain ⟨h8, h9⟩ := hc; have : l.length ≠ 0 := (fun h => h8 (List.length_eq_zero_iff.1 h)); omega
        have hR : inR l.length 1 3 = true := inR_iff.2 (by omega)
        refine AW.reg tiOk (fun _ => []) [0, 3] ?_
        intro k hk; simp -dsimp [go_sem, -decide_eq_true_eq, -decide_eq_false_iff_not]
        repeat' (first | refine And.intro ?_ ?_ | refine hk _ ?_ | intro hg | omega | exact True.intro)
        all_goals clear hk k
        refine AW.block ?_
        -- live at the loop's head: [0, 3]
        refine AW.loopI (fun i : Nat => ⟨28, [(0, .isl 1 (l.map TProc.ro)), (3, .int .i64 i)], []⟩) (fun i => i ≤ l.length ∧ ∀ k, k < i → procAt l k = 0) (fun i => l.length - i) (0) (by simp) (Less.of rfl (by simp [go_sem]) (by simp [go_sem])) ?_
        rintro i ⟨hi, hall⟩
        refine AW.seq ?_
        refine AW.reg tiOk (fun _ => []) [0, 3, 16] ?_
        intro k hk; simp -dsimp [go_sem, -decide_eq_true_eq, -decide_eq_false_iff_not]
        repeat' (first | refine And.intro ?_ ?_ | refine hk _ ?_ | intro hg | omega | exact True.intro)
        all_goals clear hk k
        refine AW.cond rfl ?_ ?_
        · intro hc; try simp at hc
          all_goals (
            have hlt : i < l.length := by assumption
            obtain ⟨x, hx⟩ := at_some hlt
            have hxp := procAt_at hx
            have gx : x.steps.length ≤ 9223372036854775807 ∧ ∀ e ∈ x.steps, e.gok := hg x (List.mem_of_getElem? hx)
            refine AW.skipN (fun _ h => h) ?_
            refine AW.seq ?_
            refine AW.block ?_
            refine AW.reg tiOk (fun _ => []) [0, 3, 4] ?_
            intro k hk; simp -dsimp (maxSteps := 2000000) [go_sem, -decide_eq_true_eq, -decide_eq_false_iff_not, hx]
            repeat' (first | refine And.intro ?_ ?_ | refine hk _ ?_ | intro hg | (refine CallK.intro (dc_spec_l4Fault x.steps gx.1 gx.2) ?_; simp -dsimp (maxSteps := 2000000) [go_sem, -decide_eq_true_eq, -decide_eq_false_iff_not, hx]) | omega | exact True.intro)
            all_goals clear hk k
            refine AW.reg tiOk (fun _ => []) [0, 3, 4, 26] ?_
            intro k hk; simp -dsimp [go_sem, -decide_eq_true_eq, -decide_eq_false_iff_not, hx]
            repeat' (first | refine And.intro ?_ ?_ | refine hk _ ?_ | intro hg | omega | exact True.intro)
            all_goals clear hk k
            refine AW.cond rfl ?_ ?_
            · intro hc; try simp at hc
              all_goals (
                refine AW.reg tiOk (fun _ => []) [2] ?_
                intro k hk; simp -dsimp [go_sem, -decide_eq_true_eq, -decide_eq_false_iff_not, hx]
                repeat' (first | refine And.intro ?_ ?_ | refine hk _ ?_ | intro hg | omega | exact True.intro)
                all_goals clear hk k
                refine AW.retF (ow := []) (muts := []) ?_ (fun h => And.intro (.inr rfl) h)
                first | (rw [procsF_ok hR (fun k hk => hall k (by omega))]; simp [go_sem, Tryz.results83]; done) | (rw [procsF_hit hR hlt hall (by rw [hxp]; first | assumption | simpa using hc), hxp]; simp [go_sem, Tryz.results83]; done) | (rw [procsF_len' (by simpa using hc)]; simp [go_sem, Tryz.results83]))
            · intro hc; try simp at hc
              all_goals (
                refine AW.skipN (fun _ h => h) ?_
                refine AW.regK tiOk (fun _ => []) ?_
                intro k hk; simp -dsimp [go_sem, -decide_eq_true_eq, -decide_eq_false_iff_not, hx]
                repeat' (first | refine And.intro ?_ ?_ | refine hk _ ?_ | intro hg | omega | exact True.intro)
                all_goals clear hk k
                show ∃ _, _
                have hw := wrapi hlt (by omega)
                refine ⟨i + 1, ⟨by omega, upto hall (by rw [hxp]; first | assumption | simpa using hc)⟩, by omega, Less.of rfl (by simp [go_sem, hw]) (by simp [go_sem])⟩))
        · intro hc; try simp at hc
          all_goals (
            refine AW.exitN (fun _ h => h) ?_
            refine AW.reg tiOk (fun _ => []) [2] ?_
            intro k hk; simp -dsimp [go_sem, -decide_eq_true_eq, -decide_eq_false_iff_not]
            repeat' (first | refine And.intro ?_ ?_ | refine hk _ ?_ | intro hg | omega | exact True.intro)
            all_goals clear hk k
            refine AW.retF (ow := []) (muts := []) ?_ (fun h => And.intro (.inr rfl) h)
            first | (rw [procsF_ok hR (fun k hk => hall k (by omega))]; simp [go_sem, Tryz.results83]; done) | (rw [procsF_hit hR hlt hall (by rw [hxp]; first | assumption | simpa using hc), hxp]; simp [go_sem, Tryz.results83]; done) | (rw [procsF_len' (by simpa using hc)]; simp [go_sem, Tryz.results83])))

end Go.AM

