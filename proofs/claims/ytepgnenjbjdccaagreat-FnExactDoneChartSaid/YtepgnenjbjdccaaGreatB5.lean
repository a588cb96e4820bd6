/- Joined texts: F7 G4 G5 G6 H1 Z7 Y2 Z9 Y7 Y9 Z5 Y5 Za Z2 Z3 Y4 Zb Zc H2. -/
import Derived.Test.YtepgnenjbjdccaaGreatB1
import Derived.Test.YtepgnenjbjdccaaGreatB2
import Derived.Test.YtepgnenjbjdccaaGreatB3
import Derived.Test.YtepgnenjbjdccaaGreatB4
set_option linter.unusedVariables false
set_option linter.unusedSimpArgs false
set_option maxHeartbeats 600000
set_option maxRecDepth 100000
namespace Go.AM
open Go.Proofs
theorem dc_impl_typeFault (e : List TNode) (w : Int) (he : e.length ≤ 9223372036854775807) : DC Tryz.prog 90 [.isl 4 (e.map TNode.ro), .int .i64 w] (.int .i64 (typF e w)) [] := by
 refine DC.intro tiOk Tryz.func90 rfl rfl rfl rfl rfl rfl rfl rfl [] ?_
 refine rgA [0,1] ?_
 refine AW.seq ?_
 refine rgA [0,1,8] ?_
 refine AW.cond rfl ?_ ?_
 ·intro hc; try simp at hc
  all_goals (
   refine rgA [4] ?_
   refine rt ?_
   simp [go_sem, Tryz.results90, typF, firstC_cons, firstC_nil] <;> grind)
 ·intro hc; try simp at hc
  all_goals (
   refine AW.skipN (fun _ h => h) ?_
   refine rg [1,5] ?_
   intro k hk; simp -dsimp (maxSteps := 2000000) [go_sem, -decide_eq_true_eq, -decide_eq_false_iff_not]
   repeat' first | apply And.intro | refine hk _ ?_ | intro hg | (refine CallK.intro (dc_impl_TypeOf e he) ?_; simp -dsimp (maxSteps := 2000000) [go_sem, -decide_eq_true_eq, -decide_eq_false_iff_not]) | omega | exact True.intro
   all_goals clear hk k
   refine rg [4] ?_
   intro k hk; simp -dsimp (maxSteps := 2000000) [go_sem, -decide_eq_true_eq, -decide_eq_false_iff_not]
   repeat' first | (refine Chk.keys ?_; simp only [go_sem, List.map_cons, List.map_nil, List.flatMap_cons, List.flatMap_nil, List.flatMap_append, List.append_nil, List.nil_append, List.cons_append]; decide +kernel) | apply And.intro | refine hk _ ?_ | intro hg | ((first | refine CallK.intro (dc_impl_codeIf _ _) ?_ | refine CallK.intro (dc_impl_firstCode [_, _] (by simp)) ?_ | refine CallK.intro (dc_impl_firstCode [_, _, _] (by simp)) ?_ | refine CallK.intro (dc_impl_firstCode [_, _, _, _] (by simp)) ?_); simp -dsimp (maxSteps := 2000000) [go_sem, -decide_eq_true_eq, -decide_eq_false_iff_not]) | omega | exact True.intro
   all_goals clear hk k
   refine rt ?_
   simp [go_sem, Tryz.results90, typF, firstC_cons, firstC_nil] <;> grind)
theorem dc_impl_isSmall (c : UInt8) : DC Tryz.prog 122 [.int .u8 c.toNat] (.bool (isLow c)) [] := by
 refine DC.intro tiOk Tryz.func122 rfl rfl rfl rfl rfl rfl rfl rfl [] ?_
 refine rgA [0] ?_
 refine rg [2] ?_
 intro k hk; simp +contextual -dsimp (maxSteps := 2000000) [go_sem, -decide_eq_true_eq, -decide_eq_false_iff_not]
 repeat' first | apply And.intro | refine hk _ ?_ | (intro hg; try simp only [decide_eq_true_eq, decide_eq_false_iff_not] at hg) | omega | exact True.intro
 all_goals clear hk k
 all_goals (
  refine rt ?_
  simp [go_sem, *, Tryz.results122, isLow, -decide_eq_true_eq, -decide_eq_false_iff_not])
theorem dc_impl_NameFault (s : List UInt8) (hs : s.length ≤ 9223372036854775807) : DC Tryz.prog 111 [.str s] (.int .i64 (nameF s)) [] := by
 refine DC.intro tiOk Tryz.func111 rfl rfl rfl rfl rfl rfl rfl rfl [] ?_
 refine rgA [0] ?_
 refine rg [2] ?_
 intro k hk; simp +contextual -dsimp (maxSteps := 2000000) [go_sem, -decide_eq_true_eq, -decide_eq_false_iff_not]
 repeat' first | apply And.intro | refine hk _ ?_ | (intro hg; try simp only [decide_eq_true_eq, decide_eq_false_iff_not] at hg) | ((first | refine CallK.intro (dc_impl_areAll 122 isLow dc_impl_isSmall s hs) ?_ | refine CallK.intro (dc_impl_codeIf _ _) ?_ | refine CallK.intro (dc_impl_firstCode [_, _] (by simp)) ?_ | refine CallK.intro (dc_impl_firstCode [_, _, _] (by simp)) ?_ | refine CallK.intro (dc_impl_firstCode [_, _, _, _] (by simp)) ?_); simp +contextual -dsimp (maxSteps := 2000000) [go_sem, -decide_eq_true_eq, -decide_eq_false_iff_not]) | omega | exact True.intro
 all_goals clear hk k
 all_goals (
  refine rt ?_
  simp [go_sem, Tryz.results111, nameF, firstC_cons, firstC_nil] at * <;> grind)
end Go.AM
namespace Go.AM
open Go.Proofs
theorem dc_impl_condFault (p : List TStep) (ho : StepsOk p) (i : Nat) (hi : i < p.length) (hg : ∀ e ∈ p, e.gok) : DC Tryz.prog 89 [.isl 6 (p.map TStep.ro), .int .i64 (i : Nat)] (.int .i64 (shapeF p i)) [] := by
 have hlen := ho.len
 obtain ⟨x, hx⟩ := at_some hi
 have hxS := nS_at hx
 obtain ⟨g0, g1, g2⟩ := hg x (List.mem_of_getElem? hx)
 have hkm := kids_len p (i : Int)
 refine DC.intro tiOk Tryz.func89 rfl rfl rfl rfl rfl rfl rfl rfl [] ?_
 refine rg [0,1] ?_
 intro k hk; simp -dsimp [go_sem, -decide_eq_true_eq, -decide_eq_false_iff_not, hx]
 repeat' first | apply And.intro | refine hk _ ?_ | intro hg | omega | exact True.intro
 all_goals clear hk k
 refine rg [0,1,5,6] ?_
 intro k hk; simp -dsimp (maxSteps := 2000000) [go_sem, -decide_eq_true_eq, -decide_eq_false_iff_not, hx]
 repeat' first | apply And.intro | refine hk _ ?_ | intro hg | (refine CallK.intro (dc_impl_kidBounds _) ?_; simp -dsimp (maxSteps := 2000000) [go_sem, -decide_eq_true_eq, -decide_eq_false_iff_not, hx]) | omega | exact True.intro
 all_goals clear hk k
 refine rg [0,1,5,6,7] ?_
 intro k hk; simp -dsimp (maxSteps := 2000000) [go_sem, -decide_eq_true_eq, -decide_eq_false_iff_not, hx]
 repeat' first | apply And.intro | refine hk _ ?_ | intro hg | omega | exact True.intro
 all_goals clear hk k
 refine rg [0,1,7,8] ?_
 intro k hk; simp -dsimp (maxSteps := 2000000) [go_sem, -decide_eq_true_eq, -decide_eq_false_iff_not, hx]
 repeat' first | apply And.intro | refine hk _ ?_ | intro hg | ((first | refine CallK.intro (dc_impl_kids p (i : Int) (by omega)) ?_ | refine CallK.intro (dc_impl_inRange _ _ _) ?_ | refine CallK.intro (dc_impl_codeIf _ _) ?_ | refine CallK.intro (dc_impl_wantsCond p ho i hi) ?_ | refine CallK.intro (dc_impl_firstCode [_, _] (by simp)) ?_ | refine CallK.intro (dc_impl_firstCode [_, _, _] (by simp)) ?_ | refine CallK.intro (dc_impl_firstCode [_, _, _, _] (by simp)) ?_); simp -dsimp (maxSteps := 2000000) [go_sem, -decide_eq_true_eq, -decide_eq_false_iff_not, hx]) | omega | exact True.intro
 all_goals clear hk k
 refine AW.seq ?_
 refine rg [0,1,8,47] ?_
 intro k hk; simp +contextual -dsimp [go_sem, -decide_eq_true_eq, -decide_eq_false_iff_not, hx]
 repeat' first | apply And.intro | refine hk _ ?_ | (intro hg; try simp only [decide_eq_true_eq, decide_eq_false_iff_not] at hg) | omega | exact True.intro
 all_goals clear hk k
 all_goals (
  refine AW.cond rfl ?_ ?_
  ·intro hc; try simp at hc
   all_goals (
    refine rg [4] ?_
    intro k hk; simp -dsimp [go_sem, -decide_eq_true_eq, -decide_eq_false_iff_not, hx]
    repeat' first | apply And.intro | refine hk _ ?_ | intro hg | omega | exact True.intro
    all_goals clear hk k
    refine rt ?_
    simp [go_sem, Tryz.results89, shapeF, hxS, firstC_cons, firstC_nil] at * <;> grind)
  ·intro hc; try simp at hc
   all_goals (
    refine AW.skipN (fun _ h => h) ?_
    refine rg [4] ?_
    intro k hk; simp -dsimp (maxSteps := 2000000) [go_sem, -decide_eq_true_eq, -decide_eq_false_iff_not, hx]
    repeat' first | apply And.intro | refine hk _ ?_ | intro hg | (refine CallK.intro (dc_impl_ExprFault x.cond g1) ?_; simp -dsimp (maxSteps := 2000000) [go_sem, -decide_eq_true_eq, -decide_eq_false_iff_not, hx]) | omega | exact True.intro
    all_goals clear hk k
    refine rt ?_
    simp [go_sem, Tryz.results89, shapeF, hxS, firstC_cons, firstC_nil] at * <;> grind))
end Go.AM
namespace Go.AM
open Go.Proofs
theorem dc_impl_stepFault (s : TStep) (hg : s.gok) (l : List Int) (hl : ParOk l) (h24 : l.length ≤ 23) : DC Tryz.prog 88 [.agg s.ro, .op [nlc 1 (l.map I1), nlc 1 ((depsOf l).map I1)]] (.int .i64 (stepF l s)) [(1, .op [nlc 1 ((nxtL l s.par).map I1), nlc 1 ((nxtD l (depsOf l) s.par).map I1)])] := by
 obtain ⟨g0, g1, g2⟩ := hg
 have hdl := depsOf_len l
 refine DC.intro tiOk Tryz.func88 rfl rfl rfl rfl rfl rfl rfl (by simp [noW, noWo]) [] ?_
 refine rgA [1,2] ?_
 refine rg [1,2,5,6] ?_
 intro k hk; simp -dsimp (maxSteps := 2000000) [go_sem, -decide_eq_true_eq, -decide_eq_false_iff_not]
 repeat' first | apply And.intro | refine hk _ ?_ | intro hg | (refine CallK.intro (dc_impl_argBounds _) ?_; simp -dsimp (maxSteps := 2000000) [go_sem, -decide_eq_true_eq, -decide_eq_false_iff_not]) | omega | exact True.intro
 all_goals clear hk k
 refine AW.cut ⟨96, [(1, .ptr 1901 2 0 0), (2, .ptr 2 6 0 0), (5, .int .i64 (lowA s.kind)), (6, .int .i64 (highA s.kind)), (7, .bool (alien s))], [(2, some ⟨6, [s.ro]⟩), (1901, some ⟨2, [[nlc 1 (l.map I1), nlc 1 ((depsOf l).map I1)]]⟩)]⟩ ?_ ?_
 ·skip
  refine rgK ?_
  intro k hk; simp +contextual -dsimp (maxSteps := 2000000) [go_sem, -decide_eq_true_eq, -decide_eq_false_iff_not]
  repeat' first | apply And.intro | refine hk _ ?_ | (intro hg; try simp only [decide_eq_true_eq, decide_eq_false_iff_not] at hg) | omega | exact True.intro
  all_goals clear hk k
  all_goals (show St.Less _ _; exact Less.of rfl (by simp [go_sem, alien] at * <;> grind) (by simp [go_sem]))
 ·skip
  refine AW.seq ?_
  refine AW.cut ⟨96, [(1, .ptr 1901 2 0 0), (2, .ptr 2 6 0 0), (5, .int .i64 (lowA s.kind)), (6, .int .i64 (highA s.kind)), (8, .int .i64 (if inR s.kind 1 8 = false ∨ alien s = true then 1 else parF l s.par))], [(2, some ⟨6, [s.ro]⟩), (1901, some ⟨2, [[nlc 1 ((nxtL l s.par).map I1), nlc 1 ((nxtD l (depsOf l) s.par).map I1)]]⟩)]⟩ ?_ ?_
  ·skip
   refine AW.regK tiOk (fun i => if i = 11 then [0] else []) ?_
   intro k hk; simp +contextual -dsimp (maxSteps := 2000000) [go_sem, -decide_eq_true_eq, -decide_eq_false_iff_not]
   repeat' first | (refine Chk.keys ?_; simp only [go_sem, List.map_cons, List.map_nil, List.flatMap_cons, List.flatMap_nil, List.flatMap_append, List.append_nil, List.nil_append, List.cons_append]; decide +kernel) | apply And.intro | refine hk _ ?_ | (intro hg; try simp only [decide_eq_true_eq, decide_eq_false_iff_not] at hg) | ((first | refine CallK.intro (dc_impl_inRange _ _ _) ?_ | refine CallK.intro (dc_impl_codeIf _ _) ?_ | refine CallK.intro (dc_parents_next l (depsOf l) s.par hl rfl (by omega)) ?_ | refine CallK.intro (dc_impl_firstCode [_, _] (by simp)) ?_ | refine CallK.intro (dc_impl_firstCode [_, _, _] (by simp)) ?_ | refine CallK.intro (dc_impl_firstCode [_, _, _, _] (by simp)) ?_); simp +contextual -dsimp (maxSteps := 2000000) [go_sem, -decide_eq_true_eq, -decide_eq_false_iff_not]) | omega | exact True.intro
   all_goals clear hk k
   all_goals (show St.Less _ _; exact Less.of rfl (by simp [go_sem, firstC_cons, firstC_nil] at * <;> grind) (by simp [go_sem]))
  ·skip
   refine rgA [1,2,5,6,8,59] ?_
   refine AW.cond rfl ?_ ?_
   ·intro hc; try simp at hc
    all_goals try (exfalso; omega; done)
    all_goals (
     refine rgA [1,4] ?_
     refine rt ?_
     first | (rw [stepF_good hz1 hz2 hz3]; simp [go_sem, Tryz.results88, hnL, hnD, firstC_cons, firstC_nil]; (try grind [inR]); done) | (simp [go_sem, Tryz.results88]; have := @inR_iff s.kind 1 8; unfold stepF; grind))
   ·intro hc; try simp at hc
    all_goals try (exfalso; omega; done)
    all_goals (
     refine AW.skipN (fun _ h => h) ?_
     refine AW.seq ?_
     have hz : inR s.kind 1 8 = true ∧ alien s = false ∧ parF l s.par = 0 := by grind
     obtain ⟨hz1, hz2, hz3⟩ := hz
     have hnL := nxtL_app hz3
     have hnD := nxtD_app hl hz3
     refine rg [1,2,5,6,9] ?_
     intro k hk; simp -dsimp (maxSteps := 2000000) [go_sem, -decide_eq_true_eq, -decide_eq_false_iff_not, hnL, hnD]
     repeat' first | apply And.intro | refine hk _ ?_ | intro hg | ((first | refine CallK.intro (dc_impl_parents_last _ _ _ (by simp [hdl]; omega)) ?_ | refine CallK.intro (dc_impl_codeIf _ _) ?_); simp -dsimp (maxSteps := 2000000) [go_sem, -decide_eq_true_eq, -decide_eq_false_iff_not, hnL, hnD]) | omega | exact True.intro
     all_goals clear hk k
     refine rgA [1,2,5,6,9,66] ?_
     refine AW.cond rfl ?_ ?_
     ·intro hc; try simp at hc
      all_goals try (exfalso; omega; done)
      all_goals (
       refine rgA [1,4] ?_
       refine rt ?_
       first | (rw [stepF_good hz1 hz2 hz3]; simp [go_sem, Tryz.results88, hnL, hnD, firstC_cons, firstC_nil]; (try grind [inR]); done) | (simp [go_sem, Tryz.results88]; have := @inR_iff s.kind 1 8; unfold stepF; grind))
     ·intro hc; try simp at hc
      all_goals try (exfalso; omega; done)
      all_goals (
       refine AW.skipN (fun _ h => h) ?_
       refine AW.seq ?_
       refine rgA [1,2,5,6,69] ?_
       refine AW.block ?_
       refine rgA [1,2,5,6,69,70] ?_
       refine AW.cond rfl ?_ ?_
       ·intro hc; try simp at hc
        all_goals try (exfalso; omega; done)
        all_goals (
         refine rg [1,4] ?_
         intro k hk; simp -dsimp (maxSteps := 2000000) [go_sem, -decide_eq_true_eq, -decide_eq_false_iff_not]
         repeat' first | apply And.intro | refine hk _ ?_ | intro hg | (refine CallK.intro (dc_impl_NameFault s.name g0) ?_; simp -dsimp (maxSteps := 2000000) [go_sem, -decide_eq_true_eq, -decide_eq_false_iff_not]) | omega | exact True.intro
         all_goals clear hk k
         refine rt ?_
         first | (rw [stepF_good hz1 hz2 hz3]; simp [go_sem, Tryz.results88, hnL, hnD, firstC_cons, firstC_nil]; (try grind [inR]); done) | (simp [go_sem, Tryz.results88]; have := @inR_iff s.kind 1 8; unfold stepF; grind))
       ·intro hc; try simp at hc
        all_goals try (exfalso; omega; done)
        all_goals (
         refine rgA [1,2,5,6,75] ?_
         refine AW.cond rfl ?_ ?_
         ·intro hc; try simp at hc
          all_goals try (exfalso; omega; done)
          all_goals (
           refine rg [1,4] ?_
           intro k hk; simp -dsimp (maxSteps := 2000000) [go_sem, -decide_eq_true_eq, -decide_eq_false_iff_not]
           repeat' first | (refine Chk.keys ?_; simp only [go_sem, List.map_cons, List.map_nil, List.flatMap_cons, List.flatMap_nil, List.flatMap_append, List.append_nil, List.nil_append, List.cons_append]; decide +kernel) | apply And.intro | refine hk _ ?_ | intro hg | ((first | refine CallK.intro (dc_impl_inRange _ _ _) ?_ | refine CallK.intro (dc_impl_codeIf _ _) ?_ | refine CallK.intro (dc_impl_ExprFault s.expr g2) ?_ | refine CallK.intro (dc_impl_firstCode [_, _] (by simp)) ?_ | refine CallK.intro (dc_impl_firstCode [_, _, _] (by simp)) ?_ | refine CallK.intro (dc_impl_firstCode [_, _, _, _] (by simp)) ?_); simp -dsimp (maxSteps := 2000000) [go_sem, -decide_eq_true_eq, -decide_eq_false_iff_not]) | omega | exact True.intro
           all_goals clear hk k
           refine rt ?_
           first | (rw [stepF_good hz1 hz2 hz3]; simp [go_sem, Tryz.results88, hnL, hnD, firstC_cons, firstC_nil]; (try grind [inR]); done) | (simp [go_sem, Tryz.results88]; have := @inR_iff s.kind 1 8; unfold stepF; grind))
         ·intro hc; try simp at hc
          all_goals try (exfalso; omega; done)
          all_goals (
           refine AW.skipN (fun _ h => h) ?_
           refine rg [1,4] ?_
           intro k hk; simp -dsimp (maxSteps := 2000000) [go_sem, -decide_eq_true_eq, -decide_eq_false_iff_not]
           repeat' first | apply And.intro | refine hk _ ?_ | intro hg | ((first | refine CallK.intro (dc_impl_inRange _ _ _) ?_ | refine CallK.intro (dc_impl_codeIf _ _) ?_); simp -dsimp (maxSteps := 2000000) [go_sem, -decide_eq_true_eq, -decide_eq_false_iff_not]) | omega | exact True.intro
           all_goals clear hk k
           refine rt ?_
           first | (rw [stepF_good hz1 hz2 hz3]; simp [go_sem, Tryz.results88, hnL, hnD, firstC_cons, firstC_nil]; (try grind [inR]); done) | (simp [go_sem, Tryz.results88]; have := @inR_iff s.kind 1 8; unfold stepF; grind)))))
end Go.AM
namespace Go.AM
open Go.Proofs
theorem dc_impl_ProcFault (p : List TStep) (hp : p.length ≤ 9223372036854775807) (hg : ∀ e ∈ p, e.gok) : DC Tryz.prog 64 [.isl 6 (p.map TStep.ro)] (.int .i64 (procF p)) [] := by
 refine DC.intro tiOk Tryz.func64 rfl rfl rfl rfl rfl rfl rfl rfl [] ?_
 refine rgA [0] ?_
 refine AW.seq ?_
 refine rg [0,15] ?_
 intro k hk; simp -dsimp (maxSteps := 2000000) [go_sem, -decide_eq_true_eq, -decide_eq_false_iff_not]
 repeat' first | apply And.intro | refine hk _ ?_ | intro hg | (refine CallK.intro (dc_impl_inRange _ _ _) ?_; simp -dsimp (maxSteps := 2000000) [go_sem, -decide_eq_true_eq, -decide_eq_false_iff_not]) | omega | exact True.intro
 all_goals clear hk k
 refine AW.cond rfl ?_ ?_
 ·intro hc; try simp at hc
  all_goals (
   refine rgA [2] ?_
   refine rt ?_
   first | (rw [procF_len (by simpa using hc)]; simp [go_sem, Tryz.results64]; done) | (rw [procF_ok hR h1 h2 h3]; simp [go_sem, Tryz.results64]; done) | (rw [procF_ty hR h1 h2 hlt hal3 (by first | assumption | simpa using hc)]; simp [go_sem, Tryz.results64]; done) | (rw [procF_shape hR h1 hlt hal2 (by first | assumption | simpa using hc)]; simp [go_sem, Tryz.results64]; done) | (rw [procF_one hR hlt hall (by rw [hxo]; first | assumption | simpa using hc), hxo]; simp [go_sem, Tryz.results64]))
 ·intro hc; try simp at hc
  all_goals (
   refine AW.skipN (fun _ h => h) ?_
   have hR : inR p.length 1 24 = true := by simpa using hc
   have hlen := inR_iff.1 hR
   have hts : depsOf [] = [] := rfl
   refine rgA [0,3] ?_
   refine AW.seq ?_
   refine rgA [0,3,18,19,20] ?_
   refine AW.block ?_
   refine AW.loopI (fun i : Nat => ⟨61, [(0, .isl 6 (p.map TStep.ro)), (3, .ptr 17 2 0 0), (18, .isl 6 (p.map TStep.ro)), (19, .int .i64 p.length), (20, .int .i64 i)], [(17, some ⟨2, [[nlc 1 ((parsT p i).map I1), nlc 1 ((depsOf (parsT p i)).map I1)]]⟩)]⟩) (fun i => i ≤ p.length ∧ ∀ k, k < i → oneF p k = 0) (fun i => p.length - i) (0) (by simp) (Less.of rfl (by simp [go_sem]) (by simp [go_sem, hts, parsT_zero])) ?_
   rintro i ⟨hi, hall⟩
   refine rgA [0,3,18,19,20,21] ?_
   refine AW.seq ?_
   refine AW.cond rfl ?_ ?_
   ·intro hc; try simp at hc
    all_goals (
     have hlt : i < p.length := by assumption
     obtain ⟨x, hx⟩ := at_some hlt
     have hxo := oneF_T hx
     refine AW.skipN (fun _ h => h) ?_
     refine AW.seq ?_
     refine AW.block ?_
     have hlo := ones_T (by omega) hall
     refine rg [0,3,5,18,19,20] ?_
     intro k hk; simp -dsimp [go_sem, -decide_eq_true_eq, -decide_eq_false_iff_not, hx]
     repeat' first | apply And.intro | refine hk _ ?_ | intro hg | omega | exact True.intro
     all_goals clear hk k
     refine AW.reg tiOk (fun _ => [1]) [0,3,6,18,19,20] ?_
     intro k hk; simp -dsimp (maxSteps := 2000000) [go_sem, -decide_eq_true_eq, -decide_eq_false_iff_not, hx]
     repeat' first | apply And.intro | refine hk _ ?_ | intro hg | (refine CallK.intro (dc_impl_stepFault x (hg x (List.mem_of_getElem? hx)) (parsT p i) hlo (by rw [parsT_len (by omega)]; omega)) ?_; simp -dsimp (maxSteps := 2000000) [go_sem, -decide_eq_true_eq, -decide_eq_false_iff_not, hx]) | omega | exact True.intro
     all_goals clear hk k
     refine rg [0,3,6,18,19,20,28] ?_
     intro k hk; simp -dsimp [go_sem, -decide_eq_true_eq, -decide_eq_false_iff_not, hx]
     repeat' first | apply And.intro | refine hk _ ?_ | intro hg | omega | exact True.intro
     all_goals clear hk k
     refine AW.cond rfl ?_ ?_
     ·intro hc; try simp at hc
      all_goals (
       refine rg [2] ?_
       intro k hk; simp -dsimp [go_sem, -decide_eq_true_eq, -decide_eq_false_iff_not, hx]
       repeat' first | apply And.intro | refine hk _ ?_ | intro hg | omega | exact True.intro
       all_goals clear hk k
       refine rt ?_
       first | (rw [procF_len (by simpa using hc)]; simp [go_sem, Tryz.results64]; done) | (rw [procF_ok hR h1 h2 h3]; simp [go_sem, Tryz.results64]; done) | (rw [procF_ty hR h1 h2 hlt hal3 (by first | assumption | simpa using hc)]; simp [go_sem, Tryz.results64]; done) | (rw [procF_shape hR h1 hlt hal2 (by first | assumption | simpa using hc)]; simp [go_sem, Tryz.results64]; done) | (rw [procF_one hR hlt hall (by rw [hxo]; first | assumption | simpa using hc), hxo]; simp [go_sem, Tryz.results64]))
     ·intro hc; try simp at hc
      all_goals (
       refine AW.skipN (fun _ h => h) ?_
       refine rgK ?_
       intro k hk; simp -dsimp [go_sem, -decide_eq_true_eq, -decide_eq_false_iff_not, hx]
       repeat' first | apply And.intro | refine hk _ ?_ | intro hg | omega | exact True.intro
       all_goals clear hk k
       show ∃ _, _
       have hw := wrapi hlt (by omega)
       have hz : stepF (parsT p i) x = 0 := by simpa using hc
       have hpz := stepF_par hz
       have htn := parsT_next hx
       refine ⟨i + 1, ⟨by omega, upto hall (by rw [hxo]; exact hz)⟩, by omega, Less.of rfl (by simp [go_sem, hw]) (by simp [go_sem, htn, nxtL_app hpz, nxtD_deps (ones_T (by omega) hall) hpz])⟩))
   ·intro hc; try simp at hc
    all_goals (
     refine AW.exitN (fun _ h => h) ?_
     refine AW.seq ?_
     have h1 : ∀ k, k < p.length → oneF p k = 0 := fun k hk => hall k (by omega)
     have ho : StepsOk p := ⟨by omega, h1⟩
     refine rgA [0,32,33] ?_
     refine AW.block ?_
     refine AW.loopI (fun i : Nat => ⟨61, [(0, .isl 6 (p.map TStep.ro)), (32, .int .i64 p.length), (33, .int .i64 i)], []⟩) (fun i => i ≤ p.length ∧ ∀ k, k < i → shapeF p k = 0) (fun i => p.length - i) (0) (by simp) (Less.of rfl (by simp [go_sem]) (by simp [go_sem])) ?_
     rintro i ⟨hi, hal2⟩
     refine rgA [0,32,33,34] ?_
     refine AW.seq ?_
     refine AW.cond rfl ?_ ?_
     ·intro hc; try simp at hc
      all_goals (
       have hlt : i < p.length := by assumption
       refine AW.skipN (fun _ h => h) ?_
       refine AW.seq ?_
       refine AW.block ?_
       refine rgA [0,7,32,33] ?_
       refine rg [0,8,32,33] ?_
       intro k hk; simp -dsimp (maxSteps := 2000000) [go_sem, -decide_eq_true_eq, -decide_eq_false_iff_not]
       repeat' first | apply And.intro | refine hk _ ?_ | intro hg | (refine CallK.intro (dc_impl_condFault p ho i hlt hg) ?_; simp -dsimp (maxSteps := 2000000) [go_sem, -decide_eq_true_eq, -decide_eq_false_iff_not]) | omega | exact True.intro
       all_goals clear hk k
       refine rgA [0,8,32,33,40] ?_
       refine AW.cond rfl ?_ ?_
       ·intro hc; try simp at hc
        all_goals (
         refine rgA [2] ?_
         refine rt ?_
         first | (rw [procF_len (by simpa using hc)]; simp [go_sem, Tryz.results64]; done) | (rw [procF_ok hR h1 h2 h3]; simp [go_sem, Tryz.results64]; done) | (rw [procF_ty hR h1 h2 hlt hal3 (by first | assumption | simpa using hc)]; simp [go_sem, Tryz.results64]; done) | (rw [procF_shape hR h1 hlt hal2 (by first | assumption | simpa using hc)]; simp [go_sem, Tryz.results64]; done) | (rw [procF_one hR hlt hall (by rw [hxo]; first | assumption | simpa using hc), hxo]; simp [go_sem, Tryz.results64]))
       ·intro hc; try simp at hc
        all_goals (
         refine AW.skipN (fun _ h => h) ?_
         refine rgKA ?_
         show ∃ _, _
         have hw := wrapi hlt (by omega)
         refine ⟨i + 1, ⟨by omega, upto hal2 (by first | assumption | simpa using hc)⟩, by omega, Less.of rfl (by simp [go_sem, hw]) (by simp [go_sem])⟩))
     ·intro hc; try simp at hc
      all_goals (
       refine AW.exitN (fun _ h => h) ?_
       refine AW.seq ?_
       have h2 : ∀ k, k < p.length → shapeF p k = 0 := fun k hk => hal2 k (by omega)
       refine rgA [43,44,45] ?_
       refine AW.block ?_
       refine AW.loopI (fun i : Nat => ⟨61, [(43, .isl 6 (p.map TStep.ro)), (44, .int .i64 p.length), (45, .int .i64 i)], []⟩) (fun i => i ≤ p.length ∧ ∀ k, k < i → tyF p k = 0) (fun i => p.length - i) (0) (by simp) (Less.of rfl (by simp [go_sem]) (by simp [go_sem])) ?_
       rintro i ⟨hi, hal3⟩
       refine rgA [43,44,45,46] ?_
       refine AW.seq ?_
       refine AW.cond rfl ?_ ?_
       ·intro hc; try simp at hc
        all_goals (
         have hlt : i < p.length := by assumption
         obtain ⟨x, hx⟩ := at_some hlt
         have hxt := tyF_at hx
         obtain ⟨g0, g1, g2⟩ := hg x (List.mem_of_getElem? hx)
         have hfc : firstC [typF x.cond 2, typF x.expr 1] = tyF p i := by rw [hxt]; simp [firstC_cons, firstC_nil] <;> grind
         refine AW.skipN (fun _ h => h) ?_
         refine AW.seq ?_
         refine AW.block ?_
         refine rg [10,43,44,45] ?_
         intro k hk; simp -dsimp [go_sem, -decide_eq_true_eq, -decide_eq_false_iff_not, hx, hfc]
         repeat' first | apply And.intro | refine hk _ ?_ | intro hg | omega | exact True.intro
         all_goals clear hk k
         refine rg [11,43,44,45] ?_
         intro k hk; simp -dsimp (maxSteps := 2000000) [go_sem, -decide_eq_true_eq, -decide_eq_false_iff_not, hx, hfc]
         repeat' first | (refine Chk.keys ?_; simp only [go_sem, List.map_cons, List.map_nil, List.flatMap_cons, List.flatMap_nil, List.flatMap_append, List.append_nil, List.nil_append, List.cons_append]; decide +kernel) | apply And.intro | refine hk _ ?_ | intro hg | ((first | refine CallK.intro (dc_impl_typeFault x.cond 2 g1) ?_ | refine CallK.intro (dc_impl_typeFault x.expr 1 g2) ?_ | refine CallK.intro (dc_impl_firstCode [_, _] (by simp)) ?_ | refine CallK.intro (dc_impl_firstCode [_, _, _] (by simp)) ?_ | refine CallK.intro (dc_impl_firstCode [_, _, _, _] (by simp)) ?_); simp -dsimp (maxSteps := 2000000) [go_sem, -decide_eq_true_eq, -decide_eq_false_iff_not, hx, hfc]) | omega | exact True.intro
         all_goals clear hk k
         refine rg [11,43,44,45,58] ?_
         intro k hk; simp -dsimp [go_sem, -decide_eq_true_eq, -decide_eq_false_iff_not, hx, hfc]
         repeat' first | apply And.intro | refine hk _ ?_ | intro hg | omega | exact True.intro
         all_goals clear hk k
         refine AW.cond rfl ?_ ?_
         ·intro hc; try simp at hc
          all_goals (
           refine rg [2] ?_
           intro k hk; simp -dsimp [go_sem, -decide_eq_true_eq, -decide_eq_false_iff_not, hx, hfc]
           repeat' first | apply And.intro | refine hk _ ?_ | intro hg | omega | exact True.intro
           all_goals clear hk k
           refine rt ?_
           first | (rw [procF_len (by simpa using hc)]; simp [go_sem, Tryz.results64]; done) | (rw [procF_ok hR h1 h2 h3]; simp [go_sem, Tryz.results64]; done) | (rw [procF_ty hR h1 h2 hlt hal3 (by first | assumption | simpa using hc)]; simp [go_sem, Tryz.results64]; done) | (rw [procF_shape hR h1 hlt hal2 (by first | assumption | simpa using hc)]; simp [go_sem, Tryz.results64]; done) | (rw [procF_one hR hlt hall (by rw [hxo]; first | assumption | simpa using hc), hxo]; simp [go_sem, Tryz.results64]))
         ·intro hc; try simp at hc
          all_goals (
           refine AW.skipN (fun _ h => h) ?_
           refine rgK ?_
           intro k hk; simp -dsimp [go_sem, -decide_eq_true_eq, -decide_eq_false_iff_not, hx, hfc]
           repeat' first | apply And.intro | refine hk _ ?_ | intro hg | omega | exact True.intro
           all_goals clear hk k
           show ∃ _, _
           have hw := wrapi hlt (by omega)
           refine ⟨i + 1, ⟨by omega, upto hal3 (by first | assumption | simpa using hc)⟩, by omega, Less.of rfl (by simp [go_sem, hw]) (by simp [go_sem])⟩))
       ·intro hc; try simp at hc
        all_goals (
         refine AW.exitN (fun _ h => h) ?_
         have h3 : ∀ k, k < p.length → tyF p k = 0 := fun k hk => hal3 k (by omega)
         refine rgA [2] ?_
         refine rt ?_
         first | (rw [procF_len (by simpa using hc)]; simp [go_sem, Tryz.results64]; done) | (rw [procF_ok hR h1 h2 h3]; simp [go_sem, Tryz.results64]; done) | (rw [procF_ty hR h1 h2 hlt hal3 (by first | assumption | simpa using hc)]; simp [go_sem, Tryz.results64]; done) | (rw [procF_shape hR h1 hlt hal2 (by first | assumption | simpa using hc)]; simp [go_sem, Tryz.results64]; done) | (rw [procF_one hR hlt hall (by rw [hxo]; first | assumption | simpa using hc), hxo]; simp [go_sem, Tryz.results64])))))
end Go.AM
namespace Go.AM
open Go.Proofs
theorem dc_impl_isTime (n : Int) : DC Tryz.prog 65 [.int .i64 n] (.bool (inR n 0 1000000)) [] := by
 refine DC.intro tiOk Tryz.func65 rfl rfl rfl rfl rfl rfl rfl rfl [] ?_
 refine rgA [0] ?_
 refine rg [2] ?_
 intro k hk; simp -dsimp (maxSteps := 2000000) [go_sem, -decide_eq_true_eq, -decide_eq_false_iff_not]
 repeat' first | apply And.intro | refine hk _ ?_ | intro hg | (refine CallK.intro (dc_impl_inRange _ _ _) ?_; simp -dsimp (maxSteps := 2000000) [go_sem, -decide_eq_true_eq, -decide_eq_false_iff_not]) | omega | exact True.intro
 all_goals clear hk k
 refine rt ?_
 simp [go_sem, Tryz.results65]
theorem dc_spec_l8Time (n : Int) : DC Tryz.prog 49 [.int .i64 n] (.bool (inR n 0 1000000)) [] := by
 refine DC.intro tiOk Tryz.func49 rfl rfl rfl rfl rfl rfl rfl rfl [] ?_
 refine rgA [0] ?_
 refine rg [2] ?_
 intro k hk; simp -dsimp (maxSteps := 2000000) [go_sem, -decide_eq_true_eq, -decide_eq_false_iff_not]
 repeat' first | apply And.intro | refine hk _ ?_ | intro hg | (refine CallK.intro (dc_spec_l1In _ _ _) ?_; simp -dsimp (maxSteps := 2000000) [go_sem, -decide_eq_true_eq, -decide_eq_false_iff_not]) | omega | exact True.intro
 all_goals clear hk k
 refine rt ?_
 simp [go_sem, Tryz.results49]
theorem dc_slices_IndexFunc_int64_int64_c (f : Nat) (m : Int) (p : Int → Bool) (l : List Int) (hf : ∀ x ∈ l, DC Tryz.prog f [.int .i64 x, .ip [.int .i64 m]] (.bool (p x)) []) (hl : l.length ≤ 9223372036854775807) : DC Tryz.prog 93 [.isl 1 (l.map I1), .fn f [.ip [.int .i64 m]]] (.int .i64 (idxF p l 0)) [] := by
 refine DC.intro tiOk Tryz.func93 rfl rfl rfl rfl rfl rfl rfl rfl [] ?_
 refine rgA [0,1] ?_
 refine AW.seq ?_
 refine rgA [0,1,7,8] ?_
 refine AW.block ?_
 refine AW.loopI (fun i : Nat => ⟨19, [(0, .isl 1 (l.map I1)), (1, .fn f [.ip [.int .i64 m]]), (7, .int .i64 l.length), (8, .int .i64 i)], []⟩) (fun i => i ≤ l.length ∧ idxF p l 0 = idxF p (l.drop i) i) (fun i => l.length - i) (0) (by simp) (Less.of rfl (by simp [go_sem]) (by simp [go_sem])) ?_
 rintro i ⟨hi, hinv⟩
 refine rgA [0,1,7,8,9] ?_
 refine AW.seq ?_
 refine AW.cond rfl ?_ ?_
 ·intro hc; try simp at hc
  all_goals (
   have hlt : i < l.length := by assumption
   obtain ⟨x, hx⟩ := at_some hlt
   refine AW.skipN (fun _ h => h) ?_
   refine AW.seq ?_
   refine AW.block ?_
   refine rg [0,1,5,7,8] ?_
   intro k hk; simp -dsimp [go_sem, -decide_eq_true_eq, -decide_eq_false_iff_not, hx]
   repeat' first | apply And.intro | refine hk _ ?_ | intro hg | omega | exact True.intro
   all_goals clear hk k
   refine rg [0,1,5,7,8,16] ?_
   intro k hk; simp -dsimp (maxSteps := 2000000) [go_sem, -decide_eq_true_eq, -decide_eq_false_iff_not, hx]
   repeat' first | apply And.intro | refine hk _ ?_ | intro hg | (refine CallK.intro (hf x (List.mem_of_getElem? hx)) ?_; simp -dsimp (maxSteps := 2000000) [go_sem, -decide_eq_true_eq, -decide_eq_false_iff_not, hx]) | omega | exact True.intro
   all_goals clear hk k
   refine AW.cond rfl ?_ ?_
   ·intro hc; try simp at hc
    all_goals (
     refine rg [4] ?_
     intro k hk; simp -dsimp [go_sem, -decide_eq_true_eq, -decide_eq_false_iff_not, hx]
     repeat' first | apply And.intro | refine hk _ ?_ | intro hg | omega | exact True.intro
     all_goals clear hk k
     refine rt ?_
     first | (rw [hinv, idxF_step hx, if_pos (by assumption)]; simp [go_sem, Tryz.results93]; done) | (rw [hinv, idxF_end (by omega)]; simp [go_sem, Tryz.results93]))
   ·intro hc; try simp at hc
    all_goals (
     refine AW.skipN (fun _ h => h) ?_
     refine rgK ?_
     intro k hk; simp -dsimp [go_sem, -decide_eq_true_eq, -decide_eq_false_iff_not, hx]
     repeat' first | apply And.intro | refine hk _ ?_ | intro hg | omega | exact True.intro
     all_goals clear hk k
     show ∃ _, _
     have hw := wrapi hlt hl
     refine ⟨i + 1, ⟨by omega, ?_⟩, by omega, Less.of rfl (by simp [go_sem, hw]) (by simp [go_sem])⟩
     rw [hinv, idxF_step hx, if_neg (by simp [*])]))
 ·intro hc; try simp at hc
  all_goals (
   refine AW.exitN (fun _ h => h) ?_
   refine rgA [4] ?_
   refine rt ?_
   first | (rw [hinv, idxF_step hx, if_pos (by assumption)]; simp [go_sem, Tryz.results93]; done) | (rw [hinv, idxF_end (by omega)]; simp [go_sem, Tryz.results93]))
theorem dc_slices_ContainsFunc_int64_int64_c (f : Nat) (m : Int) (p : Int → Bool) (l : List Int) (hf : ∀ x ∈ l, DC Tryz.prog f [.int .i64 x, .ip [.int .i64 m]] (.bool (p x)) []) (hl : l.length ≤ 9223372036854775807) : DC Tryz.prog 70 [.isl 1 (l.map I1), .fn f [.ip [.int .i64 m]]] (.bool (l.any p)) [] := by
 refine DC.intro tiOk Tryz.func70 rfl rfl rfl rfl rfl rfl rfl rfl [] ?_
 refine rgA [0,1] ?_
 refine rg [4] ?_
 intro k hk; simp -dsimp (maxSteps := 2000000) [go_sem, -decide_eq_true_eq, -decide_eq_false_iff_not]
 repeat' first | apply And.intro | refine hk _ ?_ | intro hg | (refine CallK.intro (dc_slices_IndexFunc_int64_int64_c f m p l hf hl) ?_; simp -dsimp (maxSteps := 2000000) [go_sem, -decide_eq_true_eq, -decide_eq_false_iff_not]) | omega | exact True.intro
 all_goals clear hk k
 refine rt ?_
 rw [← idxF_any l 0]; simp [go_sem, Tryz.results70]
theorem dc_impl_areSmall_1 (n m : Int) : DC Tryz.prog 91 [.int .i64 n, .ip [.int .i64 m]] (.bool (!inR n 0 m)) [] := by
 refine DC.intro tiOk Tryz.func91 rfl rfl rfl rfl rfl rfl rfl rfl [] ?_
 refine rgA [0,1] ?_
 refine rg [3] ?_
 intro k hk; simp -dsimp (maxSteps := 2000000) [go_sem, -decide_eq_true_eq, -decide_eq_false_iff_not]
 repeat' first | apply And.intro | refine hk _ ?_ | intro hg | (refine CallK.intro (dc_impl_inRange _ _ _) ?_; simp -dsimp (maxSteps := 2000000) [go_sem, -decide_eq_true_eq, -decide_eq_false_iff_not]) | omega | exact True.intro
 all_goals clear hk k
 refine rt ?_
 simp [go_sem, Tryz.results91]
theorem dc_impl_areSmall (l : List Int) (m : Int) (hl : l.length ≤ 9223372036854775807) : DC Tryz.prog 66 [.isl 1 (l.map I1), .int .i64 m] (.bool (smallB l m)) [] := by
 refine DC.intro tiOk Tryz.func66 rfl rfl rfl rfl rfl rfl rfl rfl [] ?_
 refine rgA [0,3] ?_
 refine rg [4] ?_
 intro k hk; simp -dsimp (maxSteps := 2000000) [go_sem, -decide_eq_true_eq, -decide_eq_false_iff_not]
 repeat' first | apply And.intro | refine hk _ ?_ | intro hg | (refine CallK.intro (dc_slices_ContainsFunc_int64_int64_c 91 m (fun n => !inR n 0 m) l (fun x _ => dc_impl_areSmall_1 x m) hl) ?_; simp -dsimp (maxSteps := 2000000) [go_sem, -decide_eq_true_eq, -decide_eq_false_iff_not]) | omega | exact True.intro
 all_goals clear hk k
 refine rt ?_
 rw [← smallB_any]; simp [go_sem, Tryz.results66]
theorem dc_impl_board_count (p : List TStep) (c : TChart) (l : List Int) (a : Int) (hl : l.length ≤ 24) (hb : ∀ k ∈ l, 0 ≤ k ∧ k.toNat < c.acts.length) : DC Tryz.prog 116 [.ip [.isl 6 (p.map TStep.ro), .int .i64 c.status, .int .i64 c.now, .isl 1 (c.vars.map I1), .isl 1 (c.acts.map I1), .isl 1 (c.dues.map I1)], .isl 1 (l.map I1), .int .i64 a] (.int .i64 (cnt c a l)) [] := by
 refine DC.intro tiOk Tryz.func116 rfl rfl rfl rfl rfl rfl rfl rfl [] ?_
 refine rgA [0,1,2] ?_
 refine rgA [0,1,2,7] ?_
 refine AW.seq ?_
 refine rgA [0,2,7,10,11,12] ?_
 refine AW.block ?_
 refine AW.loopI (fun i : Nat => ⟨30, [(0, .ip [.isl 6 (p.map TStep.ro), .int .i64 c.status, .int .i64 c.now, .isl 1 (c.vars.map I1), .isl 1 (c.acts.map I1), .isl 1 (c.dues.map I1)]), (2, .int .i64 a), (7, .int .i64 (cnt c a (l.take i))), (10, .isl 1 (l.map I1)), (11, .int .i64 l.length), (12, .int .i64 i)], []⟩) (fun i => i ≤ l.length) (fun i => l.length - i) (0) (by simp) (Less.of rfl (by simp [go_sem, cnt]) (by simp [go_sem])) ?_
 rintro i hi
 refine rgA [0,2,7,10,11,12,13] ?_
 refine AW.seq ?_
 refine AW.cond rfl ?_ ?_
 ·intro hc; try simp at hc
  all_goals (
   have hlt : i < l.length := by assumption
   obtain ⟨x, hx⟩ := at_some hlt
   obtain ⟨hx0, hx1⟩ := hb x (List.mem_of_getElem? hx)
   have hxa := actA_at hx1
   have hcs := cnt_step (c := c) (a := a) hx
   have hcl := cnt_le c a (l.take i)
   have hcl2 : (l.take i).length ≤ 24 := by rw [List.length_take]; omega
   have hwc : IntKind.wrap .i64 (cnt c a (l.take i) + 1) = cnt c a (l.take i) + 1 := wrap64 (by omega) (by omega)
   refine AW.skipN (fun _ h => h) ?_
   refine AW.seq ?_
   refine AW.block ?_
   refine rg [0,2,7,9,10,11,12] ?_
   intro k hk; simp -dsimp [go_sem, -decide_eq_true_eq, -decide_eq_false_iff_not, hx, hxa, hwc]
   repeat' first | apply And.intro | refine hk _ ?_ | intro hg | omega | exact True.intro
   all_goals clear hk k
   refine rg [0,2,7,10,11,12,25] ?_
   intro k hk; simp -dsimp (maxSteps := 2000000) [go_sem, -decide_eq_true_eq, -decide_eq_false_iff_not, hx, hxa, hwc]
   repeat' first | apply And.intro | refine hk _ ?_ | intro hg | omega | exact True.intro
   all_goals clear hk k
   refine AW.cond rfl ?_ ?_
   ·intro hc; try simp at hc
    all_goals (
     refine rgN [0,2,7,10,11,12] (fun _ h => h) ?_
     intro k hk; simp -dsimp [go_sem, -decide_eq_true_eq, -decide_eq_false_iff_not, hx, hxa, hwc]
     repeat' first | apply And.intro | refine hk _ ?_ | intro hg | omega | exact True.intro
     all_goals clear hk k
     refine rgK ?_
     intro k hk; simp -dsimp [go_sem, -decide_eq_true_eq, -decide_eq_false_iff_not, hx, hxa, hwc]
     repeat' first | apply And.intro | refine hk _ ?_ | intro hg | omega | exact True.intro
     all_goals clear hk k
     show ∃ _, _
     have hw := wrapi hlt (by omega)
     have hc2 := hc
     refine ⟨i + 1, by omega, by omega, Less.of rfl (by simp [go_sem, hw, hcs, hc2]) (by simp [go_sem])⟩)
   ·intro hc; try simp at hc
    all_goals (
     refine AW.skipN (fun _ h => h) ?_
     refine rgK ?_
     intro k hk; simp -dsimp [go_sem, -decide_eq_true_eq, -decide_eq_false_iff_not, hx, hxa, hwc]
     repeat' first | apply And.intro | refine hk _ ?_ | intro hg | omega | exact True.intro
     all_goals clear hk k
     show ∃ _, _
     have hw := wrapi hlt (by omega)
     have hc2 := hc
     refine ⟨i + 1, by omega, by omega, Less.of rfl (by simp [go_sem, hw, hcs, hc2]) (by simp [go_sem])⟩))
 ·intro hc; try simp at hc
  all_goals (
   refine AW.exitN (fun _ h => h) ?_
   refine rgA [6] ?_
   refine rt ?_
   rw [List.take_of_length_le (show l.length ≤ i by omega)]; simp [go_sem, Tryz.results116])
end Go.AM
namespace Go.AM
open Go.Proofs
theorem dc_slices_IndexFunc_int64_int64_g (f : Nat) (cs : List AV) (p : Int → Bool) (l : List Int) (hf : ∀ x ∈ l, DC Tryz.prog f [.int .i64 x, .ip cs] (.bool (p x)) []) (hl : l.length ≤ 9223372036854775807) : DC Tryz.prog 93 [.isl 1 (l.map I1), .fn f [.ip cs]] (.int .i64 (idxF p l 0)) [] := by
 refine DC.intro tiOk Tryz.func93 rfl rfl rfl rfl rfl rfl rfl rfl [] ?_
 refine rgA [0,1] ?_
 refine AW.seq ?_
 refine rgA [0,1,7,8] ?_
 refine AW.block ?_
 refine AW.loopI (fun i : Nat => ⟨19, [(0, .isl 1 (l.map I1)), (1, .fn f [.ip cs]), (7, .int .i64 l.length), (8, .int .i64 i)], []⟩) (fun i => i ≤ l.length ∧ idxF p l 0 = idxF p (l.drop i) i) (fun i => l.length - i) (0) (by simp) (Less.of rfl (by simp [go_sem]) (by simp [go_sem])) ?_
 rintro i ⟨hi, hinv⟩
 refine rgA [0,1,7,8,9] ?_
 refine AW.seq ?_
 refine AW.cond rfl ?_ ?_
 ·intro hc; try simp at hc
  all_goals (
   have hlt : i < l.length := by assumption
   obtain ⟨x, hx⟩ := at_some hlt
   refine AW.skipN (fun _ h => h) ?_
   refine AW.seq ?_
   refine AW.block ?_
   refine rg [0,1,5,7,8] ?_
   intro k hk; simp -dsimp [go_sem, -decide_eq_true_eq, -decide_eq_false_iff_not, hx]
   repeat' first | apply And.intro | refine hk _ ?_ | intro hg | omega | exact True.intro
   all_goals clear hk k
   refine rg [0,1,5,7,8,16] ?_
   intro k hk; simp -dsimp (maxSteps := 2000000) [go_sem, -decide_eq_true_eq, -decide_eq_false_iff_not, hx]
   repeat' first | apply And.intro | refine hk _ ?_ | intro hg | (refine CallK.intro (hf x (List.mem_of_getElem? hx)) ?_; simp -dsimp (maxSteps := 2000000) [go_sem, -decide_eq_true_eq, -decide_eq_false_iff_not, hx]) | omega | exact True.intro
   all_goals clear hk k
   refine AW.cond rfl ?_ ?_
   ·intro hc; try simp at hc
    all_goals (
     refine rg [4] ?_
     intro k hk; simp -dsimp [go_sem, -decide_eq_true_eq, -decide_eq_false_iff_not, hx]
     repeat' first | apply And.intro | refine hk _ ?_ | intro hg | omega | exact True.intro
     all_goals clear hk k
     refine rt ?_
     first | (rw [hinv, idxF_step hx, if_pos (by assumption)]; simp [go_sem, Tryz.results93]; done) | (rw [hinv, idxF_end (by omega)]; simp [go_sem, Tryz.results93]))
   ·intro hc; try simp at hc
    all_goals (
     refine AW.skipN (fun _ h => h) ?_
     refine rgK ?_
     intro k hk; simp -dsimp [go_sem, -decide_eq_true_eq, -decide_eq_false_iff_not, hx]
     repeat' first | apply And.intro | refine hk _ ?_ | intro hg | omega | exact True.intro
     all_goals clear hk k
     show ∃ _, _
     have hw := wrapi hlt hl
     refine ⟨i + 1, ⟨by omega, ?_⟩, by omega, Less.of rfl (by simp [go_sem, hw]) (by simp [go_sem])⟩
     rw [hinv, idxF_step hx, if_neg (by simp [*])]))
 ·intro hc; try simp at hc
  all_goals (
   refine AW.exitN (fun _ h => h) ?_
   refine rgA [4] ?_
   refine rt ?_
   first | (rw [hinv, idxF_step hx, if_pos (by assumption)]; simp [go_sem, Tryz.results93]; done) | (rw [hinv, idxF_end (by omega)]; simp [go_sem, Tryz.results93]))
theorem dc_slices_ContainsFunc_int64_int64_g (f : Nat) (cs : List AV) (p : Int → Bool) (l : List Int) (hf : ∀ x ∈ l, DC Tryz.prog f [.int .i64 x, .ip cs] (.bool (p x)) []) (hl : l.length ≤ 9223372036854775807) : DC Tryz.prog 70 [.isl 1 (l.map I1), .fn f [.ip cs]] (.bool (l.any p)) [] := by
 refine DC.intro tiOk Tryz.func70 rfl rfl rfl rfl rfl rfl rfl rfl [] ?_
 refine rgA [0,1] ?_
 refine rg [4] ?_
 intro k hk; simp -dsimp (maxSteps := 2000000) [go_sem, -decide_eq_true_eq, -decide_eq_false_iff_not]
 repeat' first | apply And.intro | refine hk _ ?_ | intro hg | (refine CallK.intro (dc_slices_IndexFunc_int64_int64_g f cs p l hf hl) ?_; simp -dsimp (maxSteps := 2000000) [go_sem, -decide_eq_true_eq, -decide_eq_false_iff_not]) | omega | exact True.intro
 all_goals clear hk k
 refine rt ?_
 rw [← idxF_any l 0]; simp [go_sem, Tryz.results70]
end Go.AM
namespace Go.AM
open Go.Proofs
theorem dc_impl_board_idle (p : List TStep) (hp : p.length ≤ 24) (hl : PreOk (pars p)) (a : Nat) (ha : a < p.length) (c : TChart) (hw : WfC p c) : DC Tryz.prog 53 [.op (brow p c), .int .i64 (a : Nat)] (.tup []) [(0, .op (brow p (idleF p a c)))] := by
 have hul := undL_len p a p.length
 refine DC.intro tiOk Tryz.func53 rfl rfl rfl rfl rfl rfl rfl (by simp [noW, noWo]) [] ?_
 refine rg [0,11,12,13] ?_
 intro k hk; simp -dsimp (maxSteps := 2000000) [go_sem, -decide_eq_true_eq, -decide_eq_false_iff_not]
 repeat' first | apply And.intro | refine hk _ ?_ | intro hg | (refine CallK.intro (dc_impl_under p hp hl a ha) ?_; simp -dsimp (maxSteps := 2000000) [go_sem, -decide_eq_true_eq, -decide_eq_false_iff_not]) | omega | exact True.intro
 all_goals clear hk k
 refine AW.block ?_
 refine AW.loopI (fun i : Nat => ⟨32, [(0, .ptr 1900 6 0 0), (11, .sl 1011 1 0 (undL p a p.length).length), (12, .int .i64 (undL p a p.length).length), (13, .int .i64 (i : Nat))], [(1011, some ⟨1, (undL p a p.length).map I1⟩), (1900, some ⟨6, [brow p (idleN c (undL p a p.length) i)]⟩)]⟩) (fun i => i ≤ (undL p a p.length).length) (fun i => (undL p a p.length).length - i) (0) (Nat.zero_le _) (Less.of rfl (by simp [go_sem]) (by simp [go_sem, idleN_zero])) ?_
 rintro i hi
 refine rgA [0,11,12,13,14] ?_
 refine AW.seq ?_
 refine AW.cond rfl ?_ ?_
 ·intro hc; try simp at hc
  all_goals (
   have hlt : i < (undL p a p.length).length := by first | assumption | omega
   obtain ⟨x, hx⟩ := at_some hlt
   have hxb := undL_mem (List.mem_of_getElem? hx)
   have hst := idleN_step (c := c) hx
   have hwi := idleN_wf hw (undL p a p.length) i
   have hac := hwi.acts
   have hdc := hwi.dues
   have hx3 : ∀ h, (undL p a p.length)[i]'h = x := fun h => by have h9 := hx; rw [List.getElem?_eq_getElem h] at h9; exact Option.some.inj h9
   refine AW.skipN (fun _ h => h) ?_
   refine AW.seq ?_
   refine AW.block ?_
   refine rg [0,5,11,12,13] ?_
   intro k hk; simp -dsimp [go_sem, -decide_eq_true_eq, -decide_eq_false_iff_not, hx, hx3, hxb.1, hxb.2, hac, hdc]
   repeat' first | apply And.intro | refine hk _ ?_ | intro hg | omega | exact True.intro
   all_goals clear hk k
   refine AW.thaw (nd := ?nd_1) (c := ?c_1) (l := ?l_1) (es := ?es_1) 1900 0 4 7001 ?h1_1 ?h2_1 ?h3_1 ?h45_1 ?kk_1
   (case h1_1 => exact rfl)
   (case h2_1 => exact rfl)
   (case h3_1 => exact rfl)
   (case h45_1 => simp [go_sem])
   refine AW.thaw (nd := ?nd_2) (c := ?c_2) (l := ?l_2) (es := ?es_2) 1900 0 5 7002 ?h1_2 ?h2_2 ?h3_2 ?h45_2 ?kk_2
   (case h1_2 => exact rfl)
   (case h2_2 => exact rfl)
   (case h3_2 => exact rfl)
   (case h45_2 => simp [go_sem])
   refine rgN [0,11,12,13] (fun _ h => h) ?_
   intro k hk; simp -dsimp (maxSteps := 2000000) [go_sem, -decide_eq_true_eq, -decide_eq_false_iff_not, hx, hx3, hxb.1, hxb.2, hac, hdc]
   repeat' first | (refine Chk.keys ?_; simp only [go_sem, List.map_cons, List.map_nil, List.flatMap_cons, List.flatMap_nil, List.flatMap_append, List.append_nil, List.nil_append, List.cons_append]; decide +kernel) | apply And.intro | refine hk _ ?_ | intro hg | omega | exact True.intro
   all_goals clear hk k
   refine AW.fold (nd := ?nd_3) (c := ?c_3) (l := ?l_3) (es := ?es_3) (n := ?n_3) 1900 0 4 7001 ?h1_3 ?h2_3 ?h4_3 ?h3_3 ?hn_3 (by decide) ?h6_3 ?kk_3
   (case h1_3 => exact rfl)
   (case h2_3 => exact rfl)
   (case h4_3 => exact rfl)
   (case h3_3 => exact rfl)
   (case hn_3 => simp [hac, hdc])
   (case h6_3 => simp [go_sem, hac, hdc])
   refine AW.fold (nd := ?nd_4) (c := ?c_4) (l := ?l_4) (es := ?es_4) (n := ?n_4) 1900 0 5 7002 ?h1_4 ?h2_4 ?h4_4 ?h3_4 ?hn_4 (by decide) ?h6_4 ?kk_4
   (case h1_4 => exact rfl)
   (case h2_4 => exact rfl)
   (case h4_4 => exact rfl)
   (case h3_4 => exact rfl)
   (case hn_4 => simp [hac, hdc])
   (case h6_4 => simp [go_sem, hac, hdc])
   refine rgK ?_
   intro k hk; simp -dsimp [go_sem, -decide_eq_true_eq, -decide_eq_false_iff_not, hx, hx3, hxb.1, hxb.2, hac, hdc]
   repeat' first | apply And.intro | refine hk _ ?_ | intro hg | omega | exact True.intro
   all_goals clear hk k
   show ∃ _, _
   have hww := wrapi hlt (by omega)
   refine ⟨i + 1, by omega, by omega, Less.of rfl (by simp [go_sem, hww]) (by rw [hst]; simp [go_sem, List.map_set])⟩)
 ·intro hc; try simp at hc
  all_goals (
   refine AW.exit ?_
   refine And.intro (.inl rfl) ?_
   rw [← idleN_end (c := c) (show (undL p a p.length).length ≤ i by omega)]; simp [go_sem, Tryz.results53])
end Go.AM
namespace Go.AM
open Go.Proofs
set_option maxHeartbeats 8000000 in
theorem dc_impl_board_over (p : List TStep) (hP : ProcOk p) (f : Nat) (hE : ∀ (k : Int) (c : TChart), 0 ≤ k → k.toNat < p.length → WfC p c → mE (pars p) k.toNat ≤ f → DC Tryz.prog 54 [.op (brow p c), .int .i64 k] (.tup []) [(0, .op (brow p (goF p f true k.toNat c)))]) (hO : ∀ (k : Int) (c : TChart), 0 ≤ k → k.toNat < p.length → WfC p c → mO (pars p) k.toNat ≤ f → DC Tryz.prog 39 [.op (brow p c), .int .i64 k] (.tup []) [(0, .op (brow p (goF p f false k.toNat c)))]) (a : Nat) (ha : a < p.length) (c : TChart) (hw : WfC p c) (hm : mO (pars p) a ≤ f + 1) : DC Tryz.prog 39 [.op (brow p c), .int .i64 (a : Nat)] (.tup []) [(0, .op (brow p (goF p (f + 1) false a c)))] := by
 have hp := hP.len.2
 have hpl := pars_len p
 obtain ⟨x, hx⟩ := at_some ha
 have hxn := nS_at hx
 have hx3 : ∀ h, p[a]'h = x := fun h => by have h9 := hx; rw [List.getElem?_eq_getElem h] at h9; exact Option.some.inj h9
 have hwi := hw.idle a
 have hac := hwi.acts
 have hdc := hwi.dues
 refine DC.introG tiOk Tryz.func39 rfl rfl rfl rfl rfl rfl rfl (by simp [noW, noWo]) [] ?_
 refine rg [0,1,2] ?_
 intro k hk; simp -dsimp [go_sem, -decide_eq_true_eq, -decide_eq_false_iff_not, -List.map_set, set_I1, set_I1b, hac, hdc, hx, hx3]
 repeat' first | apply And.intro | refine hk _ ?_ | intro hg | omega | exact True.intro
 all_goals clear hk k
 refine AW.reg tiOk (fun _ => [0]) [0,1,2] ?_
 intro k hk; simp -dsimp (maxSteps := 2000000) [go_sem, -decide_eq_true_eq, -decide_eq_false_iff_not, -List.map_set, set_I1, set_I1b, hac, hdc, hx, hx3]
 repeat' first | apply And.intro | refine hk _ ?_ | intro hg | (refine CallK.intro (dc_impl_board_idle p hp hP.pre a ha c hw) ?_; simp -dsimp (maxSteps := 2000000) [go_sem, -decide_eq_true_eq, -decide_eq_false_iff_not, -List.map_set, set_I1, set_I1b, hac, hdc, hx, hx3]) | omega | exact True.intro
 all_goals clear hk k
 refine AW.seq ?_
 refine rg [0,1,2,11] ?_
 intro k hk; simp -dsimp [go_sem, -decide_eq_true_eq, -decide_eq_false_iff_not, -List.map_set, set_I1, set_I1b, hac, hdc, hx, hx3]
 repeat' first | apply And.intro | refine hk _ ?_ | intro hg | omega | exact True.intro
 all_goals clear hk k
 refine AW.cond rfl ?_ ?_
 ·intro hc; try simp [-List.length_eq_zero_iff] at hc
  all_goals try (exfalso; first | omega | contradiction; done)
  all_goals (
   refine AW.reg tiOk (fun _ => [0]) [0] ?_
   intro k hk; simp -dsimp (maxSteps := 2000000) [go_sem, -decide_eq_true_eq, -decide_eq_false_iff_not, -List.map_set, set_I1, set_I1b, hac, hdc, hx, hx3]
   repeat' first | apply And.intro | refine hk _ ?_ | intro hg | (refine CallK.intro (dc_impl_board_stop p hp (idleF p a c) 2) ?_; simp -dsimp (maxSteps := 2000000) [go_sem, -decide_eq_true_eq, -decide_eq_false_iff_not, -List.map_set, set_I1, set_I1b, hac, hdc, hx, hx3]) | omega | exact True.intro
   all_goals clear hk k
   refine AW.ret ⟨.inr rfl, ?_⟩
   refine Gh.done ?_
   first | (obtain rfl : a = 0 := (by omega); rw [ov_top]; simp [go_sem, Tryz.results39]; done) | (rw [ov_next h0 (by rw [hnq]; exact hk1) (by rw [hsb]; exact hub.1), hsb]; simp [go_sem, Tryz.results39]; done) | (have hsl := kids_last hj (by omega); rw [ov_seq h0 (by rw [hnq]; exact hk1) (by rw [hsl]; omega), hxn, hq]; simp [go_sem, Tryz.results39]; done) | (have h9 := ov_and (p := p) (f := f) (c := c) h0 (by rw [hnq]; exact hk4); rw [hxn, hq, Int.toNat_natCast] at h9; rw [← any_not_all] at h9; first | (rw [if_neg (by simpa using hc)] at h9; rw [h9]; simp [go_sem, Tryz.results39, setA, -List.map_set, set_I1, set_I1b]; done) | (rw [if_pos (by simpa using hc)] at h9; rw [h9]; simp [go_sem, Tryz.results39]; done)) | (rw [ov_rest h0 (by rw [hnq]; exact n1) (by rw [hnq]; simpa using hc), hxn, hq]; simp [go_sem, Tryz.results39]; done))
 ·intro hc; try simp [-List.length_eq_zero_iff] at hc
  all_goals try (exfalso; first | omega | contradiction; done)
  all_goals (
   refine AW.skipN (fun _ h => h) ?_
   have h0 : a ≠ 0 := by first | omega | (intro e; simp [e] at hc)
   have hpr := hP.parI (by omega) ha
   rw [hxn] at hpr
   obtain ⟨q, hq⟩ : ∃ q : Nat, x.par = q := ⟨_, (Int.toNat_of_nonneg hpr.1).symm⟩
   obtain ⟨y, hy⟩ := at_some (l := p) (i := q) (by omega)
   have hyn := nS_at hy
   have hy3 : ∀ h, p[q]'h = y := fun h => by have h9 := hy; rw [List.getElem?_eq_getElem h] at h9; exact Option.some.inj h9
   have hpq : (pars p).getD a 0 = (q : Int) := by rw [pars_get ha, hxn, hq]
   have hmq := mO_up hP.pre (by omega) hpq
   have hnq : nS p (nS p a).par.toNat = y := by rw [hxn, hq, Int.toNat_natCast]; exact hyn
   have hkl := kids_len p (q : Int)
   obtain ⟨j, hj⟩ := kids_has (p := p) (a := (q : Int)) (by omega) ha hpq
   have hjl := at_lt hj
   refine rg [0,1,2,4] ?_
   intro k hk; simp -dsimp (maxSteps := 2000000) [go_sem, -decide_eq_true_eq, -decide_eq_false_iff_not, -List.map_set, set_I1, set_I1b, hac, hdc, hx, hx3, hq]
   repeat' first | apply And.intro | refine hk _ ?_ | intro hg | omega | exact True.intro
   all_goals clear hk k
   refine rg [0,1,2,4,5] ?_
   intro k hk; simp -dsimp (maxSteps := 2000000) [go_sem, -decide_eq_true_eq, -decide_eq_false_iff_not, -List.map_set, set_I1, set_I1b, hac, hdc, hx, hx3, hq]
   repeat' first | apply And.intro | refine hk _ ?_ | intro hg | (refine CallK.intro (dc_impl_kids p (q : Int) hp) ?_; simp -dsimp (maxSteps := 2000000) [go_sem, -decide_eq_true_eq, -decide_eq_false_iff_not, -List.map_set, set_I1, set_I1b, hac, hdc, hx, hx3, hq]) | omega | exact True.intro
   all_goals clear hk k
   refine AW.seq ?_
   refine rg [0,1,2,4,5,35] ?_
   intro k hk; simp -dsimp (maxSteps := 2000000) [go_sem, -decide_eq_true_eq, -decide_eq_false_iff_not, -List.map_set, set_I1, set_I1b, hac, hdc, hx, hx3, hy, hy3, hq]
   repeat' first | apply And.intro | refine hk _ ?_ | intro hg | omega | exact True.intro
   all_goals clear hk k
   refine AW.block ?_
   refine rg [0,1,2,4,5,35,36] ?_
   intro k hk; simp -dsimp [go_sem, -decide_eq_true_eq, -decide_eq_false_iff_not, -List.map_set, set_I1, set_I1b, hac, hdc, hx, hx3]
   repeat' first | apply And.intro | refine hk _ ?_ | intro hg | omega | exact True.intro
   all_goals clear hk k
   refine AW.cond rfl ?_ ?_
   ·intro hc; try simp [-List.length_eq_zero_iff] at hc
    all_goals try (exfalso; first | omega | contradiction; done)
    all_goals (
     have hk1 : y.kind = 1 := by simpa using hc
     have hwj : IntKind.wrap .i64 ((j : Int) + 1) = (j : Int) + 1 := wrap64 (by omega) (by omega)
     refine rg [0,2,4,5,6] ?_
     intro k hk; simp -dsimp (maxSteps := 2000000) [go_sem, -decide_eq_true_eq, -decide_eq_false_iff_not, -List.map_set, set_I1, set_I1b, hac, hdc, hx, hx3, hwj]
     repeat' first | apply And.intro | refine hk _ ?_ | intro hg | (refine CallK.intro (dc_IndexI (kids p (q : Int)) j (a : Int) (by omega) hj (fun k v hk hv => by have := kids_lt hk hv hj; omega)) ?_; simp -dsimp (maxSteps := 2000000) [go_sem, -decide_eq_true_eq, -decide_eq_false_iff_not, -List.map_set, set_I1, set_I1b, hac, hdc, hx, hx3, hwj]) | omega | exact True.intro
     all_goals clear hk k
     refine rg [0,2,4,5,6,45] ?_
     intro k hk; simp -dsimp [go_sem, -decide_eq_true_eq, -decide_eq_false_iff_not, -List.map_set, set_I1, set_I1b, hac, hdc, hx, hx3, hwj]
     repeat' first | apply And.intro | refine hk _ ?_ | intro hg | omega | exact True.intro
     all_goals clear hk k
     refine AW.cond rfl ?_ ?_
     ·intro hc; try simp [-List.length_eq_zero_iff] at hc
      all_goals try (exfalso; first | omega | contradiction; done)
      all_goals (
       obtain ⟨u, hu⟩ := at_some (l := (kids p (q : Int))) (i := j + 1) (by omega)
       have hub := kids_bd (List.mem_of_getElem? hu)
       have hsb := kids_next hj hu
       have hu3 : ∀ h, (kids p (q : Int))[j + 1]'h = u := fun h => by have h9 := hu; rw [List.getElem?_eq_getElem h] at h9; exact Option.some.inj h9
       have hj1 : ((j : Int) + 1).toNat = j + 1 := by omega
       refine AW.reg tiOk (fun _ => [0]) [0] ?_
       intro k hk; simp -dsimp (maxSteps := 2000000) [go_sem, -decide_eq_true_eq, -decide_eq_false_iff_not, -List.map_set, set_I1, set_I1b, hac, hdc, hx, hx3, hu, hu3, hj1]
       repeat' first | (refine Chk.keys ?_; simp only [go_sem, List.map_cons, List.map_nil, List.flatMap_cons, List.flatMap_nil, List.flatMap_append, List.append_nil, List.nil_append, List.cons_append]; decide +kernel) | apply And.intro | refine hk _ ?_ | intro hg | (refine CallK.intro (hE u (idleF p a c) hub.1 hub.2 hwi (by have h7 := mO_next (l := pars p) (a := a) (s := u.toNat) (by rw [hsb, Int.toNat_of_nonneg hub.1]); omega)) ?_; simp -dsimp (maxSteps := 2000000) [go_sem, -decide_eq_true_eq, -decide_eq_false_iff_not, -List.map_set, set_I1, set_I1b, hac, hdc, hx, hx3, hu, hu3, hj1]) | omega | exact True.intro
       all_goals clear hk k
       refine AW.ret ⟨.inr rfl, ?_⟩
       refine Gh.done ?_
       first | (obtain rfl : a = 0 := (by omega); rw [ov_top]; simp [go_sem, Tryz.results39]; done) | (rw [ov_next h0 (by rw [hnq]; exact hk1) (by rw [hsb]; exact hub.1), hsb]; simp [go_sem, Tryz.results39]; done) | (have hsl := kids_last hj (by omega); rw [ov_seq h0 (by rw [hnq]; exact hk1) (by rw [hsl]; omega), hxn, hq]; simp [go_sem, Tryz.results39]; done) | (have h9 := ov_and (p := p) (f := f) (c := c) h0 (by rw [hnq]; exact hk4); rw [hxn, hq, Int.toNat_natCast] at h9; rw [← any_not_all] at h9; first | (rw [if_neg (by simpa using hc)] at h9; rw [h9]; simp [go_sem, Tryz.results39, setA, -List.map_set, set_I1, set_I1b]; done) | (rw [if_pos (by simpa using hc)] at h9; rw [h9]; simp [go_sem, Tryz.results39]; done)) | (rw [ov_rest h0 (by rw [hnq]; exact n1) (by rw [hnq]; simpa using hc), hxn, hq]; simp [go_sem, Tryz.results39]; done))
     ·intro hc; try simp [-List.length_eq_zero_iff] at hc
      all_goals try (exfalso; first | omega | contradiction; done)
      all_goals (
       refine AW.skipN (fun _ h => h) ?_
       refine rgE (fun _ => [0]) ?_
       intro k hk; simp -dsimp (maxSteps := 2000000) [go_sem, -decide_eq_true_eq, -decide_eq_false_iff_not, -List.map_set, set_I1, set_I1b, hac, hdc, hx, hx3, hq]
       repeat' first | apply And.intro | refine hk _ ?_ | intro hg | ((first | refine CallK.intro (hO (q : Int) (idleF p a c) (by omega) (by omega) hwi (by rw [Int.toNat_natCast]; omega)) ?_ | refine CallK.intro (hO (q : Int) (setA (idleF p a c) (a : Int) 2) (by omega) (by omega) (hwi.setA _ _) (by rw [Int.toNat_natCast]; omega)) ?_); simp -dsimp (maxSteps := 2000000) [go_sem, -decide_eq_true_eq, -decide_eq_false_iff_not, -List.map_set, set_I1, set_I1b, hac, hdc, hx, hx3, hq]) | omega | exact True.intro
       all_goals clear hk k
       refine ⟨.intro, And.intro (.inl rfl) ?_⟩
       refine Gh.done ?_
       first | (obtain rfl : a = 0 := (by omega); rw [ov_top]; simp [go_sem, Tryz.results39]; done) | (rw [ov_next h0 (by rw [hnq]; exact hk1) (by rw [hsb]; exact hub.1), hsb]; simp [go_sem, Tryz.results39]; done) | (have hsl := kids_last hj (by omega); rw [ov_seq h0 (by rw [hnq]; exact hk1) (by rw [hsl]; omega), hxn, hq]; simp [go_sem, Tryz.results39]; done) | (have h9 := ov_and (p := p) (f := f) (c := c) h0 (by rw [hnq]; exact hk4); rw [hxn, hq, Int.toNat_natCast] at h9; rw [← any_not_all] at h9; first | (rw [if_neg (by simpa using hc)] at h9; rw [h9]; simp [go_sem, Tryz.results39, setA, -List.map_set, set_I1, set_I1b]; done) | (rw [if_pos (by simpa using hc)] at h9; rw [h9]; simp [go_sem, Tryz.results39]; done)) | (rw [ov_rest h0 (by rw [hnq]; exact n1) (by rw [hnq]; simpa using hc), hxn, hq]; simp [go_sem, Tryz.results39]; done)))
   ·intro hc; try simp [-List.length_eq_zero_iff] at hc
    all_goals try (exfalso; first | omega | contradiction; done)
    all_goals (
     have n1 : y.kind ≠ 1 := by simpa using hc
     refine rg [0,1,2,4,5,52] ?_
     intro k hk; simp -dsimp [go_sem, -decide_eq_true_eq, -decide_eq_false_iff_not, -List.map_set, set_I1, set_I1b, hac, hdc, hx, hx3]
     repeat' first | apply And.intro | refine hk _ ?_ | intro hg | omega | exact True.intro
     all_goals clear hk k
     refine AW.cond rfl ?_ ?_
     ·intro hc; try simp [-List.length_eq_zero_iff] at hc
      all_goals try (exfalso; first | omega | contradiction; done)
      all_goals (
       have hk4 : y.kind = 4 := by simpa using hc
       refine AW.thaw (nd := ?nd_1) (c := ?c_1) (l := ?l_1) (es := ?es_1) 1900 0 4 7001 ?h1_1 ?h2_1 ?h3_1 ?h45_1 ?kk_1
       (case h1_1 => exact rfl)
       (case h2_1 => exact rfl)
       (case h3_1 => exact rfl)
       (case h45_1 => simp [go_sem])
       refine rg [0,2,4,5] ?_
       intro k hk; simp -dsimp (maxSteps := 2000000) [go_sem, -decide_eq_true_eq, -decide_eq_false_iff_not, -List.map_set, set_I1, set_I1b, hac, hdc, hx, hx3]
       repeat' first | apply And.intro | refine hk _ ?_ | intro hg | omega | exact True.intro
       all_goals clear hk k
       refine AW.fold (nd := ?nd_2) (c := ?c_2) (l := ?l_2) (es := ?es_2) (n := ?n_2) 1900 0 4 7001 ?h1_2 ?h2_2 ?h4_2 ?h3_2 ?hn_2 (by decide) ?h6_2 ?kk_2
       (case h1_2 => exact rfl)
       (case h2_2 => exact rfl)
       (case h4_2 => exact rfl)
       (case h3_2 => exact rfl)
       (case hn_2 => simp [hac, hdc])
       (case h6_2 => simp [go_sem, hac, hdc])
       refine rg [0,2,4,63] ?_
       intro k hk; simp -dsimp (maxSteps := 2000000) [go_sem, -decide_eq_true_eq, -decide_eq_false_iff_not, -List.map_set, set_I1, set_I1b, hac, hdc, hx, hx3]
       repeat' first | apply And.intro | refine hk _ ?_ | intro hg | (refine CallK.intro (dc_slices_ContainsFunc_int64_int64_g 71 [.ip [.isl 6 (p.map TStep.ro), .int .i64 (setA (idleF p a c) (a : Int) 2).status, .int .i64 (setA (idleF p a c) (a : Int) 2).now, .isl 1 ((setA (idleF p a c) (a : Int) 2).vars.map I1), .isl 1 ((setA (idleF p a c) (a : Int) 2).acts.map I1), .isl 1 ((setA (idleF p a c) (a : Int) 2).dues.map I1)]] (fun k => decide (actA (setA (idleF p a c) (a : Int) 2) k ≠ 2)) (kids p (q : Int)) (fun k hk => dc_impl_board_over_1 p (setA (idleF p a c) (a : Int) 2) k (kids_bd hk).1 (by have h7 := (kids_bd hk).2; rw [(hwi.setA (a : Int) 2).acts]; exact h7)) (by omega)) ?_; simp -dsimp (maxSteps := 2000000) [go_sem, -decide_eq_true_eq, -decide_eq_false_iff_not, -List.map_set, set_I1, set_I1b, hac, hdc, hx, hx3]) | omega | exact True.intro
       all_goals clear hk k
       refine AW.cond rfl ?_ ?_
       ·intro hc; try simp [-List.length_eq_zero_iff] at hc
        all_goals try (exfalso; first | omega | contradiction; done)
        all_goals (
         refine AW.ret ⟨.inr rfl, ?_⟩
         refine Gh.done ?_
         first | (obtain rfl : a = 0 := (by omega); rw [ov_top]; simp [go_sem, Tryz.results39]; done) | (rw [ov_next h0 (by rw [hnq]; exact hk1) (by rw [hsb]; exact hub.1), hsb]; simp [go_sem, Tryz.results39]; done) | (have hsl := kids_last hj (by omega); rw [ov_seq h0 (by rw [hnq]; exact hk1) (by rw [hsl]; omega), hxn, hq]; simp [go_sem, Tryz.results39]; done) | (have h9 := ov_and (p := p) (f := f) (c := c) h0 (by rw [hnq]; exact hk4); rw [hxn, hq, Int.toNat_natCast] at h9; rw [← any_not_all] at h9; first | (rw [if_neg (by simpa using hc)] at h9; rw [h9]; simp [go_sem, Tryz.results39, setA, -List.map_set, set_I1, set_I1b]; done) | (rw [if_pos (by simpa using hc)] at h9; rw [h9]; simp [go_sem, Tryz.results39]; done)) | (rw [ov_rest h0 (by rw [hnq]; exact n1) (by rw [hnq]; simpa using hc), hxn, hq]; simp [go_sem, Tryz.results39]; done))
       ·intro hc; try simp [-List.length_eq_zero_iff] at hc
        all_goals try (exfalso; first | omega | contradiction; done)
        all_goals (
         refine AW.skipN (fun _ h => h) ?_
         refine rgE (fun _ => [0]) ?_
         intro k hk; simp -dsimp (maxSteps := 2000000) [go_sem, -decide_eq_true_eq, -decide_eq_false_iff_not, -List.map_set, set_I1, set_I1b, hac, hdc, hx, hx3, hq]
         repeat' first | apply And.intro | refine hk _ ?_ | intro hg | ((first | refine CallK.intro (hO (q : Int) (idleF p a c) (by omega) (by omega) hwi (by rw [Int.toNat_natCast]; omega)) ?_ | refine CallK.intro (hO (q : Int) (setA (idleF p a c) (a : Int) 2) (by omega) (by omega) (hwi.setA _ _) (by rw [Int.toNat_natCast]; omega)) ?_); simp -dsimp (maxSteps := 2000000) [go_sem, -decide_eq_true_eq, -decide_eq_false_iff_not, -List.map_set, set_I1, set_I1b, hac, hdc, hx, hx3, hq]) | omega | exact True.intro
         all_goals clear hk k
         refine ⟨.intro, And.intro (.inl rfl) ?_⟩
         refine Gh.done ?_
         first | (obtain rfl : a = 0 := (by omega); rw [ov_top]; simp [go_sem, Tryz.results39]; done) | (rw [ov_next h0 (by rw [hnq]; exact hk1) (by rw [hsb]; exact hub.1), hsb]; simp [go_sem, Tryz.results39]; done) | (have hsl := kids_last hj (by omega); rw [ov_seq h0 (by rw [hnq]; exact hk1) (by rw [hsl]; omega), hxn, hq]; simp [go_sem, Tryz.results39]; done) | (have h9 := ov_and (p := p) (f := f) (c := c) h0 (by rw [hnq]; exact hk4); rw [hxn, hq, Int.toNat_natCast] at h9; rw [← any_not_all] at h9; first | (rw [if_neg (by simpa using hc)] at h9; rw [h9]; simp [go_sem, Tryz.results39, setA, -List.map_set, set_I1, set_I1b]; done) | (rw [if_pos (by simpa using hc)] at h9; rw [h9]; simp [go_sem, Tryz.results39]; done)) | (rw [ov_rest h0 (by rw [hnq]; exact n1) (by rw [hnq]; simpa using hc), hxn, hq]; simp [go_sem, Tryz.results39]; done)))
     ·intro hc; try simp [-List.length_eq_zero_iff] at hc
      all_goals try (exfalso; first | omega | contradiction; done)
      all_goals (
       refine AW.skipN (fun _ h => h) ?_
       refine rgE (fun _ => [0]) ?_
       intro k hk; simp -dsimp (maxSteps := 2000000) [go_sem, -decide_eq_true_eq, -decide_eq_false_iff_not, -List.map_set, set_I1, set_I1b, hac, hdc, hx, hx3, hq]
       repeat' first | apply And.intro | refine hk _ ?_ | intro hg | ((first | refine CallK.intro (hO (q : Int) (idleF p a c) (by omega) (by omega) hwi (by rw [Int.toNat_natCast]; omega)) ?_ | refine CallK.intro (hO (q : Int) (setA (idleF p a c) (a : Int) 2) (by omega) (by omega) (hwi.setA _ _) (by rw [Int.toNat_natCast]; omega)) ?_); simp -dsimp (maxSteps := 2000000) [go_sem, -decide_eq_true_eq, -decide_eq_false_iff_not, -List.map_set, set_I1, set_I1b, hac, hdc, hx, hx3, hq]) | omega | exact True.intro
       all_goals clear hk k
       refine ⟨.intro, And.intro (.inl rfl) ?_⟩
       refine Gh.done ?_
       first | (obtain rfl : a = 0 := (by omega); rw [ov_top]; simp [go_sem, Tryz.results39]; done) | (rw [ov_next h0 (by rw [hnq]; exact hk1) (by rw [hsb]; exact hub.1), hsb]; simp [go_sem, Tryz.results39]; done) | (have hsl := kids_last hj (by omega); rw [ov_seq h0 (by rw [hnq]; exact hk1) (by rw [hsl]; omega), hxn, hq]; simp [go_sem, Tryz.results39]; done) | (have h9 := ov_and (p := p) (f := f) (c := c) h0 (by rw [hnq]; exact hk4); rw [hxn, hq, Int.toNat_natCast] at h9; rw [← any_not_all] at h9; first | (rw [if_neg (by simpa using hc)] at h9; rw [h9]; simp [go_sem, Tryz.results39, setA, -List.map_set, set_I1, set_I1b]; done) | (rw [if_pos (by simpa using hc)] at h9; rw [h9]; simp [go_sem, Tryz.results39]; done)) | (rw [ov_rest h0 (by rw [hnq]; exact n1) (by rw [hnq]; simpa using hc), hxn, hq]; simp [go_sem, Tryz.results39]; done))))
end Go.AM
namespace Go.AM
open Go.Proofs
theorem dc_spec_l3Bool (b : Bool) : DC Tryz.prog 120 [.bool b] (.int .i64 (if b then 1 else 0)) [] := by
 refine DC.intro tiOk Tryz.func120 rfl rfl rfl rfl rfl rfl rfl rfl [] ?_
 refine rgA [0] ?_
 refine AW.seq ?_
 refine rgA [3] ?_
 refine AW.cond rfl ?_ ?_
 ·intro hc; try simp at hc
  all_goals (
   refine rgA [2] ?_
   refine rt ?_
   cases b <;> simp_all [go_sem, Tryz.results120])
 ·intro hc; try simp at hc
  all_goals (
   refine AW.skipN (fun _ h => h) ?_
   refine rgA [2] ?_
   refine rt ?_
   cases b <;> simp_all [go_sem, Tryz.results120])
theorem dc_spec_l3One (k a b : Int) (hk : 3 ≤ k ∧ k ≤ 10) (ha : small a = true) (hb : small b = true) : DC Tryz.prog 107 [.int .i64 k, .int .i64 a, .int .i64 b] (.tup [.int .i64 (if k = 6 ∧ b = 0 then 0 else (if k = 10 then 1 - a else reckV k a b)), .bool (!(decide (k = 6) && decide (b = 0)) && (decide (k = 6 ∧ b = 0) || small (if k = 10 then 1 - a else reckV k a b)))]) [] := by
 have a1 := small_iff.1 ha
 have b1 := small_iff.1 hb
 have m1 := small_mul ha hb
 have d1 := small_div (b := b) ha
 have hwa : IntKind.wrap .i64 (a + b) = a + b := wrap64 (by omega) (by omega)
 have hws : IntKind.wrap .i64 (a - b) = a - b := wrap64 (by omega) (by omega)
 have hwm : IntKind.wrap .i64 (a * b) = a * b := wrap64 (by omega) (by omega)
 have hwd : IntKind.wrap .i64 (a.tdiv b) = a.tdiv b := wrap64 (by omega) (by omega)
 have hwn : IntKind.wrap .i64 (1 - a) = 1 - a := wrap64 (by omega) (by omega)
 refine DC.intro tiOk Tryz.func107 rfl rfl rfl rfl rfl rfl rfl rfl [] ?_
 refine rg [0,1,2] ?_
 intro k hk; simp -dsimp [go_sem, -decide_eq_true_eq, -decide_eq_false_iff_not, hwa, hws, hwm, hwd, hwn]
 repeat' first | apply And.intro | refine hk _ ?_ | intro hg | omega | exact True.intro
 all_goals clear hk k
 refine rg [0,1,2] ?_
 intro k hk; simp -dsimp [go_sem, -decide_eq_true_eq, -decide_eq_false_iff_not, hwa, hws, hwm, hwd, hwn]
 repeat' first | apply And.intro | refine hk _ ?_ | intro hg | omega | exact True.intro
 all_goals clear hk k
 refine AW.seq ?_
 refine rg [1,2,9] ?_
 intro k hk; simp -dsimp [go_sem, -decide_eq_true_eq, -decide_eq_false_iff_not, hwa, hws, hwm, hwd, hwn]
 repeat' first | apply And.intro | refine hk _ ?_ | intro hg | omega | exact True.intro
 all_goals clear hk k
 refine AW.block ?_
 refine rg [1,2,9,12] ?_
 intro k hk; simp -dsimp [go_sem, -decide_eq_true_eq, -decide_eq_false_iff_not, hwa, hws, hwm, hwd, hwn]
 repeat' first | apply And.intro | refine hk _ ?_ | intro hg | omega | exact True.intro
 all_goals clear hk k
 refine AW.cond rfl ?_ ?_
 ·intro hc; try simp at hc
  all_goals try (exfalso; omega; done)
  all_goals (
   refine rgN [8] (fun _ h => h) ?_
   intro k hk; simp -dsimp [go_sem, -decide_eq_true_eq, -decide_eq_false_iff_not, hwa, hws, hwm, hwd, hwn]
   repeat' first | apply And.intro | refine hk _ ?_ | intro hg | omega | exact True.intro
   all_goals clear hk k
   refine rg [6,7] ?_
   intro k hk; simp -dsimp (maxSteps := 2000000) [go_sem, -decide_eq_true_eq, -decide_eq_false_iff_not, hwa, hws, hwm, hwd, hwn]
   repeat' first | apply And.intro | refine hk _ ?_ | intro hg | (refine CallK.intro (dc_spec_l1In _ _ _) ?_; simp -dsimp (maxSteps := 2000000) [go_sem, -decide_eq_true_eq, -decide_eq_false_iff_not, hwa, hws, hwm, hwd, hwn]) | omega | exact True.intro
   all_goals clear hk k
   refine rt ?_
   first | (have hk10 : k = 10 := (by omega); subst hk10; simp [go_sem, Tryz.results107, reckV, small, inR, hwn]; done) | (simp [go_sem, Tryz.results107, reckV, small, inR, *]; done) | (simp [go_sem, Tryz.results107, reckV, small, inR, *] <;> omega))
 ·intro hc; try simp at hc
  all_goals try (exfalso; omega; done)
  all_goals (
   refine rg [1,2,9,17] ?_
   intro k hk; simp -dsimp [go_sem, -decide_eq_true_eq, -decide_eq_false_iff_not, hwa, hws, hwm, hwd, hwn]
   repeat' first | apply And.intro | refine hk _ ?_ | intro hg | omega | exact True.intro
   all_goals clear hk k
   refine AW.cond rfl ?_ ?_
   ·intro hc; try simp at hc
    all_goals try (exfalso; omega; done)
    all_goals (
     refine rgN [8] (fun _ h => h) ?_
     intro k hk; simp -dsimp [go_sem, -decide_eq_true_eq, -decide_eq_false_iff_not, hwa, hws, hwm, hwd, hwn]
     repeat' first | apply And.intro | refine hk _ ?_ | intro hg | omega | exact True.intro
     all_goals clear hk k
     refine rg [6,7] ?_
     intro k hk; simp -dsimp (maxSteps := 2000000) [go_sem, -decide_eq_true_eq, -decide_eq_false_iff_not, hwa, hws, hwm, hwd, hwn]
     repeat' first | apply And.intro | refine hk _ ?_ | intro hg | (refine CallK.intro (dc_spec_l1In _ _ _) ?_; simp -dsimp (maxSteps := 2000000) [go_sem, -decide_eq_true_eq, -decide_eq_false_iff_not, hwa, hws, hwm, hwd, hwn]) | omega | exact True.intro
     all_goals clear hk k
     refine rt ?_
     first | (have hk10 : k = 10 := (by omega); subst hk10; simp [go_sem, Tryz.results107, reckV, small, inR, hwn]; done) | (simp [go_sem, Tryz.results107, reckV, small, inR, *]; done) | (simp [go_sem, Tryz.results107, reckV, small, inR, *] <;> omega))
   ·intro hc; try simp at hc
    all_goals try (exfalso; omega; done)
    all_goals (
     refine rg [1,2,9,22] ?_
     intro k hk; simp -dsimp [go_sem, -decide_eq_true_eq, -decide_eq_false_iff_not, hwa, hws, hwm, hwd, hwn]
     repeat' first | apply And.intro | refine hk _ ?_ | intro hg | omega | exact True.intro
     all_goals clear hk k
     refine AW.cond rfl ?_ ?_
     ·intro hc; try simp at hc
      all_goals try (exfalso; omega; done)
      all_goals (
       refine rgN [8] (fun _ h => h) ?_
       intro k hk; simp -dsimp [go_sem, -decide_eq_true_eq, -decide_eq_false_iff_not, hwa, hws, hwm, hwd, hwn]
       repeat' first | apply And.intro | refine hk _ ?_ | intro hg | omega | exact True.intro
       all_goals clear hk k
       refine rg [6,7] ?_
       intro k hk; simp -dsimp (maxSteps := 2000000) [go_sem, -decide_eq_true_eq, -decide_eq_false_iff_not, hwa, hws, hwm, hwd, hwn]
       repeat' first | apply And.intro | refine hk _ ?_ | intro hg | (refine CallK.intro (dc_spec_l1In _ _ _) ?_; simp -dsimp (maxSteps := 2000000) [go_sem, -decide_eq_true_eq, -decide_eq_false_iff_not, hwa, hws, hwm, hwd, hwn]) | omega | exact True.intro
       all_goals clear hk k
       refine rt ?_
       first | (have hk10 : k = 10 := (by omega); subst hk10; simp [go_sem, Tryz.results107, reckV, small, inR, hwn]; done) | (simp [go_sem, Tryz.results107, reckV, small, inR, *]; done) | (simp [go_sem, Tryz.results107, reckV, small, inR, *] <;> omega))
     ·intro hc; try simp at hc
      all_goals try (exfalso; omega; done)
      all_goals (
       refine rg [1,2,9,27] ?_
       intro k hk; simp -dsimp [go_sem, -decide_eq_true_eq, -decide_eq_false_iff_not, hwa, hws, hwm, hwd, hwn]
       repeat' first | apply And.intro | refine hk _ ?_ | intro hg | omega | exact True.intro
       all_goals clear hk k
       refine AW.cond rfl ?_ ?_
       ·intro hc; try simp at hc
        all_goals try (exfalso; omega; done)
        all_goals (
         refine AW.seq ?_
         refine rg [1,2,30] ?_
         intro k hk; simp -dsimp [go_sem, -decide_eq_true_eq, -decide_eq_false_iff_not, hwa, hws, hwm, hwd, hwn]
         repeat' first | apply And.intro | refine hk _ ?_ | intro hg | omega | exact True.intro
         all_goals clear hk k
         refine AW.cond rfl ?_ ?_
         ·intro hc; try simp at hc
          all_goals try (exfalso; omega; done)
          all_goals (
           refine rg [6,7] ?_
           intro k hk; simp -dsimp [go_sem, -decide_eq_true_eq, -decide_eq_false_iff_not, hwa, hws, hwm, hwd, hwn]
           repeat' first | apply And.intro | refine hk _ ?_ | intro hg | omega | exact True.intro
           all_goals clear hk k
           refine rt ?_
           first | (have hk10 : k = 10 := (by omega); subst hk10; simp [go_sem, Tryz.results107, reckV, small, inR, hwn]; done) | (simp [go_sem, Tryz.results107, reckV, small, inR, *]; done) | (simp [go_sem, Tryz.results107, reckV, small, inR, *] <;> omega))
         ·intro hc; try simp at hc
          all_goals try (exfalso; omega; done)
          all_goals (
           refine AW.skipN (fun _ h => h) ?_
           refine rgN [8] (fun _ h => h) ?_
           intro k hk; simp -dsimp [go_sem, -decide_eq_true_eq, -decide_eq_false_iff_not, hwa, hws, hwm, hwd, hwn]
           repeat' first | apply And.intro | refine hk _ ?_ | intro hg | omega | exact True.intro
           all_goals clear hk k
           refine rg [6,7] ?_
           intro k hk; simp -dsimp (maxSteps := 2000000) [go_sem, -decide_eq_true_eq, -decide_eq_false_iff_not, hwa, hws, hwm, hwd, hwn]
           repeat' first | apply And.intro | refine hk _ ?_ | intro hg | (refine CallK.intro (dc_spec_l1In _ _ _) ?_; simp -dsimp (maxSteps := 2000000) [go_sem, -decide_eq_true_eq, -decide_eq_false_iff_not, hwa, hws, hwm, hwd, hwn]) | omega | exact True.intro
           all_goals clear hk k
           refine rt ?_
           first | (have hk10 : k = 10 := (by omega); subst hk10; simp [go_sem, Tryz.results107, reckV, small, inR, hwn]; done) | (simp [go_sem, Tryz.results107, reckV, small, inR, *]; done) | (simp [go_sem, Tryz.results107, reckV, small, inR, *] <;> omega)))
       ·intro hc; try simp at hc
        all_goals try (exfalso; omega; done)
        all_goals (
         refine rg [1,2,9,34] ?_
         intro k hk; simp -dsimp [go_sem, -decide_eq_true_eq, -decide_eq_false_iff_not, hwa, hws, hwm, hwd, hwn]
         repeat' first | apply And.intro | refine hk _ ?_ | intro hg | omega | exact True.intro
         all_goals clear hk k
         refine AW.cond rfl ?_ ?_
         ·intro hc; try simp at hc
          all_goals try (exfalso; omega; done)
          all_goals (
           refine rgN [8] (fun _ h => h) ?_
           intro k hk; simp -dsimp (maxSteps := 2000000) [go_sem, -decide_eq_true_eq, -decide_eq_false_iff_not, hwa, hws, hwm, hwd, hwn]
           repeat' first | apply And.intro | refine hk _ ?_ | intro hg | (refine CallK.intro (dc_spec_l3Bool _) ?_; simp -dsimp (maxSteps := 2000000) [go_sem, -decide_eq_true_eq, -decide_eq_false_iff_not, hwa, hws, hwm, hwd, hwn]) | omega | exact True.intro
           all_goals clear hk k
           refine rg [6,7] ?_
           intro k hk; simp -dsimp (maxSteps := 2000000) [go_sem, -decide_eq_true_eq, -decide_eq_false_iff_not, hwa, hws, hwm, hwd, hwn]
           repeat' first | apply And.intro | refine hk _ ?_ | intro hg | (refine CallK.intro (dc_spec_l1In _ _ _) ?_; simp -dsimp (maxSteps := 2000000) [go_sem, -decide_eq_true_eq, -decide_eq_false_iff_not, hwa, hws, hwm, hwd, hwn]) | omega | exact True.intro
           all_goals clear hk k
           refine rt ?_
           first | (have hk10 : k = 10 := (by omega); subst hk10; simp [go_sem, Tryz.results107, reckV, small, inR, hwn]; done) | (simp [go_sem, Tryz.results107, reckV, small, inR, *]; done) | (simp [go_sem, Tryz.results107, reckV, small, inR, *] <;> omega))
         ·intro hc; try simp at hc
          all_goals try (exfalso; omega; done)
          all_goals (
           refine rg [1,2,9,40] ?_
           intro k hk; simp -dsimp [go_sem, -decide_eq_true_eq, -decide_eq_false_iff_not, hwa, hws, hwm, hwd, hwn]
           repeat' first | apply And.intro | refine hk _ ?_ | intro hg | omega | exact True.intro
           all_goals clear hk k
           refine AW.cond rfl ?_ ?_
           ·intro hc; try simp at hc
            all_goals try (exfalso; omega; done)
            all_goals (
             refine rgN [8] (fun _ h => h) ?_
             intro k hk; simp -dsimp (maxSteps := 2000000) [go_sem, -decide_eq_true_eq, -decide_eq_false_iff_not, hwa, hws, hwm, hwd, hwn]
             repeat' first | apply And.intro | refine hk _ ?_ | intro hg | (refine CallK.intro (dc_spec_l3Bool _) ?_; simp -dsimp (maxSteps := 2000000) [go_sem, -decide_eq_true_eq, -decide_eq_false_iff_not, hwa, hws, hwm, hwd, hwn]) | omega | exact True.intro
             all_goals clear hk k
             refine rg [6,7] ?_
             intro k hk; simp -dsimp (maxSteps := 2000000) [go_sem, -decide_eq_true_eq, -decide_eq_false_iff_not, hwa, hws, hwm, hwd, hwn]
             repeat' first | apply And.intro | refine hk _ ?_ | intro hg | (refine CallK.intro (dc_spec_l1In _ _ _) ?_; simp -dsimp (maxSteps := 2000000) [go_sem, -decide_eq_true_eq, -decide_eq_false_iff_not, hwa, hws, hwm, hwd, hwn]) | omega | exact True.intro
             all_goals clear hk k
             refine rt ?_
             first | (have hk10 : k = 10 := (by omega); subst hk10; simp [go_sem, Tryz.results107, reckV, small, inR, hwn]; done) | (simp [go_sem, Tryz.results107, reckV, small, inR, *]; done) | (simp [go_sem, Tryz.results107, reckV, small, inR, *] <;> omega))
           ·intro hc; try simp at hc
            all_goals try (exfalso; omega; done)
            all_goals (
             refine rg [1,2,46] ?_
             intro k hk; simp -dsimp [go_sem, -decide_eq_true_eq, -decide_eq_false_iff_not, hwa, hws, hwm, hwd, hwn]
             repeat' first | apply And.intro | refine hk _ ?_ | intro hg | omega | exact True.intro
             all_goals clear hk k
             refine AW.cond rfl ?_ ?_
             ·intro hc; try simp at hc
              all_goals try (exfalso; omega; done)
              all_goals (
               refine rgN [8] (fun _ h => h) ?_
               intro k hk; simp -dsimp [go_sem, -decide_eq_true_eq, -decide_eq_false_iff_not, hwa, hws, hwm, hwd, hwn]
               repeat' first | apply And.intro | refine hk _ ?_ | intro hg | omega | exact True.intro
               all_goals clear hk k
               refine rg [6,7] ?_
               intro k hk; simp -dsimp (maxSteps := 2000000) [go_sem, -decide_eq_true_eq, -decide_eq_false_iff_not, hwa, hws, hwm, hwd, hwn]
               repeat' first | apply And.intro | refine hk _ ?_ | intro hg | (refine CallK.intro (dc_spec_l1In _ _ _) ?_; simp -dsimp (maxSteps := 2000000) [go_sem, -decide_eq_true_eq, -decide_eq_false_iff_not, hwa, hws, hwm, hwd, hwn]) | omega | exact True.intro
               all_goals clear hk k
               refine rt ?_
               first | (have hk10 : k = 10 := (by omega); subst hk10; simp [go_sem, Tryz.results107, reckV, small, inR, hwn]; done) | (simp [go_sem, Tryz.results107, reckV, small, inR, *]; done) | (simp [go_sem, Tryz.results107, reckV, small, inR, *] <;> omega))
             ·intro hc; try simp at hc
              all_goals try (exfalso; omega; done)
              all_goals (
               refine rgN [8] (fun _ h => h) ?_
               intro k hk; simp -dsimp [go_sem, -decide_eq_true_eq, -decide_eq_false_iff_not, hwa, hws, hwm, hwd, hwn]
               repeat' first | apply And.intro | refine hk _ ?_ | intro hg | omega | exact True.intro
               all_goals clear hk k
               refine rg [6,7] ?_
               intro k hk; simp -dsimp (maxSteps := 2000000) [go_sem, -decide_eq_true_eq, -decide_eq_false_iff_not, hwa, hws, hwm, hwd, hwn]
               repeat' first | apply And.intro | refine hk _ ?_ | intro hg | (refine CallK.intro (dc_spec_l1In _ _ _) ?_; simp -dsimp (maxSteps := 2000000) [go_sem, -decide_eq_true_eq, -decide_eq_false_iff_not, hwa, hws, hwm, hwd, hwn]) | omega | exact True.intro
               all_goals clear hk k
               refine rt ?_
               first | (have hk10 : k = 10 := (by omega); subst hk10; simp [go_sem, Tryz.results107, reckV, small, inR, hwn]; done) | (simp [go_sem, Tryz.results107, reckV, small, inR, *]; done) | (simp [go_sem, Tryz.results107, reckV, small, inR, *] <;> omega))))))))
end Go.AM
namespace Go.AM
open Go.Proofs
set_option maxHeartbeats 4000000 in
theorem dc_spec_l3Eval (e : List TNode) (vars : List Int) (hn : 1 ≤ e.length ∧ e.length ≤ 16) (hp : PartsOk e e.length) (ht : typU e e.length = false) (hv : vars.length = 4) (hs : ∀ v ∈ vars, small v = true) : DC Tryz.prog 86 [.isl 4 (e.map TNode.ro), .isl 1 (vars.map I1)] (.tup [.int .i64 (if evalB e vars = true then evalI e vars else 0), .bool (evalB e vars)]) [] := by
 refine DC.intro tiOk Tryz.func86 rfl rfl rfl rfl rfl rfl rfl rfl [] ?_
 refine rgA [0,1] ?_
 refine rgA [0,1,6] ?_
 refine AW.seq ?_
 refine rgA [0,1,6,7] ?_
 refine AW.block ?_
 refine AW.rename (nd := ?nd_1) 12 58 ?h1_1 ?h2_1 ?h4_1 ?kk_1
 (case h1_1 => exact rfl)
 (case h2_1 => simp [go_sem])
 (case h4_1 => simp [go_sem])
 refine AW.loopI (fun i : Nat => ⟨65, [(0, .isl 4 (e.map TNode.ro)), (1, .isl 1 (vars.map I1)), (6, .sl 58 1 0 i), (7, .int .i64 (i : Nat))], [(58, some ⟨1, (evL e vars i).map I1⟩)]⟩) (fun i => i ≤ e.length ∧ evOk e vars i = true) (fun i => e.length - i) (0) (⟨Nat.zero_le _, rfl⟩) (Less.of rfl (by simp [go_sem, evL]) (by simp [go_sem, evL])) ?_
 rintro i ⟨hi, hok⟩
 refine AW.rename (nd := ?nd_2) 58 12 ?h1_2 ?h2_2 ?h4_2 ?kk_2
 (case h1_2 => exact rfl)
 (case h2_2 => simp [go_sem])
 (case h4_2 => simp [go_sem])
 refine AW.seq ?_
 refine rgA [0,1,6,7,16] ?_
 refine AW.cond rfl ?_ ?_
 ·intro hc; try simp at hc
  all_goals try (exfalso; omega; done)
  all_goals (
   have hlt : i < e.length := by first | assumption | omega
   obtain ⟨x, hx⟩ := at_some hlt
   obtain ⟨f1, f2, f3, f4⟩ := ev_facts hp ht hv hs hx hok
   have hlen := evL_len e vars i
   have htk : List.take i ((evL e vars i).map I1) = (evL e vars i).map I1 := List.take_of_length_le (by simp [hlen])
   have hkb : 1 ≤ x.kind ∧ x.kind ≤ 10 := by have h8 := nodeF_parts (show nodeF x i = 0 by have h7 := hp i hlt; rwa [nodeAt_at hx] at h7); exact ⟨h8.2.2.1, h8.2.2.2.1⟩
   refine AW.skipN (fun _ h => h) ?_
   refine AW.seq ?_
   refine AW.block ?_
   refine rg [0,1,6,7,8] ?_
   intro k hk; simp -dsimp [go_sem, -decide_eq_true_eq, -decide_eq_false_iff_not, hx, hlen]
   repeat' first | apply And.intro | refine hk _ ?_ | intro hg | omega | exact True.intro
   all_goals clear hk k
   refine rg [0,1,6,7,8,9] ?_
   intro k hk; simp -dsimp [go_sem, -decide_eq_true_eq, -decide_eq_false_iff_not, hx, hlen]
   repeat' first | apply And.intro | refine hk _ ?_ | intro hg | omega | exact True.intro
   all_goals clear hk k
   refine AW.seq ?_
   refine rg [0,1,6,7,8,9,27] ?_
   intro k hk; simp -dsimp [go_sem, -decide_eq_true_eq, -decide_eq_false_iff_not, hx, hlen]
   repeat' first | apply And.intro | refine hk _ ?_ | intro hg | omega | exact True.intro
   all_goals clear hk k
   refine AW.cond rfl ?_ ?_
   ·intro hc; try simp at hc
    all_goals try (exfalso; omega; done)
    all_goals (
     have hk2 : x.kind = 2 := by simpa using hc
     obtain ⟨u, hu, hu0, hu2, hu4⟩ := f2 hk2
     have hul := at_lt hu
     have hu3 : ∀ h, vars[x.val.toNat]'h = u := fun h => by have h9 := hu; rw [List.getElem?_eq_getElem h] at h9; exact Option.some.inj h9
     obtain ⟨hev, hbad⟩ := ev_two (out := evL e vars i) hk2 hu2 hu4
     refine rgN [0,1,6,7,8,9] (fun _ h => h) ?_
     intro k hk; simp -dsimp [go_sem, -decide_eq_true_eq, -decide_eq_false_iff_not, hx, hlen, hu, hu3]
     repeat' first | apply And.intro | refine hk _ ?_ | intro hg | omega | exact True.intro
     all_goals clear hk k
     refine AW.seq ?_
     refine rg [0,1,6,7,8,9,35] ?_
     intro k hk; simp -dsimp [go_sem, -decide_eq_true_eq, -decide_eq_false_iff_not, hx, hlen]
     repeat' first | apply And.intro | refine hk _ ?_ | intro hg | omega | exact True.intro
     all_goals clear hk k
     refine AW.cond rfl ?_ ?_
     ·intro hc; try simp at hc
      all_goals try (exfalso; omega; done)
      all_goals (
       have h3k : 3 ≤ x.kind := by first | omega | (simp at hc; omega)
       have hnf := hp i hlt
       rw [nodeAt_at hx] at hnf
       have hlr : 0 ≤ x.left ∧ x.left.toNat < i ∧ 0 ≤ x.right ∧ x.right.toNat < i ∧ x.kind ≤ 10 := by unfold nodeF at hnf; grind
       obtain ⟨g1, g2, g3, g4, g5⟩ := hlr
       obtain ⟨u, hu⟩ := at_some (l := (evL e vars i)) (i := x.left.toNat) (by omega)
       obtain ⟨v, hvv⟩ := at_some (l := (evL e vars i)) (i := x.right.toNat) (by omega)
       have hgu : gI (evL e vars i) x.left = u := by unfold gI; rw [List.getD_eq_getElem?_getD, hu]; rfl
       have hgv : gI (evL e vars i) x.right = v := by unfold gI; rw [List.getD_eq_getElem?_getD, hvv]; rfl
       have su : small u = true := by rw [← hgu]; exact gI_small hok g1 g2
       have sv : small v = true := by rw [← hgv]; exact gI_small hok g3 g4
       obtain ⟨hev, heb⟩ := ev_more (vars := vars) (out := evL e vars i) ⟨h3k, g5⟩ hgu hgv
       have hu3 : ∀ h, (evL e vars i)[x.left.toNat]'h = u := fun h => by have h9 := hu; rw [List.getElem?_eq_getElem h] at h9; exact Option.some.inj h9
       have hvv3 : ∀ h, (evL e vars i)[x.right.toNat]'h = v := fun h => by have h9 := hvv; rw [List.getElem?_eq_getElem h] at h9; exact Option.some.inj h9
       refine rg [0,1,6,7,10,11] ?_
       intro k hk; simp -dsimp (maxSteps := 2000000) [go_sem, -decide_eq_true_eq, -decide_eq_false_iff_not, hx, hlen, hu, hu3, hvv, hvv3]
       repeat' first | (refine Chk.keys ?_; simp only [go_sem, List.map_cons, List.map_nil, List.flatMap_cons, List.flatMap_nil, List.flatMap_append, List.append_nil, List.nil_append, List.cons_append]; decide +kernel) | apply And.intro | refine hk _ ?_ | intro hg | (refine CallK.intro (dc_spec_l3One x.kind u v ⟨h3k, g5⟩ su sv) ?_; simp -dsimp (maxSteps := 2000000) [go_sem, -decide_eq_true_eq, -decide_eq_false_iff_not, hx, hlen, hu, hu3, hvv, hvv3]) | omega | exact True.intro
       all_goals clear hk k
       refine AW.seq ?_
       refine rg [0,1,6,7,10,53] ?_
       intro k hk; simp -dsimp [go_sem, -decide_eq_true_eq, -decide_eq_false_iff_not, hx, hlen]
       repeat' first | apply And.intro | refine hk _ ?_ | intro hg | omega | exact True.intro
       all_goals clear hk k
       refine AW.cond rfl ?_ ?_
       ·intro hc; try simp at hc
        all_goals try (exfalso; omega; done)
        all_goals (
         refine rg [4,5] ?_
         intro k hk; simp -dsimp [go_sem, -decide_eq_true_eq, -decide_eq_false_iff_not, hx, hlen]
         repeat' first | apply And.intro | refine hk _ ?_ | intro hg | omega | exact True.intro
         all_goals clear hk k
         refine rt ?_
         first | (have hbd : evBad x vars (evL e vars i) = true := (by rw [heb]; simp at hc ⊢; grind); rw [ev_bad hlt hx hbd]; simp [go_sem, Tryz.results86]; done) | (have he : evalB e vars = true := hok; rw [he, hzi]; simp [go_sem, Tryz.results86]))
       ·intro hc; try simp at hc
        all_goals try (exfalso; omega; done)
        all_goals (
         refine AW.skipN (fun _ h => h) ?_
         have hno : ¬ (x.kind = 6 ∧ v = 0) := by intro h; simp [h] at hc
         have hbad : evBad x vars (evL e vars i) = false := by rw [heb]; simp at hc ⊢; grind
         refine rgN [0,1,6,7,9] (fun _ h => h) ?_
         intro k hk; simp -dsimp [go_sem, -decide_eq_true_eq, -decide_eq_false_iff_not, hx, hlen, hno]
         repeat' first | apply And.intro | refine hk _ ?_ | intro hg | omega | exact True.intro
         all_goals clear hk k
         try (have hk1 : x.kind = 1 := (by omega); obtain ⟨hev, hbad⟩ := ev_one (vars := vars) (out := evL e vars i) hk1 (f1 hk1))
         refine rgN [0,1,6,7] (fun _ h => h) ?_
         intro k hk; simp -dsimp [go_sem, -decide_eq_true_eq, -decide_eq_false_iff_not, hx, hlen]
         repeat' first | apply And.intro | refine hk _ ?_ | intro hg | omega | exact True.intro
         all_goals clear hk k
         refine rgK ?_
         intro k hk; simp -dsimp [go_sem, -decide_eq_true_eq, -decide_eq_false_iff_not, hx, hlen]
         repeat' first | apply And.intro | refine hk _ ?_ | intro hg | omega | exact True.intro
         all_goals clear hk k
         show ∃ _, _
         have hw := wrapi hlt (by omega)
         have hnx : ∃ w : Int, evV x vars (evL e vars i) = w ∧ evBad x vars (evL e vars i) = false := ⟨_, rfl, hbad⟩
         refine ⟨i + 1, ⟨by omega, ev_next hx hok hbad⟩, by omega, Less.of rfl (by simp [go_sem, hw]) (by rw [evL_succ hx, hev]; simp [go_sem, htk])⟩))
     ·intro hc; try simp at hc
      all_goals try (exfalso; omega; done)
      all_goals (
       refine AW.skipN (fun _ h => h) ?_
       try (have hk1 : x.kind = 1 := (by omega); obtain ⟨hev, hbad⟩ := ev_one (vars := vars) (out := evL e vars i) hk1 (f1 hk1))
       refine rgN [0,1,6,7] (fun _ h => h) ?_
       intro k hk; simp -dsimp [go_sem, -decide_eq_true_eq, -decide_eq_false_iff_not, hx, hlen]
       repeat' first | apply And.intro | refine hk _ ?_ | intro hg | omega | exact True.intro
       all_goals clear hk k
       refine rgK ?_
       intro k hk; simp -dsimp [go_sem, -decide_eq_true_eq, -decide_eq_false_iff_not, hx, hlen]
       repeat' first | apply And.intro | refine hk _ ?_ | intro hg | omega | exact True.intro
       all_goals clear hk k
       show ∃ _, _
       have hw := wrapi hlt (by omega)
       have hnx : ∃ w : Int, evV x vars (evL e vars i) = w ∧ evBad x vars (evL e vars i) = false := ⟨_, rfl, hbad⟩
       refine ⟨i + 1, ⟨by omega, ev_next hx hok hbad⟩, by omega, Less.of rfl (by simp [go_sem, hw]) (by rw [evL_succ hx, hev]; simp [go_sem, htk])⟩))
   ·intro hc; try simp at hc
    all_goals try (exfalso; omega; done)
    all_goals (
     refine AW.skipN (fun _ h => h) ?_
     refine AW.seq ?_
     refine rg [0,1,6,7,8,9,35] ?_
     intro k hk; simp -dsimp [go_sem, -decide_eq_true_eq, -decide_eq_false_iff_not, hx, hlen]
     repeat' first | apply And.intro | refine hk _ ?_ | intro hg | omega | exact True.intro
     all_goals clear hk k
     refine AW.cond rfl ?_ ?_
     ·intro hc; try simp at hc
      all_goals try (exfalso; omega; done)
      all_goals (
       have h3k : 3 ≤ x.kind := by first | omega | (simp at hc; omega)
       have hnf := hp i hlt
       rw [nodeAt_at hx] at hnf
       have hlr : 0 ≤ x.left ∧ x.left.toNat < i ∧ 0 ≤ x.right ∧ x.right.toNat < i ∧ x.kind ≤ 10 := by unfold nodeF at hnf; grind
       obtain ⟨g1, g2, g3, g4, g5⟩ := hlr
       obtain ⟨u, hu⟩ := at_some (l := (evL e vars i)) (i := x.left.toNat) (by omega)
       obtain ⟨v, hvv⟩ := at_some (l := (evL e vars i)) (i := x.right.toNat) (by omega)
       have hgu : gI (evL e vars i) x.left = u := by unfold gI; rw [List.getD_eq_getElem?_getD, hu]; rfl
       have hgv : gI (evL e vars i) x.right = v := by unfold gI; rw [List.getD_eq_getElem?_getD, hvv]; rfl
       have su : small u = true := by rw [← hgu]; exact gI_small hok g1 g2
       have sv : small v = true := by rw [← hgv]; exact gI_small hok g3 g4
       obtain ⟨hev, heb⟩ := ev_more (vars := vars) (out := evL e vars i) ⟨h3k, g5⟩ hgu hgv
       have hu3 : ∀ h, (evL e vars i)[x.left.toNat]'h = u := fun h => by have h9 := hu; rw [List.getElem?_eq_getElem h] at h9; exact Option.some.inj h9
       have hvv3 : ∀ h, (evL e vars i)[x.right.toNat]'h = v := fun h => by have h9 := hvv; rw [List.getElem?_eq_getElem h] at h9; exact Option.some.inj h9
       refine rg [0,1,6,7,10,11] ?_
       intro k hk; simp -dsimp (maxSteps := 2000000) [go_sem, -decide_eq_true_eq, -decide_eq_false_iff_not, hx, hlen, hu, hu3, hvv, hvv3]
       repeat' first | (refine Chk.keys ?_; simp only [go_sem, List.map_cons, List.map_nil, List.flatMap_cons, List.flatMap_nil, List.flatMap_append, List.append_nil, List.nil_append, List.cons_append]; decide +kernel) | apply And.intro | refine hk _ ?_ | intro hg | (refine CallK.intro (dc_spec_l3One x.kind u v ⟨h3k, g5⟩ su sv) ?_; simp -dsimp (maxSteps := 2000000) [go_sem, -decide_eq_true_eq, -decide_eq_false_iff_not, hx, hlen, hu, hu3, hvv, hvv3]) | omega | exact True.intro
       all_goals clear hk k
       refine AW.seq ?_
       refine rg [0,1,6,7,10,53] ?_
       intro k hk; simp -dsimp [go_sem, -decide_eq_true_eq, -decide_eq_false_iff_not, hx, hlen]
       repeat' first | apply And.intro | refine hk _ ?_ | intro hg | omega | exact True.intro
       all_goals clear hk k
       refine AW.cond rfl ?_ ?_
       ·intro hc; try simp at hc
        all_goals try (exfalso; omega; done)
        all_goals (
         refine rg [4,5] ?_
         intro k hk; simp -dsimp [go_sem, -decide_eq_true_eq, -decide_eq_false_iff_not, hx, hlen]
         repeat' first | apply And.intro | refine hk _ ?_ | intro hg | omega | exact True.intro
         all_goals clear hk k
         refine rt ?_
         first | (have hbd : evBad x vars (evL e vars i) = true := (by rw [heb]; simp at hc ⊢; grind); rw [ev_bad hlt hx hbd]; simp [go_sem, Tryz.results86]; done) | (have he : evalB e vars = true := hok; rw [he, hzi]; simp [go_sem, Tryz.results86]))
       ·intro hc; try simp at hc
        all_goals try (exfalso; omega; done)
        all_goals (
         refine AW.skipN (fun _ h => h) ?_
         have hno : ¬ (x.kind = 6 ∧ v = 0) := by intro h; simp [h] at hc
         have hbad : evBad x vars (evL e vars i) = false := by rw [heb]; simp at hc ⊢; grind
         refine rgN [0,1,6,7,9] (fun _ h => h) ?_
         intro k hk; simp -dsimp [go_sem, -decide_eq_true_eq, -decide_eq_false_iff_not, hx, hlen, hno]
         repeat' first | apply And.intro | refine hk _ ?_ | intro hg | omega | exact True.intro
         all_goals clear hk k
         try (have hk1 : x.kind = 1 := (by omega); obtain ⟨hev, hbad⟩ := ev_one (vars := vars) (out := evL e vars i) hk1 (f1 hk1))
         refine rgN [0,1,6,7] (fun _ h => h) ?_
         intro k hk; simp -dsimp [go_sem, -decide_eq_true_eq, -decide_eq_false_iff_not, hx, hlen]
         repeat' first | apply And.intro | refine hk _ ?_ | intro hg | omega | exact True.intro
         all_goals clear hk k
         refine rgK ?_
         intro k hk; simp -dsimp [go_sem, -decide_eq_true_eq, -decide_eq_false_iff_not, hx, hlen]
         repeat' first | apply And.intro | refine hk _ ?_ | intro hg | omega | exact True.intro
         all_goals clear hk k
         show ∃ _, _
         have hw := wrapi hlt (by omega)
         have hnx : ∃ w : Int, evV x vars (evL e vars i) = w ∧ evBad x vars (evL e vars i) = false := ⟨_, rfl, hbad⟩
         refine ⟨i + 1, ⟨by omega, ev_next hx hok hbad⟩, by omega, Less.of rfl (by simp [go_sem, hw]) (by rw [evL_succ hx, hev]; simp [go_sem, htk])⟩))
     ·intro hc; try simp at hc
      all_goals try (exfalso; omega; done)
      all_goals (
       refine AW.skipN (fun _ h => h) ?_
       try (have hk1 : x.kind = 1 := (by omega); obtain ⟨hev, hbad⟩ := ev_one (vars := vars) (out := evL e vars i) hk1 (f1 hk1))
       refine rgN [0,1,6,7] (fun _ h => h) ?_
       intro k hk; simp -dsimp [go_sem, -decide_eq_true_eq, -decide_eq_false_iff_not, hx, hlen]
       repeat' first | apply And.intro | refine hk _ ?_ | intro hg | omega | exact True.intro
       all_goals clear hk k
       refine rgK ?_
       intro k hk; simp -dsimp [go_sem, -decide_eq_true_eq, -decide_eq_false_iff_not, hx, hlen]
       repeat' first | apply And.intro | refine hk _ ?_ | intro hg | omega | exact True.intro
       all_goals clear hk k
       show ∃ _, _
       have hw := wrapi hlt (by omega)
       have hnx : ∃ w : Int, evV x vars (evL e vars i) = w ∧ evBad x vars (evL e vars i) = false := ⟨_, rfl, hbad⟩
       refine ⟨i + 1, ⟨by omega, ev_next hx hok hbad⟩, by omega, Less.of rfl (by simp [go_sem, hw]) (by rw [evL_succ hx, hev]; simp [go_sem, htk])⟩)))
 ·intro hc; try simp at hc
  all_goals try (exfalso; omega; done)
  all_goals (
   refine AW.exitN (fun _ h => h) ?_
   obtain rfl : i = e.length := (by omega)
   have hlen := evL_len e vars e.length
   have hwl : IntKind.wrap .i64 ((e.length : Int) - 1) = (e.length : Int) - 1 := wrap64 (by omega) (by omega)
   have hnt : ((e.length : Int) - 1).toNat = e.length - 1 := by omega
   obtain ⟨z, hz⟩ := at_some (l := evL e vars e.length) (i := e.length - 1) (by omega)
   have hz3 : ∀ h, (evL e vars e.length)[e.length - 1]'h = z := fun h => by have h9 := hz; rw [List.getElem?_eq_getElem h] at h9; exact Option.some.inj h9
   have hzi : evalI e vars = z := by unfold evalI lastI; rw [hlen, List.getD_eq_getElem?_getD, hz]; rfl
   refine rg [4,5] ?_
   intro k hk; simp -dsimp (maxSteps := 2000000) [go_sem, -decide_eq_true_eq, -decide_eq_false_iff_not, hwl, hnt, hz, hz3, hlen]
   repeat' first | apply And.intro | refine hk _ ?_ | intro hg | omega | exact True.intro
   all_goals clear hk k
   refine rt ?_
   first | (have hbd : evBad x vars (evL e vars i) = true := (by rw [heb]; simp at hc ⊢; grind); rw [ev_bad hlt hx hbd]; simp [go_sem, Tryz.results86]; done) | (have he : evalB e vars = true := hok; rw [he, hzi]; simp [go_sem, Tryz.results86]))
end Go.AM
namespace Go.AM
open Go.Proofs
theorem dc_spec_l9Choose (p : List TStep) (hP : ProcOk p) (a : Nat) (ha : a < p.length) (c : TChart) (hw : WfC p c) : DC Tryz.prog 85 [.isl 6 (p.map TStep.ro), .ip c.ro, .int .i64 (a : Nat)] (.int .i64 (chF p c.vars (kids p (a : Int)))) [] := by
 have hkl := kids_len p (a : Int)
 have hp := hP.len.2
 refine DC.intro tiOk Tryz.func85 rfl rfl rfl rfl rfl rfl rfl rfl [] ?_
 refine rgA [0,1,2] ?_
 refine rg [0,1,7] ?_
 intro k hk; simp -dsimp (maxSteps := 2000000) [go_sem, -decide_eq_true_eq, -decide_eq_false_iff_not]
 repeat' first | apply And.intro | refine hk _ ?_ | intro hg | (refine CallK.intro (dc_spec_l4Kids p (a : Int) (by omega) (by rw [hP.par0]; omega)) ?_; simp -dsimp (maxSteps := 2000000) [go_sem, -decide_eq_true_eq, -decide_eq_false_iff_not]) | omega | exact True.intro
 all_goals clear hk k
 refine AW.seq ?_
 refine rgA [0,1,7,8] ?_
 refine AW.block ?_
 refine AW.loopI (fun i : Nat => ⟨53, [(0, .isl 6 (p.map TStep.ro)), (1, .ip c.ro), (7, .sl 1014 1 0 (kids p (a : Int)).length), (8, .int .i64 (i : Nat))], [(1014, some ⟨1, (kids p (a : Int)).map I1⟩)]⟩) (fun i => i ≤ (kids p (a : Int)).length ∧ chF p c.vars (kids p (a : Int)) = chF p c.vars ((kids p (a : Int)).drop i)) (fun i => (kids p (a : Int)).length - i) (0) (⟨Nat.zero_le _, rfl⟩) (Less.of rfl (by simp [go_sem]) (by simp [go_sem])) ?_
 rintro i ⟨hi, hinv⟩
 refine AW.seq ?_
 refine rgA [0,1,7,8,18] ?_
 refine AW.cond rfl ?_ ?_
 ·intro hc; try simp [-List.length_eq_zero_iff] at hc
  all_goals try (exfalso; omega; done)
  all_goals (
   have hlt : i < (kids p (a : Int)).length := by first | assumption | omega
   obtain ⟨u, hu⟩ := at_some hlt
   have hum := List.mem_of_getElem? hu
   obtain ⟨m, rfl, ham, hmp, hpm, hme⟩ := hP.kid hum
   have hum2 := kids_bd hum
   obtain ⟨x, hx⟩ := at_some (l := p) (i := m) (by omega)
   have hxn := nS_at hx
   have hst := chF_step (p := p) (vars := c.vars) hu
   have hgd : 0 < (nS p m).cond.length → EGood (nS p m).cond := fun h => hP.cond hmp h
   rw [Int.toNat_natCast] at hst
   rw [hxn] at hst hgd
   have hx3 : ∀ h, p[m]'h = x := fun h => by have h9 := hx; rw [List.getElem?_eq_getElem h] at h9; exact Option.some.inj h9
   have hu3 : ∀ h, (kids p (a : Int))[i]'h = ((m : Nat) : Int) := fun h => by have h9 := hu; rw [List.getElem?_eq_getElem h] at h9; exact Option.some.inj h9
   refine AW.skipN (fun _ h => h) ?_
   refine AW.seq ?_
   refine AW.block ?_
   refine rg [0,1,7,8,9] ?_
   intro k hk; simp -dsimp (maxSteps := 2000000) [go_sem, -decide_eq_true_eq, -decide_eq_false_iff_not, hx, hu, hx3, hu3]
   repeat' first | apply And.intro | refine hk _ ?_ | intro hg | omega | exact True.intro
   all_goals clear hk k
   refine AW.seq ?_
   refine rg [0,1,7,8,9,31] ?_
   intro k hk; simp -dsimp [go_sem, -decide_eq_true_eq, -decide_eq_false_iff_not, hx, hu, hx3, hu3]
   repeat' first | apply And.intro | refine hk _ ?_ | intro hg | omega | exact True.intro
   all_goals clear hk k
   refine AW.cond rfl ?_ ?_
   ·intro hc; try simp [-List.length_eq_zero_iff] at hc
    all_goals try (exfalso; omega; done)
    all_goals (
     refine rg [6] ?_
     intro k hk; simp -dsimp [go_sem, -decide_eq_true_eq, -decide_eq_false_iff_not, hx, hu, hx3, hu3]
     repeat' first | apply And.intro | refine hk _ ?_ | intro hg | omega | exact True.intro
     all_goals clear hk k
     refine rt ?_
     rw [hinv]
     first | (rw [hst, if_pos (show x.cond.length = 0 by first | omega | assumption | contradiction | (exact List.length_pos_iff.2 (by assumption)) | (exact List.length_eq_zero_iff.2 (by assumption)) | (simp_all; done) | (simp_all; omega))]; simp [go_sem, Tryz.results85]; done) | (rw [hst, if_neg (show ¬ x.cond.length = 0 by first | omega | assumption | contradiction | (exact List.length_pos_iff.2 (by assumption)) | (exact List.length_eq_zero_iff.2 (by assumption)) | (simp_all; done) | (simp_all; omega)), if_pos (show evalB x.cond c.vars = false by first | omega | assumption | contradiction | (exact List.length_pos_iff.2 (by assumption)) | (exact List.length_eq_zero_iff.2 (by assumption)) | (simp_all; done) | (simp_all; omega))]; simp [go_sem, Tryz.results85]; done) | (rw [hst, if_neg (show ¬ x.cond.length = 0 by first | omega | assumption | contradiction | (exact List.length_pos_iff.2 (by assumption)) | (exact List.length_eq_zero_iff.2 (by assumption)) | (simp_all; done) | (simp_all; omega)), if_neg (show ¬ evalB x.cond c.vars = false by first | omega | assumption | contradiction | (exact List.length_pos_iff.2 (by assumption)) | (exact List.length_eq_zero_iff.2 (by assumption)) | (simp_all; done) | (simp_all; omega)), if_pos (show evalI x.cond c.vars = 1 by first | omega | assumption | contradiction | (exact List.length_pos_iff.2 (by assumption)) | (exact List.length_eq_zero_iff.2 (by assumption)) | (simp_all; done) | (simp_all; omega))]; simp [go_sem, Tryz.results85]; done) | (rw [List.drop_of_length_le (by omega)]; simp [go_sem, Tryz.results85, chF]))
   ·intro hc; try simp [-List.length_eq_zero_iff] at hc
    all_goals try (exfalso; omega; done)
    all_goals (
     refine AW.skipN (fun _ h => h) ?_
     have hg := hgd (by first | omega | assumption | contradiction | (exact List.length_pos_iff.2 (by assumption)) | (exact List.length_eq_zero_iff.2 (by assumption)) | (simp_all; done) | (simp_all; omega))
     refine rg [0,1,7,8,10,11] ?_
     intro k hk; simp -dsimp (maxSteps := 2000000) [go_sem, -decide_eq_true_eq, -decide_eq_false_iff_not, hx, hu, hx3, hu3]
     repeat' first | apply And.intro | refine hk _ ?_ | intro hg | (refine CallK.intro (dc_spec_l3Eval x.cond c.vars hg.len hg.parts hg.ty hw.vars hw.small) ?_; simp -dsimp (maxSteps := 2000000) [go_sem, -decide_eq_true_eq, -decide_eq_false_iff_not, hx, hu, hx3, hu3]) | omega | exact True.intro
     all_goals clear hk k
     refine AW.seq ?_
     refine rg [0,1,7,8,10,46] ?_
     intro k hk; simp -dsimp [go_sem, -decide_eq_true_eq, -decide_eq_false_iff_not, hx, hu, hx3, hu3]
     repeat' first | apply And.intro | refine hk _ ?_ | intro hg | omega | exact True.intro
     all_goals clear hk k
     refine AW.cond rfl ?_ ?_
     ·intro hc; try simp [-List.length_eq_zero_iff] at hc
      all_goals try (exfalso; omega; done)
      all_goals (
       refine rg [6] ?_
       intro k hk; simp -dsimp [go_sem, -decide_eq_true_eq, -decide_eq_false_iff_not, hx, hu, hx3, hu3]
       repeat' first | apply And.intro | refine hk _ ?_ | intro hg | omega | exact True.intro
       all_goals clear hk k
       refine rt ?_
       rw [hinv]
       first | (rw [hst, if_pos (show x.cond.length = 0 by first | omega | assumption | contradiction | (exact List.length_pos_iff.2 (by assumption)) | (exact List.length_eq_zero_iff.2 (by assumption)) | (simp_all; done) | (simp_all; omega))]; simp [go_sem, Tryz.results85]; done) | (rw [hst, if_neg (show ¬ x.cond.length = 0 by first | omega | assumption | contradiction | (exact List.length_pos_iff.2 (by assumption)) | (exact List.length_eq_zero_iff.2 (by assumption)) | (simp_all; done) | (simp_all; omega)), if_pos (show evalB x.cond c.vars = false by first | omega | assumption | contradiction | (exact List.length_pos_iff.2 (by assumption)) | (exact List.length_eq_zero_iff.2 (by assumption)) | (simp_all; done) | (simp_all; omega))]; simp [go_sem, Tryz.results85]; done) | (rw [hst, if_neg (show ¬ x.cond.length = 0 by first | omega | assumption | contradiction | (exact List.length_pos_iff.2 (by assumption)) | (exact List.length_eq_zero_iff.2 (by assumption)) | (simp_all; done) | (simp_all; omega)), if_neg (show ¬ evalB x.cond c.vars = false by first | omega | assumption | contradiction | (exact List.length_pos_iff.2 (by assumption)) | (exact List.length_eq_zero_iff.2 (by assumption)) | (simp_all; done) | (simp_all; omega)), if_pos (show evalI x.cond c.vars = 1 by first | omega | assumption | contradiction | (exact List.length_pos_iff.2 (by assumption)) | (exact List.length_eq_zero_iff.2 (by assumption)) | (simp_all; done) | (simp_all; omega))]; simp [go_sem, Tryz.results85]; done) | (rw [List.drop_of_length_le (by omega)]; simp [go_sem, Tryz.results85, chF]))
     ·intro hc; try simp [-List.length_eq_zero_iff] at hc
      all_goals try (exfalso; omega; done)
      all_goals (
       refine AW.skipN (fun _ h => h) ?_
       refine rg [0,1,7,8,48] ?_
       intro k hk; simp -dsimp [go_sem, -decide_eq_true_eq, -decide_eq_false_iff_not, hx, hu, hx3, hu3]
       repeat' first | apply And.intro | refine hk _ ?_ | intro hg | omega | exact True.intro
       all_goals clear hk k
       refine AW.cond rfl ?_ ?_
       ·intro hc; try simp [-List.length_eq_zero_iff] at hc
        all_goals try (exfalso; omega; done)
        all_goals (
         refine rg [6] ?_
         intro k hk; simp -dsimp [go_sem, -decide_eq_true_eq, -decide_eq_false_iff_not, hx, hu, hx3, hu3]
         repeat' first | apply And.intro | refine hk _ ?_ | intro hg | omega | exact True.intro
         all_goals clear hk k
         refine rt ?_
         rw [hinv]
         first | (rw [hst, if_pos (show x.cond.length = 0 by first | omega | assumption | contradiction | (exact List.length_pos_iff.2 (by assumption)) | (exact List.length_eq_zero_iff.2 (by assumption)) | (simp_all; done) | (simp_all; omega))]; simp [go_sem, Tryz.results85]; done) | (rw [hst, if_neg (show ¬ x.cond.length = 0 by first | omega | assumption | contradiction | (exact List.length_pos_iff.2 (by assumption)) | (exact List.length_eq_zero_iff.2 (by assumption)) | (simp_all; done) | (simp_all; omega)), if_pos (show evalB x.cond c.vars = false by first | omega | assumption | contradiction | (exact List.length_pos_iff.2 (by assumption)) | (exact List.length_eq_zero_iff.2 (by assumption)) | (simp_all; done) | (simp_all; omega))]; simp [go_sem, Tryz.results85]; done) | (rw [hst, if_neg (show ¬ x.cond.length = 0 by first | omega | assumption | contradiction | (exact List.length_pos_iff.2 (by assumption)) | (exact List.length_eq_zero_iff.2 (by assumption)) | (simp_all; done) | (simp_all; omega)), if_neg (show ¬ evalB x.cond c.vars = false by first | omega | assumption | contradiction | (exact List.length_pos_iff.2 (by assumption)) | (exact List.length_eq_zero_iff.2 (by assumption)) | (simp_all; done) | (simp_all; omega)), if_pos (show evalI x.cond c.vars = 1 by first | omega | assumption | contradiction | (exact List.length_pos_iff.2 (by assumption)) | (exact List.length_eq_zero_iff.2 (by assumption)) | (simp_all; done) | (simp_all; omega))]; simp [go_sem, Tryz.results85]; done) | (rw [List.drop_of_length_le (by omega)]; simp [go_sem, Tryz.results85, chF]))
       ·intro hc; try simp [-List.length_eq_zero_iff] at hc
        all_goals try (exfalso; omega; done)
        all_goals (
         refine AW.skipN (fun _ h => h) ?_
         refine rgK ?_
         intro k hk; simp -dsimp [go_sem, -decide_eq_true_eq, -decide_eq_false_iff_not, hx, hu, hx3, hu3]
         repeat' first | apply And.intro | refine hk _ ?_ | intro hg | omega | exact True.intro
         all_goals clear hk k
         show ∃ _, _
         have hw := wrapi hlt (by omega)
         have h1 : ¬ x.cond.length = 0 := by first | omega | assumption | contradiction | (exact List.length_pos_iff.2 (by assumption)) | (exact List.length_eq_zero_iff.2 (by assumption)) | (simp_all; done) | (simp_all; omega)
         have h2 : ¬ evalB x.cond c.vars = false := by first | omega | assumption | contradiction | (exact List.length_pos_iff.2 (by assumption)) | (exact List.length_eq_zero_iff.2 (by assumption)) | (simp_all; done) | (simp_all; omega)
         have h3 : ¬ evalI x.cond c.vars = 1 := by first | omega | assumption | contradiction | (exact List.length_pos_iff.2 (by assumption)) | (exact List.length_eq_zero_iff.2 (by assumption)) | (simp_all; done) | (simp_all; omega)
         rw [if_neg h1, if_neg h2, if_neg h3] at hst
         refine ⟨i + 1, ⟨by omega, by rw [hinv, hst]⟩, by omega, Less.of rfl (by simp [go_sem, hw]) (by simp [go_sem])⟩))))
 ·intro hc; try simp [-List.length_eq_zero_iff] at hc
  all_goals try (exfalso; omega; done)
  all_goals (
   refine AW.exitN (fun _ h => h) ?_
   refine rgA [6] ?_
   refine rt ?_
   rw [hinv]
   first | (rw [hst, if_pos (show x.cond.length = 0 by first | omega | assumption | contradiction | (exact List.length_pos_iff.2 (by assumption)) | (exact List.length_eq_zero_iff.2 (by assumption)) | (simp_all; done) | (simp_all; omega))]; simp [go_sem, Tryz.results85]; done) | (rw [hst, if_neg (show ¬ x.cond.length = 0 by first | omega | assumption | contradiction | (exact List.length_pos_iff.2 (by assumption)) | (exact List.length_eq_zero_iff.2 (by assumption)) | (simp_all; done) | (simp_all; omega)), if_pos (show evalB x.cond c.vars = false by first | omega | assumption | contradiction | (exact List.length_pos_iff.2 (by assumption)) | (exact List.length_eq_zero_iff.2 (by assumption)) | (simp_all; done) | (simp_all; omega))]; simp [go_sem, Tryz.results85]; done) | (rw [hst, if_neg (show ¬ x.cond.length = 0 by first | omega | assumption | contradiction | (exact List.length_pos_iff.2 (by assumption)) | (exact List.length_eq_zero_iff.2 (by assumption)) | (simp_all; done) | (simp_all; omega)), if_neg (show ¬ evalB x.cond c.vars = false by first | omega | assumption | contradiction | (exact List.length_pos_iff.2 (by assumption)) | (exact List.length_eq_zero_iff.2 (by assumption)) | (simp_all; done) | (simp_all; omega)), if_pos (show evalI x.cond c.vars = 1 by first | omega | assumption | contradiction | (exact List.length_pos_iff.2 (by assumption)) | (exact List.length_eq_zero_iff.2 (by assumption)) | (simp_all; done) | (simp_all; omega))]; simp [go_sem, Tryz.results85]; done) | (rw [List.drop_of_length_le (by omega)]; simp [go_sem, Tryz.results85, chF]))
end Go.AM
namespace Go.AM
open Go.Proofs
theorem dc_spec_l9End (p : List TStep) (hp : p.length ≤ 24) (c : TChart) (hw : WfC p c) (st : Int) : DC Tryz.prog 59 [.op (crow c), .int .i64 st] (.tup []) [(0, .op (crow (endF p.length st c)))] := by
 have hwa := hw.acts
 have hwd := hw.dues
 refine DC.introG tiOk Tryz.func59 rfl rfl rfl rfl rfl rfl rfl (by simp [noW, noWo]) [] ?_
 refine rgA [0] ?_
 refine AW.thaw (nd := ?nd_1) (c := ?c_1) (l := ?l_1) (es := ?es_1) 1900 0 3 7001 ?h1_1 ?h2_1 ?h3_1 ?h45_1 ?kk_1
 (case h1_1 => exact rfl)
 (case h2_1 => exact rfl)
 (case h3_1 => exact rfl)
 (case h45_1 => simp [go_sem])
 refine AW.thaw (nd := ?nd_2) (c := ?c_2) (l := ?l_2) (es := ?es_2) 1900 0 4 7002 ?h1_2 ?h2_2 ?h3_2 ?h45_2 ?kk_2
 (case h1_2 => exact rfl)
 (case h2_2 => exact rfl)
 (case h3_2 => exact rfl)
 (case h45_2 => simp [go_sem])
 refine rgA [0,4] ?_
 refine AW.block ?_
 refine AW.loopI (fun i : Nat => ⟨30, [(0, .ptr 1900 5 0 0), (4, .int .i64 (i : Nat))], [(7001, some ⟨1, (mkP z0 c.acts 0 i).map I1⟩), (7002, some ⟨1, (mkP z0 c.dues 0 i).map I1⟩), (1900, some ⟨5, [[.int .i64 st, .int .i64 c.now, .osl 1 (c.vars.map I1), .sl 7001 1 0 p.length, .sl 7002 1 0 p.length]]⟩)]⟩) (fun i => i ≤ p.length) (fun i => p.length - i) (0) (Nat.zero_le _) (Less.of rfl (by simp [go_sem]) (by simp [go_sem, mkP_zero, hwa, hwd])) ?_
 rintro i hi
 refine AW.seq ?_
 refine rgA [0,4,15] ?_
 refine AW.cond rfl ?_ ?_
 ·intro hc; try simp at hc
  all_goals (
   have hlt : i < p.length := by first | assumption | omega
   have hac : (mkP z0 c.acts 0 i).length = p.length := by rw [mkP_len (by rw [hw.acts]; omega), hw.acts]
   have hdc : (mkP z0 c.dues 0 i).length = p.length := by rw [mkP_len (by rw [hw.dues]; omega), hw.dues]
   obtain ⟨u, hu⟩ := at_some (l := mkP z0 c.acts 0 i) (i := i) (by omega)
   obtain ⟨v, hv⟩ := at_some (l := mkP z0 c.dues 0 i) (i := i) (by omega)
   have hst := endN_step (c := c) (st := st) (i := i) (by rw [hw.acts]; exact hlt) (by rw [hw.dues]; exact hlt)
   refine AW.skipN (fun _ h => h) ?_
   refine AW.seq ?_
   refine AW.block ?_
   refine rg [0,4] ?_
   intro k hk; simp -dsimp (maxSteps := 2000000) [go_sem, -decide_eq_true_eq, -decide_eq_false_iff_not, hac, hdc, hwa, hwd]
   repeat' first | apply And.intro | refine hk _ ?_ | intro hg | omega | exact True.intro
   all_goals clear hk k
   refine rgN [0,4] (fun _ h => h) ?_
   intro k hk; simp -dsimp (maxSteps := 2000000) [go_sem, -decide_eq_true_eq, -decide_eq_false_iff_not, hac, hdc, hwa, hwd]
   repeat' first | apply And.intro | refine hk _ ?_ | intro hg | omega | exact True.intro
   all_goals clear hk k
   refine rgK ?_
   intro k hk; simp -dsimp [go_sem, -decide_eq_true_eq, -decide_eq_false_iff_not, hac, hdc, hwa, hwd]
   repeat' first | apply And.intro | refine hk _ ?_ | intro hg | omega | exact True.intro
   all_goals clear hk k
   show ∃ _, _
   have hww := wrapi hlt (by omega)
   simp only [endN, TChart.mk.injEq] at hst
   refine ⟨i + 1, by omega, by omega, Less.of rfl (by simp [go_sem, hww]) (by rw [hst.2.2.2.1, hst.2.2.2.2]; simp [go_sem, List.map_set, hu, hv])⟩)
 ·intro hc; try simp at hc
  all_goals (
   refine AW.exit ?_
   refine And.intro (.inl rfl) ?_
   obtain rfl : i = p.length := (by omega)
   refine Gh.fold 1900 0 3 7001 rfl rfl rfl rfl (by rw [List.length_map, mkP_len (by omega), hwa]) (by decide) (by simp [go_sem]) ?_
   refine Gh.fold 1900 0 4 7002 rfl rfl rfl rfl (by rw [List.length_map, mkP_len (by omega), hwd]) (by decide) (by simp [go_sem]) ?_
   refine Gh.done ?_
   rw [← endN_end hw st]; simp [go_sem, Tryz.results59, endN])
end Go.AM
namespace Go.AM
open Go.Proofs
set_option maxHeartbeats 8000000 in
theorem dc_spec_l9Enter (p : List TStep) (hP : ProcOk p) (f : Nat) (hE : ∀ (k : Int) (c : TChart), 0 ≤ k → k.toNat < p.length → WfC p c → mE (pars p) k.toNat ≤ f → DC Tryz.prog 61 [.isl 6 (p.map TStep.ro), .op (crow c), .int .i64 k] (.tup []) [(1, .op (crow (goF p f true k.toNat c)))]) (hO : ∀ (k : Int) (c : TChart), 0 ≤ k → k.toNat < p.length → WfC p c → mO (pars p) k.toNat ≤ f → DC Tryz.prog 32 [.isl 6 (p.map TStep.ro), .op (crow c), .int .i64 k] (.tup []) [(1, .op (crow (goF p f false k.toNat c)))]) (a : Nat) (ha : a < p.length) (c : TChart) (hw : WfC p c) (hm : mE (pars p) a ≤ f + 1) : DC Tryz.prog 61 [.isl 6 (p.map TStep.ro), .op (crow c), .int .i64 (a : Nat)] (.tup []) [(1, .op (crow (goF p (f + 1) true a c)))] := by
 have hkl := kids_len p (a : Int)
 have hp := hP.len.2
 have hpl := pars_len p
 obtain ⟨x, hx⟩ := at_some ha
 have hxn := nS_at hx
 have hx3 : ∀ h, p[a]'h = x := fun h => by have h9 := hx; rw [List.getElem?_eq_getElem h] at h9; exact Option.some.inj h9
 have hac := hw.acts
 have hdc := hw.dues
 have hvc := hw.vars
 have hw1 := hw.setA (a : Int) 1
 have hkE : ∀ k ∈ (kids p (a : Int)), 0 ≤ k ∧ k.toNat < p.length ∧ mE (pars p) k.toNat ≤ f := fun k hk => by obtain ⟨m, rfl, h1, h2, h3, h4⟩ := hP.kid hk; rw [Int.toNat_natCast]; omega
 have hmo : mO (pars p) a ≤ f := by have := mE_over hP.pre (a := a) (by omega) (by omega); omega
 have hnow := inR_iff.1 hw.now
 have hmany := hP.many ha
 have harg := fun h => hP.arg ha h
 rw [hxn] at hmany harg
 refine DC.introG tiOk Tryz.func61 rfl rfl rfl rfl rfl rfl rfl (by simp [noW, noWo]) [] ?_
 refine AW.seq ?_
 refine rg [0,1,2,15] ?_
 intro k hk; simp -dsimp [go_sem, -decide_eq_true_eq, -decide_eq_false_iff_not, -List.map_set, set_I1, set_I1b, hac, hdc, hx, hx3, setA_vars]
 repeat' first | apply And.intro | refine hk _ ?_ | intro hg | omega | exact True.intro
 all_goals clear hk k
 refine AW.cond rfl ?_ ?_
 ·intro hc; try simp [-List.length_eq_zero_iff] at hc
  all_goals try (exfalso; first | omega | contradiction; done)
  all_goals (
   refine AW.ret ⟨.inr rfl, ?_⟩
   try (refine Gh.fold 1901 0 4 7002 rfl rfl rfl rfl (by simp [hdc]) (by decide) (by simp [go_sem]) ?_)
   refine Gh.done ?_
   first | (rw [go_off (by simpa using hc)]; simp [go_sem, Tryz.results61]; done) | (have h9 := go_seq (p := p) (f := f) (a := a) hs (by rw [hxn]; exact hq1); rw [h9]; simp [go_sem, Tryz.results61]; done) | (have h9 := go_and (p := p) (f := f) (a := a) hs (by rw [hxn]; exact hq4); rw [← goN_end (i := i) (by omega)] at h9; rw [h9]; simp [go_sem, Tryz.results61]; done) | (have h9 := go_xor (p := p) (f := f) (a := a) hs (by rw [hxn]; exact hq3); first | (rw [if_pos (by omega)] at h9; rw [h9]; simp [go_sem, Tryz.results61]; done) | (rw [if_neg (by omega)] at h9; rw [h9]; simp [go_sem, Tryz.results61]; done)) | (have h9 := go_guard (p := p) (f := f) (a := a) hs (by rw [hxn]; exact hq8); rw [hxn] at h9; rw [h9]; simp [go_sem, Tryz.results61]; done) | (have h9 := go_timer (p := p) (f := f) (a := a) hs (by rw [hxn]; exact hq6); rw [hxn] at h9; rw [h9]; simp [go_sem, Tryz.results61, setA, setD, -List.map_set, set_I1, set_I1b]; done) | (have h9 := go_set (p := p) (f := f) (a := a) hs (by rw [hxn]; exact hq7); rw [hxn, if_pos (show evalB x.expr c.vars = false by simpa using hc)] at h9; rw [h9]; simp [go_sem, Tryz.results61]; done) | (have h9 := go_set (p := p) (f := f) (a := a) hs (by rw [hxn]; exact hq7); rw [hxn, if_neg (show ¬ evalB x.expr c.vars = false by rw [hb]; decide)] at h9; rw [h9]; simp [go_sem, Tryz.results61]; done) | (rw [go_rest hs (by rw [hxn]; exact n1) (by rw [hxn]; exact n4) (by rw [hxn]; exact n3) (by rw [hxn]; exact n8) (by rw [hxn]; exact n6) (by rw [hxn]; simpa using hc)]; simp [go_sem, Tryz.results61, setA, -List.map_set, set_I1, set_I1b]))
 ·intro hc; try simp [-List.length_eq_zero_iff] at hc
  all_goals try (exfalso; first | omega | contradiction; done)
  all_goals (
   refine AW.skipN (fun _ h => h) ?_
   have hs : c.status = 1 := by simpa using hc
   refine AW.thaw (nd := ?nd_1) (c := ?c_1) (l := ?l_1) (es := ?es_1) 1901 0 3 7001 ?h1_1 ?h2_1 ?h3_1 ?h45_1 ?kk_1
   (case h1_1 => exact rfl)
   (case h2_1 => exact rfl)
   (case h3_1 => exact rfl)
   (case h45_1 => simp [go_sem])
   refine rg [0,1,2] ?_
   intro k hk; simp -dsimp (maxSteps := 2000000) [go_sem, -decide_eq_true_eq, -decide_eq_false_iff_not, -List.map_set, set_I1, set_I1b, hac, hdc, hx, hx3, setA_vars]
   repeat' first | apply And.intro | refine hk _ ?_ | intro hg | omega | exact True.intro
   all_goals clear hk k
   refine AW.fold (nd := ?nd_2) (c := ?c_2) (l := ?l_2) (es := ?es_2) (n := ?n_2) 1901 0 3 7001 ?h1_2 ?h2_2 ?h4_2 ?h3_2 ?hn_2 (by decide) ?h6_2 ?kk_2
   (case h1_2 => exact rfl)
   (case h2_2 => exact rfl)
   (case h4_2 => exact rfl)
   (case h3_2 => exact rfl)
   (case hn_2 => simp [hac, hdc, hvc])
   (case h6_2 => simp [go_sem, hac, hdc, hvc])
   refine rg [0,1,2,6] ?_
   intro k hk; simp -dsimp (maxSteps := 2000000) [go_sem, -decide_eq_true_eq, -decide_eq_false_iff_not, -List.map_set, set_I1, set_I1b, hac, hdc, hx, hx3, setA_vars]
   repeat' first | apply And.intro | refine hk _ ?_ | intro hg | (refine CallK.intro (dc_spec_l4Kids p (a : Int) hp (by rw [hP.par0]; omega)) ?_; simp -dsimp (maxSteps := 2000000) [go_sem, -decide_eq_true_eq, -decide_eq_false_iff_not, -List.map_set, set_I1, set_I1b, hac, hdc, hx, hx3, setA_vars]) | omega | exact True.intro
   all_goals clear hk k
   refine rg [0,1,2,6,29] ?_
   intro k hk; simp -dsimp [go_sem, -decide_eq_true_eq, -decide_eq_false_iff_not, -List.map_set, set_I1, set_I1b, hac, hdc, hx, hx3, setA_vars]
   repeat' first | apply And.intro | refine hk _ ?_ | intro hg | omega | exact True.intro
   all_goals clear hk k
   refine AW.block ?_
   refine rg [0,1,2,6,29,30] ?_
   intro k hk; simp -dsimp [go_sem, -decide_eq_true_eq, -decide_eq_false_iff_not, -List.map_set, set_I1, set_I1b, hac, hdc, hx, hx3, setA_vars]
   repeat' first | apply And.intro | refine hk _ ?_ | intro hg | omega | exact True.intro
   all_goals clear hk k
   refine AW.cond rfl ?_ ?_
   ·intro hc; try simp [-List.length_eq_zero_iff] at hc
    all_goals try (exfalso; first | omega | contradiction; done)
    all_goals (
     have hq1 : x.kind = 1 := by simpa using hc
     have hkn : (kids p (a : Int)) ≠ [] := by intro e; rw [e, hq1] at hmany; simp [kidLo] at hmany
     have hhd := head_at hkn
     have hhm := List.mem_of_getElem? hhd
     have hke := hkE _ hhm
     have hhd3 : ∀ h, (kids p (a : Int))[0]'h = headI (kids p (a : Int)) := fun h => by have h9 := hhd; rw [List.getElem?_eq_getElem h] at h9; exact Option.some.inj h9
     have hkp := List.length_pos_iff.2 hkn
     refine rgE (fun _ => [1]) ?_
     intro k hk; simp -dsimp (maxSteps := 2000000) [go_sem, -decide_eq_true_eq, -decide_eq_false_iff_not, -List.map_set, set_I1, set_I1b, hac, hdc, hx, hx3, setA_vars, hhd, hhd3]
     repeat' first | apply And.intro | refine hk _ ?_ | intro hg | (refine CallK.intro (hE (headI (kids p (a : Int))) (setA c (a : Int) 1) hke.1 hke.2.1 hw1 hke.2.2) ?_; simp -dsimp (maxSteps := 2000000) [go_sem, -decide_eq_true_eq, -decide_eq_false_iff_not, -List.map_set, set_I1, set_I1b, hac, hdc, hx, hx3, setA_vars, hhd, hhd3]) | omega | exact True.intro
     all_goals clear hk k
     refine ⟨.intro, And.intro (.inl rfl) ?_⟩
     try (refine Gh.fold 1901 0 4 7002 rfl rfl rfl rfl (by simp [hdc]) (by decide) (by simp [go_sem]) ?_)
     refine Gh.done ?_
     first | (rw [go_off (by simpa using hc)]; simp [go_sem, Tryz.results61]; done) | (have h9 := go_seq (p := p) (f := f) (a := a) hs (by rw [hxn]; exact hq1); rw [h9]; simp [go_sem, Tryz.results61]; done) | (have h9 := go_and (p := p) (f := f) (a := a) hs (by rw [hxn]; exact hq4); rw [← goN_end (i := i) (by omega)] at h9; rw [h9]; simp [go_sem, Tryz.results61]; done) | (have h9 := go_xor (p := p) (f := f) (a := a) hs (by rw [hxn]; exact hq3); first | (rw [if_pos (by omega)] at h9; rw [h9]; simp [go_sem, Tryz.results61]; done) | (rw [if_neg (by omega)] at h9; rw [h9]; simp [go_sem, Tryz.results61]; done)) | (have h9 := go_guard (p := p) (f := f) (a := a) hs (by rw [hxn]; exact hq8); rw [hxn] at h9; rw [h9]; simp [go_sem, Tryz.results61]; done) | (have h9 := go_timer (p := p) (f := f) (a := a) hs (by rw [hxn]; exact hq6); rw [hxn] at h9; rw [h9]; simp [go_sem, Tryz.results61, setA, setD, -List.map_set, set_I1, set_I1b]; done) | (have h9 := go_set (p := p) (f := f) (a := a) hs (by rw [hxn]; exact hq7); rw [hxn, if_pos (show evalB x.expr c.vars = false by simpa using hc)] at h9; rw [h9]; simp [go_sem, Tryz.results61]; done) | (have h9 := go_set (p := p) (f := f) (a := a) hs (by rw [hxn]; exact hq7); rw [hxn, if_neg (show ¬ evalB x.expr c.vars = false by rw [hb]; decide)] at h9; rw [h9]; simp [go_sem, Tryz.results61]; done) | (rw [go_rest hs (by rw [hxn]; exact n1) (by rw [hxn]; exact n4) (by rw [hxn]; exact n3) (by rw [hxn]; exact n8) (by rw [hxn]; exact n6) (by rw [hxn]; simpa using hc)]; simp [go_sem, Tryz.results61, setA, -List.map_set, set_I1, set_I1b]))
   ·intro hc; try simp [-List.length_eq_zero_iff] at hc
    all_goals try (exfalso; first | omega | contradiction; done)
    all_goals (
     have n1 : x.kind ≠ 1 := by simpa using hc
     refine rg [0,1,2,6,29,38] ?_
     intro k hk; simp -dsimp [go_sem, -decide_eq_true_eq, -decide_eq_false_iff_not, -List.map_set, set_I1, set_I1b, hac, hdc, hx, hx3, setA_vars]
     repeat' first | apply And.intro | refine hk _ ?_ | intro hg | omega | exact True.intro
     all_goals clear hk k
     refine AW.cond rfl ?_ ?_
     ·intro hc; try simp [-List.length_eq_zero_iff] at hc
      all_goals try (exfalso; first | omega | contradiction; done)
      all_goals (
       have hq4 : x.kind = 4 := by simpa using hc
       refine rg [0,1,6,7] ?_
       intro k hk; simp -dsimp [go_sem, -decide_eq_true_eq, -decide_eq_false_iff_not, -List.map_set, set_I1, set_I1b, hac, hdc, hx, hx3, setA_vars]
       repeat' first | apply And.intro | refine hk _ ?_ | intro hg | omega | exact True.intro
       all_goals clear hk k
       refine AW.block ?_
       refine AW.loopI (fun i : Nat => ⟨143, [(0, .isl 6 (p.map TStep.ro)), (1, .ptr 1901 5 0 0), (6, .sl 1024 1 0 (kids p (a : Int)).length), (7, .int .i64 (i : Nat))], [(1024, some ⟨1, (kids p (a : Int)).map I1⟩), (1901, some ⟨5, [crow (goN p f (kids p (a : Int)) (setA c (a : Int) 1) i)]⟩)]⟩) (fun i => i ≤ (kids p (a : Int)).length) (fun i => (kids p (a : Int)).length - i) (0) (Nat.zero_le _) (Less.of rfl (by simp [go_sem]) (by simp [go_sem, goN_zero, setA])) ?_
       rintro i hi
       refine AW.seq ?_
       refine rg [0,1,6,7,43] ?_
       intro k hk; simp -dsimp [go_sem, -decide_eq_true_eq, -decide_eq_false_iff_not, -List.map_set, set_I1, set_I1b, hac, hdc, hx, hx3, setA_vars]
       repeat' first | apply And.intro | refine hk _ ?_ | intro hg | omega | exact True.intro
       all_goals clear hk k
       refine AW.cond rfl ?_ ?_
       ·intro hc; try simp [-List.length_eq_zero_iff] at hc
        all_goals try (exfalso; first | omega | contradiction; done)
        all_goals (
         have hlt : i < (kids p (a : Int)).length := by first | assumption | omega
         obtain ⟨u, hu⟩ := at_some hlt
         have hku := hkE u (List.mem_of_getElem? hu)
         have hst := goN_step (p := p) (f := f) (c := (setA c (a : Int) 1)) hu
         have hwN := goN_wf (f := f) hP (l := (kids p (a : Int))) (i := i) hw1
         have hu3 : ∀ h, (kids p (a : Int))[i]'h = u := fun h => by have h9 := hu; rw [List.getElem?_eq_getElem h] at h9; exact Option.some.inj h9
         refine AW.skipN (fun _ h => h) ?_
         refine AW.seq ?_
         refine AW.block ?_
         refine AW.regN tiOk (fun _ => [1]) [0,1,6,7] (fun _ h => h) ?_
         intro k hk; simp -dsimp (maxSteps := 2000000) [go_sem, -decide_eq_true_eq, -decide_eq_false_iff_not, -List.map_set, set_I1, set_I1b, hac, hdc, hx, hx3, setA_vars, hu, hu3]
         repeat' first | apply And.intro | refine hk _ ?_ | intro hg | (refine CallK.intro (hE u (goN p f (kids p (a : Int)) (setA c (a : Int) 1) i) hku.1 hku.2.1 hwN hku.2.2) ?_; simp -dsimp (maxSteps := 2000000) [go_sem, -decide_eq_true_eq, -decide_eq_false_iff_not, -List.map_set, set_I1, set_I1b, hac, hdc, hx, hx3, setA_vars, hu, hu3]) | omega | exact True.intro
         all_goals clear hk k
         refine rgK ?_
         intro k hk; simp -dsimp [go_sem, -decide_eq_true_eq, -decide_eq_false_iff_not, -List.map_set, set_I1, set_I1b, hac, hdc, hx, hx3, setA_vars, hu, hu3]
         repeat' first | apply And.intro | refine hk _ ?_ | intro hg | omega | exact True.intro
         all_goals clear hk k
         show ∃ _, _
         have hww := wrapi hlt (by omega)
         refine ⟨i + 1, by omega, by omega, Less.of rfl (by simp [go_sem, hww]) (by rw [hst]; simp [go_sem])⟩)
       ·intro hc; try simp [-List.length_eq_zero_iff] at hc
        all_goals try (exfalso; first | omega | contradiction; done)
        all_goals (
         refine AW.exit ?_
         refine And.intro (.inl rfl) ?_
         try (refine Gh.fold 1901 0 4 7002 rfl rfl rfl rfl (by simp [hdc]) (by decide) (by simp [go_sem]) ?_)
         refine Gh.done ?_
         first | (rw [go_off (by simpa using hc)]; simp [go_sem, Tryz.results61]; done) | (have h9 := go_seq (p := p) (f := f) (a := a) hs (by rw [hxn]; exact hq1); rw [h9]; simp [go_sem, Tryz.results61]; done) | (have h9 := go_and (p := p) (f := f) (a := a) hs (by rw [hxn]; exact hq4); rw [← goN_end (i := i) (by omega)] at h9; rw [h9]; simp [go_sem, Tryz.results61]; done) | (have h9 := go_xor (p := p) (f := f) (a := a) hs (by rw [hxn]; exact hq3); first | (rw [if_pos (by omega)] at h9; rw [h9]; simp [go_sem, Tryz.results61]; done) | (rw [if_neg (by omega)] at h9; rw [h9]; simp [go_sem, Tryz.results61]; done)) | (have h9 := go_guard (p := p) (f := f) (a := a) hs (by rw [hxn]; exact hq8); rw [hxn] at h9; rw [h9]; simp [go_sem, Tryz.results61]; done) | (have h9 := go_timer (p := p) (f := f) (a := a) hs (by rw [hxn]; exact hq6); rw [hxn] at h9; rw [h9]; simp [go_sem, Tryz.results61, setA, setD, -List.map_set, set_I1, set_I1b]; done) | (have h9 := go_set (p := p) (f := f) (a := a) hs (by rw [hxn]; exact hq7); rw [hxn, if_pos (show evalB x.expr c.vars = false by simpa using hc)] at h9; rw [h9]; simp [go_sem, Tryz.results61]; done) | (have h9 := go_set (p := p) (f := f) (a := a) hs (by rw [hxn]; exact hq7); rw [hxn, if_neg (show ¬ evalB x.expr c.vars = false by rw [hb]; decide)] at h9; rw [h9]; simp [go_sem, Tryz.results61]; done) | (rw [go_rest hs (by rw [hxn]; exact n1) (by rw [hxn]; exact n4) (by rw [hxn]; exact n3) (by rw [hxn]; exact n8) (by rw [hxn]; exact n6) (by rw [hxn]; simpa using hc)]; simp [go_sem, Tryz.results61, setA, -List.map_set, set_I1, set_I1b])))
     ·intro hc; try simp [-List.length_eq_zero_iff] at hc
      all_goals try (exfalso; first | omega | contradiction; done)
      all_goals (
       have n4 : x.kind ≠ 4 := by simpa using hc
       refine rg [0,1,2,6,29,53] ?_
       intro k hk; simp -dsimp [go_sem, -decide_eq_true_eq, -decide_eq_false_iff_not, -List.map_set, set_I1, set_I1b, hac, hdc, hx, hx3, setA_vars]
       repeat' first | apply And.intro | refine hk _ ?_ | intro hg | omega | exact True.intro
       all_goals clear hk k
       refine AW.cond rfl ?_ ?_
       ·intro hc; try simp [-List.length_eq_zero_iff] at hc
        all_goals try (exfalso; first | omega | contradiction; done)
        all_goals (
         have hq3 : x.kind = 3 := by simpa using hc
         refine rg [0,1,8] ?_
         intro k hk; simp -dsimp (maxSteps := 2000000) [go_sem, -decide_eq_true_eq, -decide_eq_false_iff_not, -List.map_set, set_I1, set_I1b, hac, hdc, hx, hx3, setA_vars]
         repeat' first | apply And.intro | refine hk _ ?_ | intro hg | (refine CallK.intro (dc_spec_l9Choose p hP a ha (setA c (a : Int) 1) hw1) ?_; simp -dsimp (maxSteps := 2000000) [go_sem, -decide_eq_true_eq, -decide_eq_false_iff_not, -List.map_set, set_I1, set_I1b, hac, hdc, hx, hx3, setA_vars]) | omega | exact True.intro
         all_goals clear hk k
         refine AW.seq ?_
         refine rg [0,1,8,60] ?_
         intro k hk; simp -dsimp [go_sem, -decide_eq_true_eq, -decide_eq_false_iff_not, -List.map_set, set_I1, set_I1b, hac, hdc, hx, hx3, setA_vars]
         repeat' first | apply And.intro | refine hk _ ?_ | intro hg | omega | exact True.intro
         all_goals clear hk k
         refine AW.cond rfl ?_ ?_
         ·intro hc; try simp [-List.length_eq_zero_iff] at hc
          all_goals try (exfalso; first | omega | contradiction; done)
          all_goals (
           refine AW.reg tiOk (fun _ => [0]) [1] ?_
           intro k hk; simp -dsimp (maxSteps := 2000000) [go_sem, -decide_eq_true_eq, -decide_eq_false_iff_not, -List.map_set, set_I1, set_I1b, hac, hdc, hx, hx3, setA_vars]
           repeat' first | apply And.intro | refine hk _ ?_ | intro hg | (refine CallK.intro (dc_spec_l9End p hp (setA c (a : Int) 1) hw1 3) ?_; simp -dsimp (maxSteps := 2000000) [go_sem, -decide_eq_true_eq, -decide_eq_false_iff_not, -List.map_set, set_I1, set_I1b, hac, hdc, hx, hx3, setA_vars]) | omega | exact True.intro
           all_goals clear hk k
           refine AW.ret ⟨.inr rfl, ?_⟩
           try (refine Gh.fold 1901 0 4 7002 rfl rfl rfl rfl (by simp [hdc]) (by decide) (by simp [go_sem]) ?_)
           refine Gh.done ?_
           first | (rw [go_off (by simpa using hc)]; simp [go_sem, Tryz.results61]; done) | (have h9 := go_seq (p := p) (f := f) (a := a) hs (by rw [hxn]; exact hq1); rw [h9]; simp [go_sem, Tryz.results61]; done) | (have h9 := go_and (p := p) (f := f) (a := a) hs (by rw [hxn]; exact hq4); rw [← goN_end (i := i) (by omega)] at h9; rw [h9]; simp [go_sem, Tryz.results61]; done) | (have h9 := go_xor (p := p) (f := f) (a := a) hs (by rw [hxn]; exact hq3); first | (rw [if_pos (by omega)] at h9; rw [h9]; simp [go_sem, Tryz.results61]; done) | (rw [if_neg (by omega)] at h9; rw [h9]; simp [go_sem, Tryz.results61]; done)) | (have h9 := go_guard (p := p) (f := f) (a := a) hs (by rw [hxn]; exact hq8); rw [hxn] at h9; rw [h9]; simp [go_sem, Tryz.results61]; done) | (have h9 := go_timer (p := p) (f := f) (a := a) hs (by rw [hxn]; exact hq6); rw [hxn] at h9; rw [h9]; simp [go_sem, Tryz.results61, setA, setD, -List.map_set, set_I1, set_I1b]; done) | (have h9 := go_set (p := p) (f := f) (a := a) hs (by rw [hxn]; exact hq7); rw [hxn, if_pos (show evalB x.expr c.vars = false by simpa using hc)] at h9; rw [h9]; simp [go_sem, Tryz.results61]; done) | (have h9 := go_set (p := p) (f := f) (a := a) hs (by rw [hxn]; exact hq7); rw [hxn, if_neg (show ¬ evalB x.expr c.vars = false by rw [hb]; decide)] at h9; rw [h9]; simp [go_sem, Tryz.results61]; done) | (rw [go_rest hs (by rw [hxn]; exact n1) (by rw [hxn]; exact n4) (by rw [hxn]; exact n3) (by rw [hxn]; exact n8) (by rw [hxn]; exact n6) (by rw [hxn]; simpa using hc)]; simp [go_sem, Tryz.results61, setA, -List.map_set, set_I1, set_I1b]))
         ·intro hc; try simp [-List.length_eq_zero_iff] at hc
          all_goals try (exfalso; first | omega | contradiction; done)
          all_goals (
           refine AW.skipN (fun _ h => h) ?_
           have h6 : 0 ≤ chF p c.vars (kids p (a : Int)) := by first | omega | simpa using hc
           have hkc := hkE _ (hP.chF (by rw [hxn]; exact hq3) c.vars h6)
           refine rgE (fun _ => [1]) ?_
           intro k hk; simp -dsimp (maxSteps := 2000000) [go_sem, -decide_eq_true_eq, -decide_eq_false_iff_not, -List.map_set, set_I1, set_I1b, hac, hdc, hx, hx3, setA_vars]
           repeat' first | apply And.intro | refine hk _ ?_ | intro hg | (refine CallK.intro (hE (chF p c.vars (kids p (a : Int))) (setA c (a : Int) 1) hkc.1 hkc.2.1 hw1 hkc.2.2) ?_; simp -dsimp (maxSteps := 2000000) [go_sem, -decide_eq_true_eq, -decide_eq_false_iff_not, -List.map_set, set_I1, set_I1b, hac, hdc, hx, hx3, setA_vars]) | omega | exact True.intro
           all_goals clear hk k
           refine ⟨.intro, And.intro (.inl rfl) ?_⟩
           try (refine Gh.fold 1901 0 4 7002 rfl rfl rfl rfl (by simp [hdc]) (by decide) (by simp [go_sem]) ?_)
           refine Gh.done ?_
           first | (rw [go_off (by simpa using hc)]; simp [go_sem, Tryz.results61]; done) | (have h9 := go_seq (p := p) (f := f) (a := a) hs (by rw [hxn]; exact hq1); rw [h9]; simp [go_sem, Tryz.results61]; done) | (have h9 := go_and (p := p) (f := f) (a := a) hs (by rw [hxn]; exact hq4); rw [← goN_end (i := i) (by omega)] at h9; rw [h9]; simp [go_sem, Tryz.results61]; done) | (have h9 := go_xor (p := p) (f := f) (a := a) hs (by rw [hxn]; exact hq3); first | (rw [if_pos (by omega)] at h9; rw [h9]; simp [go_sem, Tryz.results61]; done) | (rw [if_neg (by omega)] at h9; rw [h9]; simp [go_sem, Tryz.results61]; done)) | (have h9 := go_guard (p := p) (f := f) (a := a) hs (by rw [hxn]; exact hq8); rw [hxn] at h9; rw [h9]; simp [go_sem, Tryz.results61]; done) | (have h9 := go_timer (p := p) (f := f) (a := a) hs (by rw [hxn]; exact hq6); rw [hxn] at h9; rw [h9]; simp [go_sem, Tryz.results61, setA, setD, -List.map_set, set_I1, set_I1b]; done) | (have h9 := go_set (p := p) (f := f) (a := a) hs (by rw [hxn]; exact hq7); rw [hxn, if_pos (show evalB x.expr c.vars = false by simpa using hc)] at h9; rw [h9]; simp [go_sem, Tryz.results61]; done) | (have h9 := go_set (p := p) (f := f) (a := a) hs (by rw [hxn]; exact hq7); rw [hxn, if_neg (show ¬ evalB x.expr c.vars = false by rw [hb]; decide)] at h9; rw [h9]; simp [go_sem, Tryz.results61]; done) | (rw [go_rest hs (by rw [hxn]; exact n1) (by rw [hxn]; exact n4) (by rw [hxn]; exact n3) (by rw [hxn]; exact n8) (by rw [hxn]; exact n6) (by rw [hxn]; simpa using hc)]; simp [go_sem, Tryz.results61, setA, -List.map_set, set_I1, set_I1b])))
       ·intro hc; try simp [-List.length_eq_zero_iff] at hc
        all_goals try (exfalso; first | omega | contradiction; done)
        all_goals (
         have n3 : x.kind ≠ 3 := by simpa using hc
         refine rg [0,1,2,6,29,67] ?_
         intro k hk; simp -dsimp [go_sem, -decide_eq_true_eq, -decide_eq_false_iff_not, -List.map_set, set_I1, set_I1b, hac, hdc, hx, hx3, setA_vars]
         repeat' first | apply And.intro | refine hk _ ?_ | intro hg | omega | exact True.intro
         all_goals clear hk k
         refine AW.cond rfl ?_ ?_
         ·intro hc; try simp [-List.length_eq_zero_iff] at hc
          all_goals try (exfalso; first | omega | contradiction; done)
          all_goals (
           have hq8 : x.kind = 8 := by simpa using hc
           have hkn : (kids p (a : Int)) ≠ [] := by intro e; rw [e, hq8] at hmany; simp [kidLo] at hmany
           have hhd := head_at hkn
           have hhm := List.mem_of_getElem? hhd
           have hke := hkE _ hhm
           have hhd3 : ∀ h, (kids p (a : Int))[0]'h = headI (kids p (a : Int)) := fun h => by have h9 := hhd; rw [List.getElem?_eq_getElem h] at h9; exact Option.some.inj h9
           have hkp := List.length_pos_iff.2 hkn
           have harg2 := harg (by omega)
           rw [hq8] at harg2
           simp [lowA, highA] at harg2
           have hwn : IntKind.wrap .i64 (c.now + x.arg) = c.now + x.arg := wrap64 (by omega) (by omega)
           refine AW.thaw (nd := ?nd_3) (c := ?c_3) (l := ?l_3) (es := ?es_3) 1901 0 4 7002 ?h1_3 ?h2_3 ?h3_3 ?h45_3 ?kk_3
           (case h1_3 => exact rfl)
           (case h2_3 => exact rfl)
           (case h3_3 => exact rfl)
           (case h45_3 => simp [go_sem])
           refine rg [0,1,6] ?_
           intro k hk; simp -dsimp (maxSteps := 2000000) [go_sem, -decide_eq_true_eq, -decide_eq_false_iff_not, -List.map_set, set_I1, set_I1b, hac, hdc, hx, hx3, setA_vars, hwn]
           repeat' first | (refine Chk.keys ?_; simp only [go_sem, List.map_cons, List.map_nil, List.flatMap_cons, List.flatMap_nil, List.flatMap_append, List.append_nil, List.nil_append, List.cons_append]; decide +kernel) | apply And.intro | refine hk _ ?_ | intro hg | omega | exact True.intro
           all_goals clear hk k
           refine AW.fold (nd := ?nd_4) (c := ?c_4) (l := ?l_4) (es := ?es_4) (n := ?n_4) 1901 0 4 7002 ?h1_4 ?h2_4 ?h4_4 ?h3_4 ?hn_4 (by decide) ?h6_4 ?kk_4
           (case h1_4 => exact rfl)
           (case h2_4 => exact rfl)
           (case h4_4 => exact rfl)
           (case h3_4 => exact rfl)
           (case hn_4 => simp [hac, hdc, hvc])
           (case h6_4 => simp [go_sem, hac, hdc, hvc])
           refine rgE (fun _ => [1]) ?_
           intro k hk; simp -dsimp (maxSteps := 2000000) [go_sem, -decide_eq_true_eq, -decide_eq_false_iff_not, -List.map_set, set_I1, set_I1b, hac, hdc, hx, hx3, setA_vars, hhd, hhd3]
           repeat' first | apply And.intro | refine hk _ ?_ | intro hg | (refine CallK.intro (hE (headI (kids p (a : Int))) (setD (setA c (a : Int) 1) (a : Int) (c.now + x.arg)) hke.1 hke.2.1 (hw1.setD _ _) hke.2.2) ?_; simp -dsimp (maxSteps := 2000000) [go_sem, -decide_eq_true_eq, -decide_eq_false_iff_not, -List.map_set, set_I1, set_I1b, hac, hdc, hx, hx3, setA_vars, hhd, hhd3]) | omega | exact True.intro
           all_goals clear hk k
           refine ⟨.intro, And.intro (.inl rfl) ?_⟩
           try (refine Gh.fold 1901 0 4 7002 rfl rfl rfl rfl (by simp [hdc]) (by decide) (by simp [go_sem]) ?_)
           refine Gh.done ?_
           first | (rw [go_off (by simpa using hc)]; simp [go_sem, Tryz.results61]; done) | (have h9 := go_seq (p := p) (f := f) (a := a) hs (by rw [hxn]; exact hq1); rw [h9]; simp [go_sem, Tryz.results61]; done) | (have h9 := go_and (p := p) (f := f) (a := a) hs (by rw [hxn]; exact hq4); rw [← goN_end (i := i) (by omega)] at h9; rw [h9]; simp [go_sem, Tryz.results61]; done) | (have h9 := go_xor (p := p) (f := f) (a := a) hs (by rw [hxn]; exact hq3); first | (rw [if_pos (by omega)] at h9; rw [h9]; simp [go_sem, Tryz.results61]; done) | (rw [if_neg (by omega)] at h9; rw [h9]; simp [go_sem, Tryz.results61]; done)) | (have h9 := go_guard (p := p) (f := f) (a := a) hs (by rw [hxn]; exact hq8); rw [hxn] at h9; rw [h9]; simp [go_sem, Tryz.results61]; done) | (have h9 := go_timer (p := p) (f := f) (a := a) hs (by rw [hxn]; exact hq6); rw [hxn] at h9; rw [h9]; simp [go_sem, Tryz.results61, setA, setD, -List.map_set, set_I1, set_I1b]; done) | (have h9 := go_set (p := p) (f := f) (a := a) hs (by rw [hxn]; exact hq7); rw [hxn, if_pos (show evalB x.expr c.vars = false by simpa using hc)] at h9; rw [h9]; simp [go_sem, Tryz.results61]; done) | (have h9 := go_set (p := p) (f := f) (a := a) hs (by rw [hxn]; exact hq7); rw [hxn, if_neg (show ¬ evalB x.expr c.vars = false by rw [hb]; decide)] at h9; rw [h9]; simp [go_sem, Tryz.results61]; done) | (rw [go_rest hs (by rw [hxn]; exact n1) (by rw [hxn]; exact n4) (by rw [hxn]; exact n3) (by rw [hxn]; exact n8) (by rw [hxn]; exact n6) (by rw [hxn]; simpa using hc)]; simp [go_sem, Tryz.results61, setA, -List.map_set, set_I1, set_I1b]))
         ·intro hc; try simp [-List.length_eq_zero_iff] at hc
          all_goals try (exfalso; first | omega | contradiction; done)
          all_goals (
           have n8 : x.kind ≠ 8 := by simpa using hc
           refine rg [0,1,2,29,91] ?_
           intro k hk; simp -dsimp [go_sem, -decide_eq_true_eq, -decide_eq_false_iff_not, -List.map_set, set_I1, set_I1b, hac, hdc, hx, hx3, setA_vars]
           repeat' first | apply And.intro | refine hk _ ?_ | intro hg | omega | exact True.intro
           all_goals clear hk k
           refine AW.cond rfl ?_ ?_
           ·intro hc; try simp [-List.length_eq_zero_iff] at hc
            all_goals try (exfalso; first | omega | contradiction; done)
            all_goals (
             have hq6 : x.kind = 6 := by simpa using hc
             have harg2 := harg (by omega)
             rw [hq6] at harg2
             simp [lowA, highA] at harg2
             have hwn : IntKind.wrap .i64 (c.now + x.arg) = c.now + x.arg := wrap64 (by omega) (by omega)
             refine AW.thaw (nd := ?nd_5) (c := ?c_5) (l := ?l_5) (es := ?es_5) 1901 0 4 7002 ?h1_5 ?h2_5 ?h3_5 ?h45_5 ?kk_5
             (case h1_5 => exact rfl)
             (case h2_5 => exact rfl)
             (case h3_5 => exact rfl)
             (case h45_5 => simp [go_sem])
             refine rgE (fun _ => []) ?_
             intro k hk; simp -dsimp (maxSteps := 2000000) [go_sem, -decide_eq_true_eq, -decide_eq_false_iff_not, -List.map_set, set_I1, set_I1b, hac, hdc, hx, hx3, setA_vars, hwn]
             repeat' first | (refine Chk.keys ?_; simp only [go_sem, List.map_cons, List.map_nil, List.flatMap_cons, List.flatMap_nil, List.flatMap_append, List.append_nil, List.nil_append, List.cons_append]; decide +kernel) | apply And.intro | refine hk _ ?_ | intro hg | omega | exact True.intro
             all_goals clear hk k
             refine ⟨.intro, And.intro (.inl rfl) ?_⟩
             try (refine Gh.fold 1901 0 4 7002 rfl rfl rfl rfl (by simp [hdc]) (by decide) (by simp [go_sem]) ?_)
             refine Gh.done ?_
             first | (rw [go_off (by simpa using hc)]; simp [go_sem, Tryz.results61]; done) | (have h9 := go_seq (p := p) (f := f) (a := a) hs (by rw [hxn]; exact hq1); rw [h9]; simp [go_sem, Tryz.results61]; done) | (have h9 := go_and (p := p) (f := f) (a := a) hs (by rw [hxn]; exact hq4); rw [← goN_end (i := i) (by omega)] at h9; rw [h9]; simp [go_sem, Tryz.results61]; done) | (have h9 := go_xor (p := p) (f := f) (a := a) hs (by rw [hxn]; exact hq3); first | (rw [if_pos (by omega)] at h9; rw [h9]; simp [go_sem, Tryz.results61]; done) | (rw [if_neg (by omega)] at h9; rw [h9]; simp [go_sem, Tryz.results61]; done)) | (have h9 := go_guard (p := p) (f := f) (a := a) hs (by rw [hxn]; exact hq8); rw [hxn] at h9; rw [h9]; simp [go_sem, Tryz.results61]; done) | (have h9 := go_timer (p := p) (f := f) (a := a) hs (by rw [hxn]; exact hq6); rw [hxn] at h9; rw [h9]; simp [go_sem, Tryz.results61, setA, setD, -List.map_set, set_I1, set_I1b]; done) | (have h9 := go_set (p := p) (f := f) (a := a) hs (by rw [hxn]; exact hq7); rw [hxn, if_pos (show evalB x.expr c.vars = false by simpa using hc)] at h9; rw [h9]; simp [go_sem, Tryz.results61]; done) | (have h9 := go_set (p := p) (f := f) (a := a) hs (by rw [hxn]; exact hq7); rw [hxn, if_neg (show ¬ evalB x.expr c.vars = false by rw [hb]; decide)] at h9; rw [h9]; simp [go_sem, Tryz.results61]; done) | (rw [go_rest hs (by rw [hxn]; exact n1) (by rw [hxn]; exact n4) (by rw [hxn]; exact n3) (by rw [hxn]; exact n8) (by rw [hxn]; exact n6) (by rw [hxn]; simpa using hc)]; simp [go_sem, Tryz.results61, setA, -List.map_set, set_I1, set_I1b]))
           ·intro hc; try simp [-List.length_eq_zero_iff] at hc
            all_goals try (exfalso; first | omega | contradiction; done)
            all_goals (
             have n6 : x.kind ≠ 6 := by simpa using hc
             refine rg [0,1,2,109] ?_
             intro k hk; simp -dsimp [go_sem, -decide_eq_true_eq, -decide_eq_false_iff_not, -List.map_set, set_I1, set_I1b, hac, hdc, hx, hx3, setA_vars]
             repeat' first | apply And.intro | refine hk _ ?_ | intro hg | omega | exact True.intro
             all_goals clear hk k
             refine AW.cond rfl ?_ ?_
             ·intro hc; try simp [-List.length_eq_zero_iff] at hc
              all_goals try (exfalso; first | omega | contradiction; done)
              all_goals (
               have hq7 : x.kind = 7 := by simpa using hc
               have hg := hP.expr ha (by rw [hxn]; exact hq7)
               rw [hxn] at hg
               refine AW.thaw (nd := ?nd_6) (c := ?c_6) (l := ?l_6) (es := ?es_6) 1901 0 2 7003 ?h1_6 ?h2_6 ?h3_6 ?h45_6 ?kk_6
               (case h1_6 => exact rfl)
               (case h2_6 => exact rfl)
               (case h3_6 => exact rfl)
               (case h45_6 => simp [go_sem])
               refine rg [0,1,2,9,10] ?_
               intro k hk; simp -dsimp (maxSteps := 2000000) [go_sem, -decide_eq_true_eq, -decide_eq_false_iff_not, -List.map_set, set_I1, set_I1b, hac, hdc, hx, hx3, setA_vars]
               repeat' first | (refine Chk.keys ?_; simp only [go_sem, List.map_cons, List.map_nil, List.flatMap_cons, List.flatMap_nil, List.flatMap_append, List.append_nil, List.nil_append, List.cons_append]; decide +kernel) | apply And.intro | refine hk _ ?_ | intro hg | (refine CallK.intro (dc_spec_l3Eval x.expr c.vars hg.len hg.parts hg.ty hw.vars hw.small) ?_; simp -dsimp (maxSteps := 2000000) [go_sem, -decide_eq_true_eq, -decide_eq_false_iff_not, -List.map_set, set_I1, set_I1b, hac, hdc, hx, hx3, setA_vars]) | omega | exact True.intro
               all_goals clear hk k
               refine AW.seq ?_
               refine rg [0,1,2,9,125] ?_
               intro k hk; simp -dsimp [go_sem, -decide_eq_true_eq, -decide_eq_false_iff_not, -List.map_set, set_I1, set_I1b, hac, hdc, hx, hx3, setA_vars]
               repeat' first | apply And.intro | refine hk _ ?_ | intro hg | omega | exact True.intro
               all_goals clear hk k
               refine AW.cond rfl ?_ ?_
               ·intro hc; try simp [-List.length_eq_zero_iff] at hc
                all_goals try (exfalso; first | omega | contradiction; done)
                all_goals (
                 refine AW.fold (nd := ?nd_7) (c := ?c_7) (l := ?l_7) (es := ?es_7) (n := ?n_7) 1901 0 2 7003 ?h1_7 ?h2_7 ?h4_7 ?h3_7 ?hn_7 (by decide) ?h6_7 ?kk_7
                 (case h1_7 => exact rfl)
                 (case h2_7 => exact rfl)
                 (case h4_7 => exact rfl)
                 (case h3_7 => exact rfl)
                 (case hn_7 => simp [hac, hdc, hvc])
                 (case h6_7 => simp [go_sem, hac, hdc, hvc])
                 refine AW.reg tiOk (fun _ => [0]) [1] ?_
                 intro k hk; simp -dsimp (maxSteps := 2000000) [go_sem, -decide_eq_true_eq, -decide_eq_false_iff_not, -List.map_set, set_I1, set_I1b, hac, hdc, hx, hx3, setA_vars]
                 repeat' first | apply And.intro | refine hk _ ?_ | intro hg | (refine CallK.intro (dc_spec_l9End p hp (setA c (a : Int) 1) hw1 3) ?_; simp -dsimp (maxSteps := 2000000) [go_sem, -decide_eq_true_eq, -decide_eq_false_iff_not, -List.map_set, set_I1, set_I1b, hac, hdc, hx, hx3, setA_vars]) | omega | exact True.intro
                 all_goals clear hk k
                 refine AW.ret ⟨.inr rfl, ?_⟩
                 try (refine Gh.fold 1901 0 4 7002 rfl rfl rfl rfl (by simp [hdc]) (by decide) (by simp [go_sem]) ?_)
                 refine Gh.done ?_
                 first | (rw [go_off (by simpa using hc)]; simp [go_sem, Tryz.results61]; done) | (have h9 := go_seq (p := p) (f := f) (a := a) hs (by rw [hxn]; exact hq1); rw [h9]; simp [go_sem, Tryz.results61]; done) | (have h9 := go_and (p := p) (f := f) (a := a) hs (by rw [hxn]; exact hq4); rw [← goN_end (i := i) (by omega)] at h9; rw [h9]; simp [go_sem, Tryz.results61]; done) | (have h9 := go_xor (p := p) (f := f) (a := a) hs (by rw [hxn]; exact hq3); first | (rw [if_pos (by omega)] at h9; rw [h9]; simp [go_sem, Tryz.results61]; done) | (rw [if_neg (by omega)] at h9; rw [h9]; simp [go_sem, Tryz.results61]; done)) | (have h9 := go_guard (p := p) (f := f) (a := a) hs (by rw [hxn]; exact hq8); rw [hxn] at h9; rw [h9]; simp [go_sem, Tryz.results61]; done) | (have h9 := go_timer (p := p) (f := f) (a := a) hs (by rw [hxn]; exact hq6); rw [hxn] at h9; rw [h9]; simp [go_sem, Tryz.results61, setA, setD, -List.map_set, set_I1, set_I1b]; done) | (have h9 := go_set (p := p) (f := f) (a := a) hs (by rw [hxn]; exact hq7); rw [hxn, if_pos (show evalB x.expr c.vars = false by simpa using hc)] at h9; rw [h9]; simp [go_sem, Tryz.results61]; done) | (have h9 := go_set (p := p) (f := f) (a := a) hs (by rw [hxn]; exact hq7); rw [hxn, if_neg (show ¬ evalB x.expr c.vars = false by rw [hb]; decide)] at h9; rw [h9]; simp [go_sem, Tryz.results61]; done) | (rw [go_rest hs (by rw [hxn]; exact n1) (by rw [hxn]; exact n4) (by rw [hxn]; exact n3) (by rw [hxn]; exact n8) (by rw [hxn]; exact n6) (by rw [hxn]; simpa using hc)]; simp [go_sem, Tryz.results61, setA, -List.map_set, set_I1, set_I1b]))
               ·intro hc; try simp [-List.length_eq_zero_iff] at hc
                all_goals try (exfalso; first | omega | contradiction; done)
                all_goals (
                 refine AW.skipN (fun _ h => h) ?_
                 have hb : evalB x.expr c.vars = true := by simpa using hc
                 have harg2 := harg (by omega)
                 rw [hq7] at harg2
                 simp [lowA, highA] at harg2
                 refine rg [0,1,2] ?_
                 intro k hk; simp -dsimp (maxSteps := 2000000) [go_sem, -decide_eq_true_eq, -decide_eq_false_iff_not, -List.map_set, set_I1, set_I1b, hac, hdc, hx, hx3, setA_vars, hb, hvc]
                 repeat' first | (refine Chk.keys ?_; simp only [go_sem, List.map_cons, List.map_nil, List.flatMap_cons, List.flatMap_nil, List.flatMap_append, List.append_nil, List.nil_append, List.cons_append]; decide +kernel) | apply And.intro | refine hk _ ?_ | intro hg | omega | exact True.intro
                 all_goals clear hk k
                 refine AW.fold (nd := ?nd_8) (c := ?c_8) (l := ?l_8) (es := ?es_8) (n := ?n_8) 1901 0 2 7003 ?h1_8 ?h2_8 ?h4_8 ?h3_8 ?hn_8 (by decide) ?h6_8 ?kk_8
                 (case h1_8 => exact rfl)
                 (case h2_8 => exact rfl)
                 (case h4_8 => exact rfl)
                 (case h3_8 => exact rfl)
                 (case hn_8 => simp [hac, hdc, hvc])
                 (case h6_8 => simp [go_sem, hac, hdc, hvc])
                 refine rgE (fun _ => [1]) ?_
                 intro k hk; simp -dsimp (maxSteps := 2000000) [go_sem, -decide_eq_true_eq, -decide_eq_false_iff_not, -List.map_set, set_I1, set_I1b, hac, hdc, hx, hx3, setA_vars]
                 repeat' first | apply And.intro | refine hk _ ?_ | intro hg | (refine CallK.intro (hO (a : Int) (setV (setA c (a : Int) 1) x.arg (evalI x.expr c.vars)) (by omega) (by omega) (hw1.setV _ _ (evalI_small (by have := hg.len; omega) hb)) (by rw [Int.toNat_natCast]; exact hmo)) ?_; simp -dsimp (maxSteps := 2000000) [go_sem, -decide_eq_true_eq, -decide_eq_false_iff_not, -List.map_set, set_I1, set_I1b, hac, hdc, hx, hx3, setA_vars]) | omega | exact True.intro
                 all_goals clear hk k
                 refine ⟨.intro, And.intro (.inl rfl) ?_⟩
                 try (refine Gh.fold 1901 0 4 7002 rfl rfl rfl rfl (by simp [hdc]) (by decide) (by simp [go_sem]) ?_)
                 refine Gh.done ?_
                 first | (rw [go_off (by simpa using hc)]; simp [go_sem, Tryz.results61]; done) | (have h9 := go_seq (p := p) (f := f) (a := a) hs (by rw [hxn]; exact hq1); rw [h9]; simp [go_sem, Tryz.results61]; done) | (have h9 := go_and (p := p) (f := f) (a := a) hs (by rw [hxn]; exact hq4); rw [← goN_end (i := i) (by omega)] at h9; rw [h9]; simp [go_sem, Tryz.results61]; done) | (have h9 := go_xor (p := p) (f := f) (a := a) hs (by rw [hxn]; exact hq3); first | (rw [if_pos (by omega)] at h9; rw [h9]; simp [go_sem, Tryz.results61]; done) | (rw [if_neg (by omega)] at h9; rw [h9]; simp [go_sem, Tryz.results61]; done)) | (have h9 := go_guard (p := p) (f := f) (a := a) hs (by rw [hxn]; exact hq8); rw [hxn] at h9; rw [h9]; simp [go_sem, Tryz.results61]; done) | (have h9 := go_timer (p := p) (f := f) (a := a) hs (by rw [hxn]; exact hq6); rw [hxn] at h9; rw [h9]; simp [go_sem, Tryz.results61, setA, setD, -List.map_set, set_I1, set_I1b]; done) | (have h9 := go_set (p := p) (f := f) (a := a) hs (by rw [hxn]; exact hq7); rw [hxn, if_pos (show evalB x.expr c.vars = false by simpa using hc)] at h9; rw [h9]; simp [go_sem, Tryz.results61]; done) | (have h9 := go_set (p := p) (f := f) (a := a) hs (by rw [hxn]; exact hq7); rw [hxn, if_neg (show ¬ evalB x.expr c.vars = false by rw [hb]; decide)] at h9; rw [h9]; simp [go_sem, Tryz.results61]; done) | (rw [go_rest hs (by rw [hxn]; exact n1) (by rw [hxn]; exact n4) (by rw [hxn]; exact n3) (by rw [hxn]; exact n8) (by rw [hxn]; exact n6) (by rw [hxn]; simpa using hc)]; simp [go_sem, Tryz.results61, setA, -List.map_set, set_I1, set_I1b])))
             ·intro hc; try simp [-List.length_eq_zero_iff] at hc
              all_goals try (exfalso; first | omega | contradiction; done)
              all_goals (
               refine AW.skip ?_
               refine And.intro (.inl rfl) ?_
               try (refine Gh.fold 1901 0 4 7002 rfl rfl rfl rfl (by simp [hdc]) (by decide) (by simp [go_sem]) ?_)
               refine Gh.done ?_
               first | (rw [go_off (by simpa using hc)]; simp [go_sem, Tryz.results61]; done) | (have h9 := go_seq (p := p) (f := f) (a := a) hs (by rw [hxn]; exact hq1); rw [h9]; simp [go_sem, Tryz.results61]; done) | (have h9 := go_and (p := p) (f := f) (a := a) hs (by rw [hxn]; exact hq4); rw [← goN_end (i := i) (by omega)] at h9; rw [h9]; simp [go_sem, Tryz.results61]; done) | (have h9 := go_xor (p := p) (f := f) (a := a) hs (by rw [hxn]; exact hq3); first | (rw [if_pos (by omega)] at h9; rw [h9]; simp [go_sem, Tryz.results61]; done) | (rw [if_neg (by omega)] at h9; rw [h9]; simp [go_sem, Tryz.results61]; done)) | (have h9 := go_guard (p := p) (f := f) (a := a) hs (by rw [hxn]; exact hq8); rw [hxn] at h9; rw [h9]; simp [go_sem, Tryz.results61]; done) | (have h9 := go_timer (p := p) (f := f) (a := a) hs (by rw [hxn]; exact hq6); rw [hxn] at h9; rw [h9]; simp [go_sem, Tryz.results61, setA, setD, -List.map_set, set_I1, set_I1b]; done) | (have h9 := go_set (p := p) (f := f) (a := a) hs (by rw [hxn]; exact hq7); rw [hxn, if_pos (show evalB x.expr c.vars = false by simpa using hc)] at h9; rw [h9]; simp [go_sem, Tryz.results61]; done) | (have h9 := go_set (p := p) (f := f) (a := a) hs (by rw [hxn]; exact hq7); rw [hxn, if_neg (show ¬ evalB x.expr c.vars = false by rw [hb]; decide)] at h9; rw [h9]; simp [go_sem, Tryz.results61]; done) | (rw [go_rest hs (by rw [hxn]; exact n1) (by rw [hxn]; exact n4) (by rw [hxn]; exact n3) (by rw [hxn]; exact n8) (by rw [hxn]; exact n6) (by rw [hxn]; simpa using hc)]; simp [go_sem, Tryz.results61, setA, -List.map_set, set_I1, set_I1b]))))))))
end Go.AM
namespace Go.AM
open Go.Proofs
theorem dc_spec_l9After (p : List TStep) (hp : p.length ≤ 24) (hso : StepsOk p) (a : Nat) (ha : a < p.length) (h0 : 0 < a) : DC Tryz.prog 60 [.isl 6 (p.map TStep.ro), .int .i64 (a : Nat)] (.int .i64 (sib (pars p) a)) [] := by
 have hpl := pars_len p
 obtain ⟨x, hx⟩ := at_some ha
 have hxn := nS_at hx
 obtain ⟨j, hj⟩ := kids_has (p := p) (a := (nS p a).par) h0 ha (pars_get ha)
 have hjl := at_lt hj
 have hkl := kids_len p (nS p a).par
 rw [hxn] at hj hjl hkl
 have hp0 : (nS p 0).par ≠ x.par := by have h8 := hso.par0; have h9 := (hso.parI h0 ha).1; rw [hxn] at h9; omega
 refine DC.intro tiOk Tryz.func60 rfl rfl rfl rfl rfl rfl rfl rfl [] ?_
 refine rg [0,1] ?_
 intro k hk; simp -dsimp [go_sem, -decide_eq_true_eq, -decide_eq_false_iff_not, hx]
 repeat' first | apply And.intro | refine hk _ ?_ | intro hg | omega | exact True.intro
 all_goals clear hk k
 refine rg [1,5] ?_
 intro k hk; simp -dsimp (maxSteps := 2000000) [go_sem, -decide_eq_true_eq, -decide_eq_false_iff_not, hx]
 repeat' first | apply And.intro | refine hk _ ?_ | intro hg | (refine CallK.intro (dc_spec_l4Kids p x.par hp hp0) ?_; simp -dsimp (maxSteps := 2000000) [go_sem, -decide_eq_true_eq, -decide_eq_false_iff_not, hx]) | omega | exact True.intro
 all_goals clear hk k
 refine AW.seq ?_
 refine rg [1,5,6] ?_
 intro k hk; simp -dsimp [go_sem, -decide_eq_true_eq, -decide_eq_false_iff_not, hx]
 repeat' first | apply And.intro | refine hk _ ?_ | intro hg | omega | exact True.intro
 all_goals clear hk k
 refine AW.block ?_
 refine AW.loopI (fun i : Nat => ⟨32, [(1, .int .i64 (a : Nat)), (5, .sl 1013 1 0 (kids p x.par).length), (6, .int .i64 (i : Nat))], [(1013, some ⟨1, (kids p x.par).map I1⟩)]⟩) (fun i => i ≤ j) (fun i => j + 1 - i) (0) (Nat.zero_le _) (Less.of rfl (by simp [go_sem]) (by simp [go_sem])) ?_
 rintro i hi
 refine AW.seq ?_
 refine rg [1,5,6,18] ?_
 intro k hk; simp -dsimp [go_sem, -decide_eq_true_eq, -decide_eq_false_iff_not, hx]
 repeat' first | apply And.intro | refine hk _ ?_ | intro hg | omega | exact True.intro
 all_goals clear hk k
 refine AW.cond rfl ?_ ?_
 ·intro hc; try simp at hc
  all_goals try (exfalso; first | omega | contradiction; done)
  all_goals (
   have hw0 : IntKind.wrap .i64 ((i : Int) + 1) = (i : Int) + 1 := wrap64 (by omega) (by omega)
   have hlt : i + 1 < (kids p x.par).length := by first | omega | (simp [hw0] at hc; omega)
   obtain ⟨u, hu⟩ := at_some (l := kids p x.par) (i := i) (by omega)
   obtain ⟨v, hv⟩ := at_some (l := kids p x.par) (i := i + 1) hlt
   refine AW.skipN (fun _ h => h) ?_
   refine AW.seq ?_
   refine AW.block ?_
   refine rg [1,5,6,26] ?_
   intro k hk; simp -dsimp [go_sem, -decide_eq_true_eq, -decide_eq_false_iff_not, hx, hu, hv, hw0]
   repeat' first | apply And.intro | refine hk _ ?_ | intro hg | omega | exact True.intro
   all_goals clear hk k
   refine AW.cond rfl ?_ ?_
   ·intro hc; try simp at hc
    all_goals try (exfalso; first | omega | contradiction; done)
    all_goals (
     refine rg [4] ?_
     intro k hk; simp -dsimp [go_sem, -decide_eq_true_eq, -decide_eq_false_iff_not, hx, hu, hv, hw0]
     repeat' first | apply And.intro | refine hk _ ?_ | intro hg | omega | exact True.intro
     all_goals clear hk k
     refine rt ?_
     first | (have he : u = (a : Int) := (by first | omega | simpa using hc); rw [kids_next (by rw [← he]; exact hu) hv]; simp [go_sem, Tryz.results60]; done) | (have hw0 : IntKind.wrap .i64 ((i : Int) + 1) = (i : Int) + 1 := wrap64 (by omega) (by omega); rw [hw0] at hc; rw [kids_last hj (by omega)]; simp [go_sem, Tryz.results60]))
   ·intro hc; try simp at hc
    all_goals try (exfalso; first | omega | contradiction; done)
    all_goals (
     refine AW.skipN (fun _ h => h) ?_
     refine rgK ?_
     intro k hk; simp -dsimp [go_sem, -decide_eq_true_eq, -decide_eq_false_iff_not, hx, hu, hv, hw0]
     repeat' first | apply And.intro | refine hk _ ?_ | intro hg | omega | exact True.intro
     all_goals clear hk k
     show ∃ _, _
     have hne : i ≠ j := by rintro rfl; rw [hu] at hj; have h9 := Option.some.inj hj; first | omega | contradiction
     refine ⟨i + 1, by omega, by omega, Less.of rfl (by simp [go_sem, hw0]) (by simp [go_sem])⟩))
 ·intro hc; try simp at hc
  all_goals try (exfalso; first | omega | contradiction; done)
  all_goals (
   refine AW.exitN (fun _ h => h) ?_
   refine rg [4] ?_
   intro k hk; simp -dsimp [go_sem, -decide_eq_true_eq, -decide_eq_false_iff_not, hx]
   repeat' first | apply And.intro | refine hk _ ?_ | intro hg | omega | exact True.intro
   all_goals clear hk k
   refine rt ?_
   first | (have he : u = (a : Int) := (by first | omega | simpa using hc); rw [kids_next (by rw [← he]; exact hu) hv]; simp [go_sem, Tryz.results60]; done) | (have hw0 : IntKind.wrap .i64 ((i : Int) + 1) = (i : Int) + 1 := wrap64 (by omega) (by omega); rw [hw0] at hc; rw [kids_last hj (by omega)]; simp [go_sem, Tryz.results60]))
end Go.AM
namespace Go.AM
open Go.Proofs
theorem dc_spec_l9All (p : List TStep) (hp : p.length ≤ 24) (c : TChart) (hac : c.acts.length = p.length) (a : Int) (h0 : (nS p 0).par ≠ a) : DC Tryz.prog 62 [.isl 6 (p.map TStep.ro), .ip c.ro, .int .i64 a] (.bool ((kids p a).all fun k => decide (actA c k = 2))) [] := by
 have hkl := kids_len p a
 refine DC.intro tiOk Tryz.func62 rfl rfl rfl rfl rfl rfl rfl rfl [] ?_
 refine rgA [0,1,2] ?_
 refine rg [1,7] ?_
 intro k hk; simp -dsimp (maxSteps := 2000000) [go_sem, -decide_eq_true_eq, -decide_eq_false_iff_not]
 repeat' first | apply And.intro | refine hk _ ?_ | intro hg | (refine CallK.intro (dc_spec_l4Kids p a hp h0) ?_; simp -dsimp (maxSteps := 2000000) [go_sem, -decide_eq_true_eq, -decide_eq_false_iff_not]) | omega | exact True.intro
 all_goals clear hk k
 refine AW.seq ?_
 refine rgA [1,7,8] ?_
 refine AW.block ?_
 refine AW.loopI (fun i : Nat => ⟨29, [(1, .ip c.ro), (7, .sl 1011 1 0 (kids p a).length), (8, .int .i64 (i : Nat))], [(1011, some ⟨1, (kids p a).map I1⟩)]⟩) (fun i => i ≤ (kids p a).length ∧ ((kids p a).take i).all (fun k => decide (actA c k = 2)) = true) (fun i => (kids p a).length - i) (0) (by simp) (Less.of rfl (by simp [go_sem]) (by simp [go_sem])) ?_
 rintro i ⟨hi, hall⟩
 refine AW.seq ?_
 refine rgA [1,7,8,15] ?_
 refine AW.cond rfl ?_ ?_
 ·intro hc; try simp at hc
  all_goals (
   have hlt : i < (kids p a).length := by first | assumption | omega
   obtain ⟨u, hu⟩ := at_some hlt
   have hub := kids_bd (List.mem_of_getElem? hu)
   have hua := actA_at (c := c) (k := u) (by rw [hac]; exact hub.2)
   refine AW.skipN (fun _ h => h) ?_
   refine AW.seq ?_
   refine AW.block ?_
   refine rg [1,7,8,28] ?_
   intro k hk; simp -dsimp (maxSteps := 2000000) [go_sem, -decide_eq_true_eq, -decide_eq_false_iff_not, hu, hub.1, hub.2, hua]
   repeat' first | (refine Chk.keys ?_; simp only [go_sem, List.map_cons, List.map_nil, List.flatMap_cons, List.flatMap_nil, List.flatMap_append, List.append_nil, List.nil_append, List.cons_append]; decide +kernel) | apply And.intro | refine hk _ ?_ | intro hg | omega | exact True.intro
   all_goals clear hk k
   refine AW.cond rfl ?_ ?_
   ·intro hc; try simp at hc
    all_goals (
     refine rg [6] ?_
     intro k hk; simp -dsimp [go_sem, -decide_eq_true_eq, -decide_eq_false_iff_not, hu, hub.1, hub.2, hua]
     repeat' first | apply And.intro | refine hk _ ?_ | intro hg | omega | exact True.intro
     all_goals clear hk k
     refine rt ?_
     first | (have hf : ((kids p a).all fun k => decide (actA c k = 2)) = false := (by rw [List.all_eq_false]; exact ⟨u, List.mem_of_getElem? hu, by simpa using hc⟩); rw [hf]; simp [go_sem, Tryz.results62]; done) | (rw [List.take_of_length_le (by omega)] at hall; rw [hall]; simp [go_sem, Tryz.results62]))
   ·intro hc; try simp at hc
    all_goals (
     refine AW.skipN (fun _ h => h) ?_
     refine rgK ?_
     intro k hk; simp -dsimp [go_sem, -decide_eq_true_eq, -decide_eq_false_iff_not, hu, hub.1, hub.2, hua]
     repeat' first | apply And.intro | refine hk _ ?_ | intro hg | omega | exact True.intro
     all_goals clear hk k
     show ∃ _, _
     have hw := wrapi hlt (by omega)
     refine ⟨i + 1, ⟨by omega, by rw [all_take hu hall]; simpa using hc⟩, by omega, Less.of rfl (by simp [go_sem, hw]) (by simp [go_sem])⟩))
 ·intro hc; try simp at hc
  all_goals (
   refine AW.exitN (fun _ h => h) ?_
   refine rgA [6] ?_
   refine rt ?_
   first | (have hf : ((kids p a).all fun k => decide (actA c k = 2)) = false := (by rw [List.all_eq_false]; exact ⟨u, List.mem_of_getElem? hu, by simpa using hc⟩); rw [hf]; simp [go_sem, Tryz.results62]; done) | (rw [List.take_of_length_le (by omega)] at hall; rw [hall]; simp [go_sem, Tryz.results62]))
end Go.AM
namespace Go.AM
open Go.Proofs
theorem dc_spec_l9Idle (p : List TStep) (hp : p.length ≤ 24) (hl : PreOk (pars p)) (a : Nat) (ha : a < p.length) (c : TChart) (hw : WfC p c) : DC Tryz.prog 58 [.isl 6 (p.map TStep.ro), .op (crow c), .int .i64 (a : Nat)] (.tup []) [(1, .op (crow (idleF p a c)))] := by
 have hul := undL_len p a p.length
 refine DC.intro tiOk Tryz.func58 rfl rfl rfl rfl rfl rfl rfl (by simp [noW, noWo]) [] ?_
 refine rg [1,6] ?_
 intro k hk; simp -dsimp (maxSteps := 2000000) [go_sem, -decide_eq_true_eq, -decide_eq_false_iff_not]
 repeat' first | apply And.intro | refine hk _ ?_ | intro hg | (refine CallK.intro (dc_spec_l4Under p hp hl a ha) ?_; simp -dsimp (maxSteps := 2000000) [go_sem, -decide_eq_true_eq, -decide_eq_false_iff_not]) | omega | exact True.intro
 all_goals clear hk k
 refine rgA [1,6,7] ?_
 refine AW.block ?_
 refine AW.loopI (fun i : Nat => ⟨35, [(1, .ptr 1901 5 0 0), (6, .sl 1010 1 0 (undL p a p.length).length), (7, .int .i64 (i : Nat))], [(1010, some ⟨1, (undL p a p.length).map I1⟩), (1901, some ⟨5, [crow (idleN c (undL p a p.length) i)]⟩)]⟩) (fun i => i ≤ (undL p a p.length).length) (fun i => (undL p a p.length).length - i) (0) (Nat.zero_le _) (Less.of rfl (by simp [go_sem]) (by simp [go_sem, idleN_zero])) ?_
 rintro i hi
 refine AW.seq ?_
 refine rgA [1,6,7,14] ?_
 refine AW.cond rfl ?_ ?_
 ·intro hc; try simp at hc
  all_goals (
   have hlt : i < (undL p a p.length).length := by first | assumption | omega
   obtain ⟨x, hx⟩ := at_some hlt
   have hxb := undL_mem (List.mem_of_getElem? hx)
   have hst := idleN_step (c := c) hx
   have hwi := idleN_wf hw (undL p a p.length) i
   have hac := hwi.acts
   have hdc := hwi.dues
   have hx3 : ∀ h, (undL p a p.length)[i]'h = x := fun h => by have h9 := hx; rw [List.getElem?_eq_getElem h] at h9; exact Option.some.inj h9
   refine AW.skipN (fun _ h => h) ?_
   refine AW.seq ?_
   refine AW.block ?_
   refine AW.thaw (nd := ?nd_1) (c := ?c_1) (l := ?l_1) (es := ?es_1) 1901 0 3 7001 ?h1_1 ?h2_1 ?h3_1 ?h45_1 ?kk_1
   (case h1_1 => exact rfl)
   (case h2_1 => exact rfl)
   (case h3_1 => exact rfl)
   (case h45_1 => simp [go_sem])
   refine AW.thaw (nd := ?nd_2) (c := ?c_2) (l := ?l_2) (es := ?es_2) 1901 0 4 7002 ?h1_2 ?h2_2 ?h3_2 ?h45_2 ?kk_2
   (case h1_2 => exact rfl)
   (case h2_2 => exact rfl)
   (case h3_2 => exact rfl)
   (case h45_2 => simp [go_sem])
   refine rg [1,6,7] ?_
   intro k hk; simp -dsimp (maxSteps := 2000000) [go_sem, -decide_eq_true_eq, -decide_eq_false_iff_not, hx, hx3, hxb.1, hxb.2, hac, hdc]
   repeat' first | (refine Chk.keys ?_; simp only [go_sem, List.map_cons, List.map_nil, List.flatMap_cons, List.flatMap_nil, List.flatMap_append, List.append_nil, List.nil_append, List.cons_append]; decide +kernel) | apply And.intro | refine hk _ ?_ | intro hg | omega | exact True.intro
   all_goals clear hk k
   refine rgN [1,6,7] (fun _ h => h) ?_
   intro k hk; simp -dsimp (maxSteps := 2000000) [go_sem, -decide_eq_true_eq, -decide_eq_false_iff_not, hx, hx3, hxb.1, hxb.2, hac, hdc]
   repeat' first | (refine Chk.keys ?_; simp only [go_sem, List.map_cons, List.map_nil, List.flatMap_cons, List.flatMap_nil, List.flatMap_append, List.append_nil, List.nil_append, List.cons_append]; decide +kernel) | apply And.intro | refine hk _ ?_ | intro hg | omega | exact True.intro
   all_goals clear hk k
   refine AW.fold (nd := ?nd_3) (c := ?c_3) (l := ?l_3) (es := ?es_3) (n := ?n_3) 1901 0 3 7001 ?h1_3 ?h2_3 ?h4_3 ?h3_3 ?hn_3 (by decide) ?h6_3 ?kk_3
   (case h1_3 => exact rfl)
   (case h2_3 => exact rfl)
   (case h4_3 => exact rfl)
   (case h3_3 => exact rfl)
   (case hn_3 => simp [hac, hdc])
   (case h6_3 => simp [go_sem, hac, hdc])
   refine AW.fold (nd := ?nd_4) (c := ?c_4) (l := ?l_4) (es := ?es_4) (n := ?n_4) 1901 0 4 7002 ?h1_4 ?h2_4 ?h4_4 ?h3_4 ?hn_4 (by decide) ?h6_4 ?kk_4
   (case h1_4 => exact rfl)
   (case h2_4 => exact rfl)
   (case h4_4 => exact rfl)
   (case h3_4 => exact rfl)
   (case hn_4 => simp [hac, hdc])
   (case h6_4 => simp [go_sem, hac, hdc])
   refine rgK ?_
   intro k hk; simp -dsimp [go_sem, -decide_eq_true_eq, -decide_eq_false_iff_not, hx, hx3, hxb.1, hxb.2, hac, hdc]
   repeat' first | apply And.intro | refine hk _ ?_ | intro hg | omega | exact True.intro
   all_goals clear hk k
   show ∃ _, _
   have hww := wrapi hlt (by omega)
   refine ⟨i + 1, by omega, by omega, Less.of rfl (by simp [go_sem, hww]) (by rw [hst]; simp [go_sem, List.map_set])⟩)
 ·intro hc; try simp at hc
  all_goals (
   refine AW.exit ?_
   refine And.intro (.inl rfl) ?_
   rw [← idleN_end (c := c) (show (undL p a p.length).length ≤ i by omega)]; simp [go_sem, Tryz.results58])
end Go.AM
namespace Go.AM
open Go.Proofs
set_option maxHeartbeats 8000000 in
theorem dc_spec_l9Over (p : List TStep) (hP : ProcOk p) (f : Nat) (hE : ∀ (k : Int) (c : TChart), 0 ≤ k → k.toNat < p.length → WfC p c → mE (pars p) k.toNat ≤ f → DC Tryz.prog 61 [.isl 6 (p.map TStep.ro), .op (crow c), .int .i64 k] (.tup []) [(1, .op (crow (goF p f true k.toNat c)))]) (hO : ∀ (k : Int) (c : TChart), 0 ≤ k → k.toNat < p.length → WfC p c → mO (pars p) k.toNat ≤ f → DC Tryz.prog 32 [.isl 6 (p.map TStep.ro), .op (crow c), .int .i64 k] (.tup []) [(1, .op (crow (goF p f false k.toNat c)))]) (a : Nat) (ha : a < p.length) (c : TChart) (hw : WfC p c) (hm : mO (pars p) a ≤ f + 1) : DC Tryz.prog 32 [.isl 6 (p.map TStep.ro), .op (crow c), .int .i64 (a : Nat)] (.tup []) [(1, .op (crow (goF p (f + 1) false a c)))] := by
 have hp := hP.len.2
 have hpl := pars_len p
 obtain ⟨x, hx⟩ := at_some ha
 have hxn := nS_at hx
 have hx3 : ∀ h, p[a]'h = x := fun h => by have h9 := hx; rw [List.getElem?_eq_getElem h] at h9; exact Option.some.inj h9
 have hwi := hw.idle a
 have hac := hwi.acts
 have hdc := hwi.dues
 refine DC.introG tiOk Tryz.func32 rfl rfl rfl rfl rfl rfl rfl (by simp [noW, noWo]) [] ?_
 refine AW.reg tiOk (fun _ => [1]) [0,1,2] ?_
 intro k hk; simp -dsimp (maxSteps := 2000000) [go_sem, -decide_eq_true_eq, -decide_eq_false_iff_not, -List.map_set, set_I1, set_I1b, hac, hdc, hx, hx3]
 repeat' first | apply And.intro | refine hk _ ?_ | intro hg | (refine CallK.intro (dc_spec_l9Idle p hp hP.pre a ha c hw) ?_; simp -dsimp (maxSteps := 2000000) [go_sem, -decide_eq_true_eq, -decide_eq_false_iff_not, -List.map_set, set_I1, set_I1b, hac, hdc, hx, hx3]) | omega | exact True.intro
 all_goals clear hk k
 refine rg [0,1,2,6] ?_
 intro k hk; simp -dsimp [go_sem, -decide_eq_true_eq, -decide_eq_false_iff_not, -List.map_set, set_I1, set_I1b, hac, hdc, hx, hx3]
 repeat' first | apply And.intro | refine hk _ ?_ | intro hg | omega | exact True.intro
 all_goals clear hk k
 refine AW.seq ?_
 refine rg [0,1,2,6,18] ?_
 intro k hk; simp -dsimp [go_sem, -decide_eq_true_eq, -decide_eq_false_iff_not, -List.map_set, set_I1, set_I1b, hac, hdc, hx, hx3]
 repeat' first | apply And.intro | refine hk _ ?_ | intro hg | omega | exact True.intro
 all_goals clear hk k
 refine AW.cond rfl ?_ ?_
 ·intro hc; try simp [-List.length_eq_zero_iff] at hc
  all_goals try (exfalso; first | omega | contradiction; done)
  all_goals (
   have ha0 : a = 0 := by rcases Nat.eq_zero_or_pos a with h | h; exact h; have h9 := hP.parI h ha; rw [hxn] at h9; omega
   refine AW.reg tiOk (fun _ => [0]) [1] ?_
   intro k hk; simp -dsimp (maxSteps := 2000000) [go_sem, -decide_eq_true_eq, -decide_eq_false_iff_not, -List.map_set, set_I1, set_I1b, hac, hdc, hx, hx3]
   repeat' first | apply And.intro | refine hk _ ?_ | intro hg | (refine CallK.intro (dc_spec_l9End p hp (idleF p a c) hwi 2) ?_; simp -dsimp (maxSteps := 2000000) [go_sem, -decide_eq_true_eq, -decide_eq_false_iff_not, -List.map_set, set_I1, set_I1b, hac, hdc, hx, hx3]) | omega | exact True.intro
   all_goals clear hk k
   refine AW.ret ⟨.inr rfl, ?_⟩
   refine Gh.done ?_
   first | (obtain rfl : a = 0 := (by omega); rw [ov_top]; simp [go_sem, Tryz.results32]; done) | (rw [ov_next h0 (by rw [hnq]; exact hk1) hs0]; simp [go_sem, Tryz.results32]; done) | (rw [ov_seq h0 (by rw [hnq]; exact hk1) (by omega), hxn, hq]; simp [go_sem, Tryz.results32]; done) | (have h9 := ov_and (p := p) (f := f) (c := c) h0 (by rw [hnq]; exact hk4); rw [hxn, hq, Int.toNat_natCast] at h9; first | (rw [if_pos (by simpa using hc)] at h9; rw [h9]; simp [go_sem, Tryz.results32]; done) | (rw [if_neg (by simpa using hc)] at h9; rw [h9]; simp [go_sem, Tryz.results32, setA, -List.map_set, set_I1, set_I1b]; done)) | (rw [ov_rest h0 (by rw [hnq]; exact n1) (by rw [hnq]; simpa using hc), hxn, hq]; simp [go_sem, Tryz.results32]; done))
 ·intro hc; try simp [-List.length_eq_zero_iff] at hc
  all_goals try (exfalso; first | omega | contradiction; done)
  all_goals (
   refine AW.skipN (fun _ h => h) ?_
   refine AW.seq ?_
   have h0 : a ≠ 0 := by first | omega | (intro e; subst e; have h9 := hP.par0; rw [hxn] at h9; omega)
   have hpr := hP.parI (by omega) ha
   rw [hxn] at hpr
   obtain ⟨q, hq⟩ : ∃ q : Nat, x.par = q := ⟨_, (Int.toNat_of_nonneg hpr.1).symm⟩
   obtain ⟨y, hy⟩ := at_some (l := p) (i := q) (by omega)
   have hyn := nS_at hy
   have hy3 : ∀ h, p[q]'h = y := fun h => by have h9 := hy; rw [List.getElem?_eq_getElem h] at h9; exact Option.some.inj h9
   have hpq : (pars p).getD a 0 = (q : Int) := by rw [pars_get ha, hxn, hq]
   have hmq := mO_up hP.pre (by omega) hpq
   have hnq : nS p (nS p a).par.toNat = y := by rw [hxn, hq, Int.toNat_natCast]; exact hyn
   have hkl := kids_len p (q : Int)
   obtain ⟨j, hj⟩ := kids_has (p := p) (a := (q : Int)) (by omega) ha hpq
   have hjl := at_lt hj
   refine rg [0,1,2,6,25] ?_
   intro k hk; simp -dsimp [go_sem, -decide_eq_true_eq, -decide_eq_false_iff_not, -List.map_set, set_I1, set_I1b, hac, hdc, hx, hx3, hy, hy3, hq]
   repeat' first | apply And.intro | refine hk _ ?_ | intro hg | omega | exact True.intro
   all_goals clear hk k
   refine AW.block ?_
   refine rg [0,1,2,6,25,26] ?_
   intro k hk; simp -dsimp [go_sem, -decide_eq_true_eq, -decide_eq_false_iff_not, -List.map_set, set_I1, set_I1b, hac, hdc, hx, hx3]
   repeat' first | apply And.intro | refine hk _ ?_ | intro hg | omega | exact True.intro
   all_goals clear hk k
   refine AW.cond rfl ?_ ?_
   ·intro hc; try simp [-List.length_eq_zero_iff] at hc
    all_goals try (exfalso; first | omega | contradiction; done)
    all_goals (
     have hk1 : y.kind = 1 := by simpa using hc
     refine rg [0,1,6,7] ?_
     intro k hk; simp -dsimp (maxSteps := 2000000) [go_sem, -decide_eq_true_eq, -decide_eq_false_iff_not, -List.map_set, set_I1, set_I1b, hac, hdc, hx, hx3]
     repeat' first | apply And.intro | refine hk _ ?_ | intro hg | (refine CallK.intro (dc_spec_l9After p hp hP.steps' a ha (by omega)) ?_; simp -dsimp (maxSteps := 2000000) [go_sem, -decide_eq_true_eq, -decide_eq_false_iff_not, -List.map_set, set_I1, set_I1b, hac, hdc, hx, hx3]) | omega | exact True.intro
     all_goals clear hk k
     refine rg [0,1,6,7,32] ?_
     intro k hk; simp -dsimp [go_sem, -decide_eq_true_eq, -decide_eq_false_iff_not, -List.map_set, set_I1, set_I1b, hac, hdc, hx, hx3]
     repeat' first | apply And.intro | refine hk _ ?_ | intro hg | omega | exact True.intro
     all_goals clear hk k
     refine AW.cond rfl ?_ ?_
     ·intro hc; try simp [-List.length_eq_zero_iff] at hc
      all_goals try (exfalso; first | omega | contradiction; done)
      all_goals (
       have hs0 : 0 ≤ sib (pars p) a := by first | omega | simpa using hc
       obtain ⟨s, hs1, hs3⟩ : ∃ s : Nat, sib (pars p) a = s ∧ s < (pars p).length := by (rcases sib_ok (pars p) a with h | ⟨s, h1, h2, h3, _⟩; exact absurd h.1 (by omega); exact ⟨s, h1, h3⟩)
       refine AW.reg tiOk (fun _ => [1]) [1] ?_
       intro k hk; simp -dsimp (maxSteps := 2000000) [go_sem, -decide_eq_true_eq, -decide_eq_false_iff_not, -List.map_set, set_I1, set_I1b, hac, hdc, hx, hx3]
       repeat' first | apply And.intro | refine hk _ ?_ | intro hg | (refine CallK.intro (hE (sib (pars p) a) (idleF p a c) hs0 (by rw [hs1, Int.toNat_natCast]; omega) hwi (by have h7 := mO_next hs1; rw [hs1, Int.toNat_natCast]; omega)) ?_; simp -dsimp (maxSteps := 2000000) [go_sem, -decide_eq_true_eq, -decide_eq_false_iff_not, -List.map_set, set_I1, set_I1b, hac, hdc, hx, hx3]) | omega | exact True.intro
       all_goals clear hk k
       refine AW.ret ⟨.inr rfl, ?_⟩
       refine Gh.done ?_
       first | (obtain rfl : a = 0 := (by omega); rw [ov_top]; simp [go_sem, Tryz.results32]; done) | (rw [ov_next h0 (by rw [hnq]; exact hk1) hs0]; simp [go_sem, Tryz.results32]; done) | (rw [ov_seq h0 (by rw [hnq]; exact hk1) (by omega), hxn, hq]; simp [go_sem, Tryz.results32]; done) | (have h9 := ov_and (p := p) (f := f) (c := c) h0 (by rw [hnq]; exact hk4); rw [hxn, hq, Int.toNat_natCast] at h9; first | (rw [if_pos (by simpa using hc)] at h9; rw [h9]; simp [go_sem, Tryz.results32]; done) | (rw [if_neg (by simpa using hc)] at h9; rw [h9]; simp [go_sem, Tryz.results32, setA, -List.map_set, set_I1, set_I1b]; done)) | (rw [ov_rest h0 (by rw [hnq]; exact n1) (by rw [hnq]; simpa using hc), hxn, hq]; simp [go_sem, Tryz.results32]; done))
     ·intro hc; try simp [-List.length_eq_zero_iff] at hc
      all_goals try (exfalso; first | omega | contradiction; done)
      all_goals (
       refine AW.skipN (fun _ h => h) ?_
       refine rgE (fun _ => [1]) ?_
       intro k hk; simp -dsimp (maxSteps := 2000000) [go_sem, -decide_eq_true_eq, -decide_eq_false_iff_not, -List.map_set, set_I1, set_I1b, hac, hdc, hx, hx3, hq]
       repeat' first | apply And.intro | refine hk _ ?_ | intro hg | ((first | refine CallK.intro (hO (q : Int) (idleF p a c) (by omega) (by omega) hwi (by rw [Int.toNat_natCast]; omega)) ?_ | refine CallK.intro (hO (q : Int) (setA (idleF p a c) (a : Int) 2) (by omega) (by omega) (hwi.setA _ _) (by rw [Int.toNat_natCast]; omega)) ?_); simp -dsimp (maxSteps := 2000000) [go_sem, -decide_eq_true_eq, -decide_eq_false_iff_not, -List.map_set, set_I1, set_I1b, hac, hdc, hx, hx3, hq]) | omega | exact True.intro
       all_goals clear hk k
       refine ⟨.intro, And.intro (.inl rfl) ?_⟩
       refine Gh.done ?_
       first | (obtain rfl : a = 0 := (by omega); rw [ov_top]; simp [go_sem, Tryz.results32]; done) | (rw [ov_next h0 (by rw [hnq]; exact hk1) hs0]; simp [go_sem, Tryz.results32]; done) | (rw [ov_seq h0 (by rw [hnq]; exact hk1) (by omega), hxn, hq]; simp [go_sem, Tryz.results32]; done) | (have h9 := ov_and (p := p) (f := f) (c := c) h0 (by rw [hnq]; exact hk4); rw [hxn, hq, Int.toNat_natCast] at h9; first | (rw [if_pos (by simpa using hc)] at h9; rw [h9]; simp [go_sem, Tryz.results32]; done) | (rw [if_neg (by simpa using hc)] at h9; rw [h9]; simp [go_sem, Tryz.results32, setA, -List.map_set, set_I1, set_I1b]; done)) | (rw [ov_rest h0 (by rw [hnq]; exact n1) (by rw [hnq]; simpa using hc), hxn, hq]; simp [go_sem, Tryz.results32]; done)))
   ·intro hc; try simp [-List.length_eq_zero_iff] at hc
    all_goals try (exfalso; first | omega | contradiction; done)
    all_goals (
     have n1 : y.kind ≠ 1 := by simpa using hc
     refine rg [0,1,2,6,37] ?_
     intro k hk; simp -dsimp [go_sem, -decide_eq_true_eq, -decide_eq_false_iff_not, -List.map_set, set_I1, set_I1b, hac, hdc, hx, hx3]
     repeat' first | apply And.intro | refine hk _ ?_ | intro hg | omega | exact True.intro
     all_goals clear hk k
     refine AW.cond rfl ?_ ?_
     ·intro hc; try simp [-List.length_eq_zero_iff] at hc
      all_goals try (exfalso; first | omega | contradiction; done)
      all_goals (
       have hk4 : y.kind = 4 := by simpa using hc
       refine AW.thaw (nd := ?nd_1) (c := ?c_1) (l := ?l_1) (es := ?es_1) 1901 0 3 7001 ?h1_1 ?h2_1 ?h3_1 ?h45_1 ?kk_1
       (case h1_1 => exact rfl)
       (case h2_1 => exact rfl)
       (case h3_1 => exact rfl)
       (case h45_1 => simp [go_sem])
       refine rg [0,1,6] ?_
       intro k hk; simp -dsimp (maxSteps := 2000000) [go_sem, -decide_eq_true_eq, -decide_eq_false_iff_not, -List.map_set, set_I1, set_I1b, hac, hdc, hx, hx3]
       repeat' first | apply And.intro | refine hk _ ?_ | intro hg | omega | exact True.intro
       all_goals clear hk k
       refine AW.fold (nd := ?nd_2) (c := ?c_2) (l := ?l_2) (es := ?es_2) (n := ?n_2) 1901 0 3 7001 ?h1_2 ?h2_2 ?h4_2 ?h3_2 ?hn_2 (by decide) ?h6_2 ?kk_2
       (case h1_2 => exact rfl)
       (case h2_2 => exact rfl)
       (case h4_2 => exact rfl)
       (case h3_2 => exact rfl)
       (case hn_2 => simp [hac, hdc])
       (case h6_2 => simp [go_sem, hac, hdc])
       refine rg [0,1,6,49] ?_
       intro k hk; simp -dsimp (maxSteps := 2000000) [go_sem, -decide_eq_true_eq, -decide_eq_false_iff_not, -List.map_set, set_I1, set_I1b, hac, hdc, hx, hx3, hq]
       repeat' first | apply And.intro | refine hk _ ?_ | intro hg | (refine CallK.intro (dc_spec_l9All p hp (setA (idleF p a c) (a : Int) 2) (by rw [(hwi.setA (a : Int) 2).acts]) (q : Int) (by rw [hP.par0]; omega)) ?_; simp -dsimp (maxSteps := 2000000) [go_sem, -decide_eq_true_eq, -decide_eq_false_iff_not, -List.map_set, set_I1, set_I1b, hac, hdc, hx, hx3, hq]) | omega | exact True.intro
       all_goals clear hk k
       refine AW.cond rfl ?_ ?_
       ·intro hc; try simp [-List.length_eq_zero_iff] at hc
        all_goals try (exfalso; first | omega | contradiction; done)
        all_goals (
         refine AW.ret ⟨.inr rfl, ?_⟩
         refine Gh.done ?_
         first | (obtain rfl : a = 0 := (by omega); rw [ov_top]; simp [go_sem, Tryz.results32]; done) | (rw [ov_next h0 (by rw [hnq]; exact hk1) hs0]; simp [go_sem, Tryz.results32]; done) | (rw [ov_seq h0 (by rw [hnq]; exact hk1) (by omega), hxn, hq]; simp [go_sem, Tryz.results32]; done) | (have h9 := ov_and (p := p) (f := f) (c := c) h0 (by rw [hnq]; exact hk4); rw [hxn, hq, Int.toNat_natCast] at h9; first | (rw [if_pos (by simpa using hc)] at h9; rw [h9]; simp [go_sem, Tryz.results32]; done) | (rw [if_neg (by simpa using hc)] at h9; rw [h9]; simp [go_sem, Tryz.results32, setA, -List.map_set, set_I1, set_I1b]; done)) | (rw [ov_rest h0 (by rw [hnq]; exact n1) (by rw [hnq]; simpa using hc), hxn, hq]; simp [go_sem, Tryz.results32]; done))
       ·intro hc; try simp [-List.length_eq_zero_iff] at hc
        all_goals try (exfalso; first | omega | contradiction; done)
        all_goals (
         refine AW.skipN (fun _ h => h) ?_
         refine rgE (fun _ => [1]) ?_
         intro k hk; simp -dsimp (maxSteps := 2000000) [go_sem, -decide_eq_true_eq, -decide_eq_false_iff_not, -List.map_set, set_I1, set_I1b, hac, hdc, hx, hx3, hq]
         repeat' first | apply And.intro | refine hk _ ?_ | intro hg | ((first | refine CallK.intro (hO (q : Int) (idleF p a c) (by omega) (by omega) hwi (by rw [Int.toNat_natCast]; omega)) ?_ | refine CallK.intro (hO (q : Int) (setA (idleF p a c) (a : Int) 2) (by omega) (by omega) (hwi.setA _ _) (by rw [Int.toNat_natCast]; omega)) ?_); simp -dsimp (maxSteps := 2000000) [go_sem, -decide_eq_true_eq, -decide_eq_false_iff_not, -List.map_set, set_I1, set_I1b, hac, hdc, hx, hx3, hq]) | omega | exact True.intro
         all_goals clear hk k
         refine ⟨.intro, And.intro (.inl rfl) ?_⟩
         refine Gh.done ?_
         first | (obtain rfl : a = 0 := (by omega); rw [ov_top]; simp [go_sem, Tryz.results32]; done) | (rw [ov_next h0 (by rw [hnq]; exact hk1) hs0]; simp [go_sem, Tryz.results32]; done) | (rw [ov_seq h0 (by rw [hnq]; exact hk1) (by omega), hxn, hq]; simp [go_sem, Tryz.results32]; done) | (have h9 := ov_and (p := p) (f := f) (c := c) h0 (by rw [hnq]; exact hk4); rw [hxn, hq, Int.toNat_natCast] at h9; first | (rw [if_pos (by simpa using hc)] at h9; rw [h9]; simp [go_sem, Tryz.results32]; done) | (rw [if_neg (by simpa using hc)] at h9; rw [h9]; simp [go_sem, Tryz.results32, setA, -List.map_set, set_I1, set_I1b]; done)) | (rw [ov_rest h0 (by rw [hnq]; exact n1) (by rw [hnq]; simpa using hc), hxn, hq]; simp [go_sem, Tryz.results32]; done)))
     ·intro hc; try simp [-List.length_eq_zero_iff] at hc
      all_goals try (exfalso; first | omega | contradiction; done)
      all_goals (
       refine AW.skipN (fun _ h => h) ?_
       refine rgE (fun _ => [1]) ?_
       intro k hk; simp -dsimp (maxSteps := 2000000) [go_sem, -decide_eq_true_eq, -decide_eq_false_iff_not, -List.map_set, set_I1, set_I1b, hac, hdc, hx, hx3, hq]
       repeat' first | apply And.intro | refine hk _ ?_ | intro hg | ((first | refine CallK.intro (hO (q : Int) (idleF p a c) (by omega) (by omega) hwi (by rw [Int.toNat_natCast]; omega)) ?_ | refine CallK.intro (hO (q : Int) (setA (idleF p a c) (a : Int) 2) (by omega) (by omega) (hwi.setA _ _) (by rw [Int.toNat_natCast]; omega)) ?_); simp -dsimp (maxSteps := 2000000) [go_sem, -decide_eq_true_eq, -decide_eq_false_iff_not, -List.map_set, set_I1, set_I1b, hac, hdc, hx, hx3, hq]) | omega | exact True.intro
       all_goals clear hk k
       refine ⟨.intro, And.intro (.inl rfl) ?_⟩
       refine Gh.done ?_
       first | (obtain rfl : a = 0 := (by omega); rw [ov_top]; simp [go_sem, Tryz.results32]; done) | (rw [ov_next h0 (by rw [hnq]; exact hk1) hs0]; simp [go_sem, Tryz.results32]; done) | (rw [ov_seq h0 (by rw [hnq]; exact hk1) (by omega), hxn, hq]; simp [go_sem, Tryz.results32]; done) | (have h9 := ov_and (p := p) (f := f) (c := c) h0 (by rw [hnq]; exact hk4); rw [hxn, hq, Int.toNat_natCast] at h9; first | (rw [if_pos (by simpa using hc)] at h9; rw [h9]; simp [go_sem, Tryz.results32]; done) | (rw [if_neg (by simpa using hc)] at h9; rw [h9]; simp [go_sem, Tryz.results32, setA, -List.map_set, set_I1, set_I1b]; done)) | (rw [ov_rest h0 (by rw [hnq]; exact n1) (by rw [hnq]; simpa using hc), hxn, hq]; simp [go_sem, Tryz.results32]; done))))
end Go.AM
namespace Go.AM
open Go.Proofs
theorem dc_go_impl (p : List TStep) (hP : ProcOk p) : ∀ f : Nat, (∀ (k : Int) (c : TChart), 0 ≤ k → k.toNat < p.length → WfC p c → mE (pars p) k.toNat ≤ f → DC Tryz.prog 54 [.op (brow p c), .int .i64 k] (.tup []) [(0, .op (brow p (goF p f true k.toNat c)))]) ∧
    (∀ (k : Int) (c : TChart), 0 ≤ k → k.toNat < p.length → WfC p c → mO (pars p) k.toNat ≤ f → DC Tryz.prog 39 [.op (brow p c), .int .i64 k] (.tup []) [(0, .op (brow p (goF p f false k.toNat c)))]) := by
 intro f
 induction f with
 | zero =>
  refine ⟨fun k c h0 hk hw hm => ?_, fun k c h0 hk hw hm => ?_⟩
  · exfalso; unfold mE at hm; rw [pars_len] at hm; omega
  · exfalso; unfold mO at hm; omega
 | succ f ih =>
  refine ⟨fun k c h0 hk hw hm => ?_, fun k c h0 hk hw hm => ?_⟩
  · obtain ⟨a, rfl⟩ : ∃ a : Nat, k = a := ⟨_, (Int.toNat_of_nonneg h0).symm⟩
    rw [Int.toNat_natCast] at hk hm ⊢
    exact dc_impl_board_enter p hP f ih.1 ih.2 a hk c hw hm
  · obtain ⟨a, rfl⟩ : ∃ a : Nat, k = a := ⟨_, (Int.toNat_of_nonneg h0).symm⟩
    rw [Int.toNat_natCast] at hk hm ⊢
    exact dc_impl_board_over p hP f ih.1 ih.2 a hk c hw hm
theorem dc_over_impl (p : List TStep) (hP : ProcOk p) (k : Int) (c : TChart) (h0 : 0 ≤ k) (hk : k.toNat < p.length) (hw : WfC p c) : DC Tryz.prog 39 [.op (brow p c), .int .i64 k] (.tup []) [(0, .op (brow p (goF p 800 false k.toNat c)))] :=
 (dc_go_impl p hP 800).2 k c h0 hk hw (mO_bd (by rw [pars_len]; exact hk) (by rw [pars_len]; exact hP.len.2))
theorem dc_go_spec (p : List TStep) (hP : ProcOk p) : ∀ f : Nat, (∀ (k : Int) (c : TChart), 0 ≤ k → k.toNat < p.length → WfC p c → mE (pars p) k.toNat ≤ f → DC Tryz.prog 61 [.isl 6 (p.map TStep.ro), .op (crow c), .int .i64 k] (.tup []) [(1, .op (crow (goF p f true k.toNat c)))]) ∧
    (∀ (k : Int) (c : TChart), 0 ≤ k → k.toNat < p.length → WfC p c → mO (pars p) k.toNat ≤ f → DC Tryz.prog 32 [.isl 6 (p.map TStep.ro), .op (crow c), .int .i64 k] (.tup []) [(1, .op (crow (goF p f false k.toNat c)))]) := by
 intro f
 induction f with
 | zero =>
  refine ⟨fun k c h0 hk hw hm => ?_, fun k c h0 hk hw hm => ?_⟩
  · exfalso; unfold mE at hm; rw [pars_len] at hm; omega
  · exfalso; unfold mO at hm; omega
 | succ f ih =>
  refine ⟨fun k c h0 hk hw hm => ?_, fun k c h0 hk hw hm => ?_⟩
  · obtain ⟨a, rfl⟩ : ∃ a : Nat, k = a := ⟨_, (Int.toNat_of_nonneg h0).symm⟩
    rw [Int.toNat_natCast] at hk hm ⊢
    exact dc_spec_l9Enter p hP f ih.1 ih.2 a hk c hw hm
  · obtain ⟨a, rfl⟩ : ∃ a : Nat, k = a := ⟨_, (Int.toNat_of_nonneg h0).symm⟩
    rw [Int.toNat_natCast] at hk hm ⊢
    exact dc_spec_l9Over p hP f ih.1 ih.2 a hk c hw hm
theorem dc_over_spec (p : List TStep) (hP : ProcOk p) (k : Int) (c : TChart) (h0 : 0 ≤ k) (hk : k.toNat < p.length) (hw : WfC p c) : DC Tryz.prog 32 [.isl 6 (p.map TStep.ro), .op (crow c), .int .i64 k] (.tup []) [(1, .op (crow (goF p 800 false k.toNat c)))] :=
 (dc_go_spec p hP 800).2 k c h0 hk hw (mO_bd (by rw [pars_len]; exact hk) (by rw [pars_len]; exact hP.len.2))
end Go.AM
namespace Go.AM
open Go.Proofs
set_option maxHeartbeats 4000000 in
theorem dc_impl_board_fits (p : List TStep) (c : TChart) (ho : StepsOk p) (hla : c.acts.length = p.length) (hld : c.dues.length = p.length) (i : Nat) (hi : i < p.length) : DC Tryz.prog 92 [.ip [.isl 6 (p.map TStep.ro), .int .i64 c.status, .int .i64 c.now, .isl 1 (c.vars.map I1), .isl 1 (c.acts.map I1), .isl 1 (c.dues.map I1)], .int .i64 (i : Nat)] (.bool (fits p c (i : Int))) [] := by
 have hlen := ho.len
 obtain ⟨x, hx⟩ := at_some hi
 have hxS := nS_at hx
 have haa := actN_at (c := c) (show i < c.acts.length by omega)
 have hdd := dueN_at (c := c) (show i < c.dues.length by omega)
 have hkl := kids_len p (i : Int)
 have hkb : ∀ k ∈ (kids p (i : Int)), 0 ≤ k ∧ k.toNat < c.acts.length := fun k hk => by have := kids_bd hk; omega
 have hc1 := cnt_le c 1 (kids p (i : Int))
 have hc2 := cnt_le c 2 (kids p (i : Int))
 have hwn : IntKind.wrap .i64 (cnt c 1 (kids p (i : Int)) + cnt c 2 (kids p (i : Int))) = cnt c 1 (kids p (i : Int)) + cnt c 2 (kids p (i : Int)) := wrap64 (by omega) (by omega)
 have hpo : ¬ ((i : Int) = 0) → 0 ≤ x.par ∧ x.par < (i : Int) := fun h => by have := ho.parI (by omega) hi; rw [hxS] at this; exact this
 have hpi : i ≠ 0 → 0 ≤ x.par ∧ x.par < i := fun h => by have := ho.parI (by omega) hi; rwa [hxS] at this
 have hpa : decide ((i : Int) = 0) = false → p[x.par.toNat]? = some (nS p x.par.toNat) := fun h => by have h1 := hpi (by simpa using h); obtain ⟨y, hy⟩ := at_some (l := p) (show x.par.toNat < p.length by omega); rw [nS_at hy]; exact hy
 refine DC.intro tiOk Tryz.func92 rfl rfl rfl rfl rfl rfl rfl rfl [] ?_
 refine rg [0,1] ?_
 intro k hk; simp -dsimp [go_sem, -decide_eq_true_eq, -decide_eq_false_iff_not, hx, haa, hdd, hwn]
 repeat' first | apply And.intro | refine hk _ ?_ | intro hg | omega | exact True.intro | (refine And.elim (fun h8 h9 => ?_) (hpo ?_) <;> first | assumption | omega) | fail
 all_goals clear hk k
 refine rg [0,1,5,6,7] ?_
 intro k hk; simp -dsimp (maxSteps := 2000000) [go_sem, -decide_eq_true_eq, -decide_eq_false_iff_not, hx, haa, hdd, hwn]
 repeat' first | (refine Chk.keys ?_; simp only [go_sem, List.map_cons, List.map_nil, List.flatMap_cons, List.flatMap_nil, List.flatMap_append, List.append_nil, List.nil_append, List.cons_append]; decide +kernel) | apply And.intro | refine hk _ ?_ | intro hg | (refine CallK.intro (dc_impl_kids p (i : Int) (by omega)) ?_; simp -dsimp (maxSteps := 2000000) [go_sem, -decide_eq_true_eq, -decide_eq_false_iff_not, hx, haa, hdd, hwn]) | omega | exact True.intro | (refine And.elim (fun h8 h9 => ?_) (hpo ?_) <;> first | assumption | omega) | fail
 all_goals clear hk k
 refine rg [0,1,5,6,7,8,9] ?_
 intro k hk; simp -dsimp (maxSteps := 2000000) [go_sem, -decide_eq_true_eq, -decide_eq_false_iff_not, hx, haa, hdd, hwn]
 repeat' first | apply And.intro | refine hk _ ?_ | intro hg | ((first | refine CallK.intro (dc_impl_board_count p c (kids p (i : Int)) 1 (by omega) hkb) ?_ | refine CallK.intro (dc_impl_board_count p c (kids p (i : Int)) 2 (by omega) hkb) ?_); simp -dsimp (maxSteps := 2000000) [go_sem, -decide_eq_true_eq, -decide_eq_false_iff_not, hx, haa, hdd, hwn]) | omega | exact True.intro | (refine And.elim (fun h8 h9 => ?_) (hpo ?_) <;> first | assumption | omega) | fail
 all_goals clear hk k
 refine AW.seq ?_
 refine AW.cut ⟨122, [(0, .ip [.isl 6 (p.map TStep.ro), .int .i64 c.status, .int .i64 c.now, .isl 1 (c.vars.map I1), .isl 1 (c.acts.map I1), .isl 1 (c.dues.map I1)]), (1, .int .i64 (i : Nat)), (5, .ptr 5 6 0 0), (6, .int .i64 (actA c i)), (7, .sl 1031 1 0 (kids p (i : Int)).length), (8, .int .i64 (cnt c 1 (kids p (i : Int)))), (9, .int .i64 (cnt c 2 (kids p (i : Int)))), (55, .bool (decide (actA c i = 2 ∧ (i = 0 ∨ (nS p x.par.toNat).kind ≠ 4))))], [(5, some ⟨6, [x.ro]⟩), (1031, some ⟨1, (kids p (i : Int)).map I1⟩)]⟩ ?_ ?_
 ·skip
  refine rgK ?_
  intro k hk; simp +contextual -dsimp (maxSteps := 2000000) [go_sem, -decide_eq_true_eq, -decide_eq_false_iff_not, hx, haa, hdd, hwn, hpa]
  repeat' first | (refine Chk.keys ?_; simp only [go_sem, List.map_cons, List.map_nil, List.flatMap_cons, List.flatMap_nil, List.flatMap_append, List.append_nil, List.nil_append, List.cons_append]; decide +kernel) | apply And.intro | refine hk _ ?_ | (intro hg; try simp only [decide_eq_true_eq, decide_eq_false_iff_not] at hg) | omega | exact True.intro | (refine And.elim (fun h8 h9 => ?_) (hpo ?_) <;> first | assumption | omega) | fail
  all_goals clear hk k
  all_goals (show St.Less _ _; exact Less.of rfl (by simp [go_sem] <;> first | omega | grind) (by simp [go_sem]))
 ·skip
  refine AW.cond rfl ?_ ?_
  ·intro hc; try simp at hc
   all_goals try (exfalso; omega; done)
   all_goals (
    refine rg [4] ?_
    intro k hk; simp -dsimp [go_sem, -decide_eq_true_eq, -decide_eq_false_iff_not, hx, haa, hdd, hwn]
    repeat' first | apply And.intro | refine hk _ ?_ | intro hg | omega | exact True.intro | (refine And.elim (fun h8 h9 => ?_) (hpo ?_) <;> first | assumption | omega) | fail
    all_goals clear hk k
    refine rt ?_
    rw [fits_at hx]
    simp [go_sem, Tryz.results92] at * <;> grind)
  ·intro hc; try simp at hc
   all_goals try (exfalso; omega; done)
   all_goals (
    refine AW.skipN (fun _ h => h) ?_
    refine rg [0,1,5,6,7,8,9,10] ?_
    intro k hk; simp -dsimp [go_sem, -decide_eq_true_eq, -decide_eq_false_iff_not, hx, haa, hdd, hwn]
    repeat' first | apply And.intro | refine hk _ ?_ | intro hg | omega | exact True.intro | (refine And.elim (fun h8 h9 => ?_) (hpo ?_) <;> first | assumption | omega) | fail
    all_goals clear hk k
    refine AW.seq ?_
    refine rg [0,1,5,7,8,9,10,57] ?_
    intro k hk; simp -dsimp [go_sem, -decide_eq_true_eq, -decide_eq_false_iff_not, hx, haa, hdd, hwn]
    repeat' first | apply And.intro | refine hk _ ?_ | intro hg | omega | exact True.intro | (refine And.elim (fun h8 h9 => ?_) (hpo ?_) <;> first | assumption | omega) | fail
    all_goals clear hk k
    refine AW.cond rfl ?_ ?_
    ·intro hc; try simp at hc
     all_goals try (exfalso; omega; done)
     all_goals (
      refine rg [4] ?_
      intro k hk; simp +contextual -dsimp (maxSteps := 2000000) [go_sem, -decide_eq_true_eq, -decide_eq_false_iff_not, hx, haa, hdd, hwn]
      repeat' first | apply And.intro | refine hk _ ?_ | (intro hg; try simp only [decide_eq_true_eq, decide_eq_false_iff_not] at hg) | omega | exact True.intro | (refine And.elim (fun h8 h9 => ?_) (hpo ?_) <;> first | assumption | omega) | fail
      all_goals clear hk k
      all_goals (
       refine rt ?_
       rw [fits_at hx]
       simp [go_sem, Tryz.results92] at * <;> grind))
    ·intro hc; try simp at hc
     all_goals try (exfalso; omega; done)
     all_goals (
      refine AW.skipN (fun _ h => h) ?_
      refine AW.seq ?_
      refine rg [0,1,7,8,9,10,74] ?_
      intro k hk; simp -dsimp [go_sem, -decide_eq_true_eq, -decide_eq_false_iff_not, hx, haa, hdd, hwn]
      repeat' first | apply And.intro | refine hk _ ?_ | intro hg | omega | exact True.intro | (refine And.elim (fun h8 h9 => ?_) (hpo ?_) <;> first | assumption | omega) | fail
      all_goals clear hk k
      refine AW.block ?_
      refine AW.seq ?_
      refine rg [0,1,7,8,9,10,74,75] ?_
      intro k hk; simp -dsimp [go_sem, -decide_eq_true_eq, -decide_eq_false_iff_not, hx, haa, hdd, hwn]
      repeat' first | apply And.intro | refine hk _ ?_ | intro hg | omega | exact True.intro | (refine And.elim (fun h8 h9 => ?_) (hpo ?_) <;> first | assumption | omega) | fail
      all_goals clear hk k
      refine AW.cond rfl ?_ ?_
      ·intro hc; try simp at hc
       all_goals try (exfalso; omega; done)
       all_goals (
        refine AW.skipN (fun _ h => h) ?_
        refine AW.cond rfl ?_ ?_
        ·intro hc; try simp at hc
         all_goals try (exfalso; omega; done)
         all_goals (
          refine rg [0,1,10,79] ?_
          intro k hk; simp -dsimp [go_sem, -decide_eq_true_eq, -decide_eq_false_iff_not, hx, haa, hdd, hwn]
          repeat' first | apply And.intro | refine hk _ ?_ | intro hg | omega | exact True.intro | (refine And.elim (fun h8 h9 => ?_) (hpo ?_) <;> first | assumption | omega) | fail
          all_goals clear hk k
          refine AW.cond rfl ?_ ?_
          ·intro hc; try simp at hc
           all_goals try (exfalso; omega; done)
           all_goals (
            refine rg [4] ?_
            intro k hk; simp -dsimp [go_sem, -decide_eq_true_eq, -decide_eq_false_iff_not, hx, haa, hdd, hwn]
            repeat' first | apply And.intro | refine hk _ ?_ | intro hg | omega | exact True.intro | (refine And.elim (fun h8 h9 => ?_) (hpo ?_) <;> first | assumption | omega) | fail
            all_goals clear hk k
            refine rt ?_
            rw [fits_at hx]
            simp [go_sem, Tryz.results92] at * <;> grind)
          ·intro hc; try simp at hc
           all_goals try (exfalso; omega; done)
           all_goals (
            refine AW.skipN (fun _ h => h) ?_
            refine rg [4] ?_
            intro k hk; simp -dsimp (maxSteps := 2000000) [go_sem, -decide_eq_true_eq, -decide_eq_false_iff_not, hx, haa, hdd, hwn]
            repeat' first | apply And.intro | refine hk _ ?_ | intro hg | omega | exact True.intro | (refine And.elim (fun h8 h9 => ?_) (hpo ?_) <;> first | assumption | omega) | fail
            all_goals clear hk k
            refine rt ?_
            rw [fits_at hx]
            simp [go_sem, Tryz.results92] at * <;> grind))
        ·intro hc; try simp at hc
         all_goals try (exfalso; omega; done)
         all_goals (
          refine rg [0,1,7,8,9,10,74,80] ?_
          intro k hk; simp -dsimp [go_sem, -decide_eq_true_eq, -decide_eq_false_iff_not, hx, haa, hdd, hwn]
          repeat' first | apply And.intro | refine hk _ ?_ | intro hg | omega | exact True.intro | (refine And.elim (fun h8 h9 => ?_) (hpo ?_) <;> first | assumption | omega) | fail
          all_goals clear hk k
          refine AW.cond rfl ?_ ?_
          ·intro hc; try simp at hc
           all_goals try (exfalso; omega; done)
           all_goals (
            refine AW.cut ⟨122, [(0, .ip [.isl 6 (p.map TStep.ro), .int .i64 c.status, .int .i64 c.now, .isl 1 (c.vars.map I1), .isl 1 (c.acts.map I1), .isl 1 (c.dues.map I1)]), (1, .int .i64 (i : Nat)), (10, .bool false), (91, .bool (decide (cnt c 1 (kids p (i : Int)) = 0 ∨ cnt c 1 (kids p (i : Int)) + cnt c 2 (kids p (i : Int)) ≠ (kids p (i : Int)).length)))], []⟩ ?_ ?_
            ·skip
             refine rgK ?_
             intro k hk; simp +contextual -dsimp (maxSteps := 2000000) [go_sem, -decide_eq_true_eq, -decide_eq_false_iff_not, hx, haa, hdd, hwn]
             repeat' first | apply And.intro | refine hk _ ?_ | (intro hg; try simp only [decide_eq_true_eq, decide_eq_false_iff_not] at hg) | omega | exact True.intro | (refine And.elim (fun h8 h9 => ?_) (hpo ?_) <;> first | assumption | omega) | fail
             all_goals clear hk k
             all_goals (show St.Less _ _; exact Less.of rfl (by simp [go_sem] <;> first | omega | grind) (by simp [go_sem]))
            ·skip
             refine AW.cond rfl ?_ ?_
             ·intro hc; try simp at hc
              all_goals try (exfalso; omega; done)
              all_goals (
               refine rg [4] ?_
               intro k hk; simp -dsimp [go_sem, -decide_eq_true_eq, -decide_eq_false_iff_not, hx, haa, hdd, hwn]
               repeat' first | apply And.intro | refine hk _ ?_ | intro hg | omega | exact True.intro | (refine And.elim (fun h8 h9 => ?_) (hpo ?_) <;> first | assumption | omega) | fail
               all_goals clear hk k
               refine rt ?_
               rw [fits_at hx]
               simp [go_sem, Tryz.results92] at * <;> grind)
             ·intro hc; try simp at hc
              all_goals try (exfalso; omega; done)
              all_goals (
               refine AW.skipN (fun _ h => h) ?_
               refine rg [4] ?_
               intro k hk; simp -dsimp (maxSteps := 2000000) [go_sem, -decide_eq_true_eq, -decide_eq_false_iff_not, hx, haa, hdd, hwn]
               repeat' first | apply And.intro | refine hk _ ?_ | intro hg | omega | exact True.intro | (refine And.elim (fun h8 h9 => ?_) (hpo ?_) <;> first | assumption | omega) | fail
               all_goals clear hk k
               refine rt ?_
               rw [fits_at hx]
               simp [go_sem, Tryz.results92] at * <;> grind))
          ·intro hc; try simp at hc
           all_goals try (exfalso; omega; done)
           all_goals (
            refine rg [0,1,7,8,10,74,92] ?_
            intro k hk; simp -dsimp [go_sem, -decide_eq_true_eq, -decide_eq_false_iff_not, hx, haa, hdd, hwn]
            repeat' first | apply And.intro | refine hk _ ?_ | intro hg | omega | exact True.intro | (refine And.elim (fun h8 h9 => ?_) (hpo ?_) <;> first | assumption | omega) | fail
            all_goals clear hk k
            refine AW.cond rfl ?_ ?_
            ·intro hc; try simp at hc
             all_goals try (exfalso; omega; done)
             all_goals (
              refine AW.seq ?_
              refine rg [0,1,7,95] ?_
              intro k hk; simp -dsimp [go_sem, -decide_eq_true_eq, -decide_eq_false_iff_not, hx, haa, hdd, hwn]
              repeat' first | apply And.intro | refine hk _ ?_ | intro hg | omega | exact True.intro | (refine And.elim (fun h8 h9 => ?_) (hpo ?_) <;> first | assumption | omega) | fail
              all_goals clear hk k
              refine AW.cond rfl ?_ ?_
              ·intro hc; try simp at hc
               all_goals try (exfalso; omega; done)
               all_goals (
                refine rg [4] ?_
                intro k hk; simp -dsimp [go_sem, -decide_eq_true_eq, -decide_eq_false_iff_not, hx, haa, hdd, hwn]
                repeat' first | apply And.intro | refine hk _ ?_ | intro hg | omega | exact True.intro | (refine And.elim (fun h8 h9 => ?_) (hpo ?_) <;> first | assumption | omega) | fail
                all_goals clear hk k
                refine rt ?_
                rw [fits_at hx]
                simp [go_sem, Tryz.results92] at * <;> grind)
              ·intro hc; try simp at hc
               all_goals try (exfalso; omega; done)
               all_goals (
                refine AW.skipN (fun _ h => h) ?_
                have hkn := cnt_kids (show 0 < cnt c 1 (kids p (i : Int)) by omega)
                have hhd := head_at hkn
                have hhb := hkb _ (List.mem_of_getElem? hhd)
                have hha := actA_at hhb.2
                have hkp := List.length_pos_iff.2 hkn
                refine rgN [0,1,10] (fun _ h => h) ?_
                intro k hk; simp -dsimp (maxSteps := 2000000) [go_sem, -decide_eq_true_eq, -decide_eq_false_iff_not, hx, haa, hdd, hwn, hhd, hha]
                repeat' first | (refine Chk.keys ?_; simp only [go_sem, List.map_cons, List.map_nil, List.flatMap_cons, List.flatMap_nil, List.flatMap_append, List.append_nil, List.nil_append, List.cons_append]; decide +kernel) | apply And.intro | refine hk _ ?_ | intro hg | omega | exact True.intro | (refine And.elim (fun h8 h9 => ?_) (hpo ?_) <;> first | assumption | omega) | fail
                all_goals clear hk k
                refine rg [4] ?_
                intro k hk; simp -dsimp (maxSteps := 2000000) [go_sem, -decide_eq_true_eq, -decide_eq_false_iff_not, hx, haa, hdd, hwn]
                repeat' first | apply And.intro | refine hk _ ?_ | intro hg | omega | exact True.intro | (refine And.elim (fun h8 h9 => ?_) (hpo ?_) <;> first | assumption | omega) | fail
                all_goals clear hk k
                refine rt ?_
                rw [fits_at hx]
                simp [go_sem, Tryz.results92] at * <;> grind))
            ·intro hc; try simp at hc
             all_goals try (exfalso; omega; done)
             all_goals (
              refine rg [0,1,10,74,107] ?_
              intro k hk; simp -dsimp [go_sem, -decide_eq_true_eq, -decide_eq_false_iff_not, hx, haa, hdd, hwn]
              repeat' first | apply And.intro | refine hk _ ?_ | intro hg | omega | exact True.intro | (refine And.elim (fun h8 h9 => ?_) (hpo ?_) <;> first | assumption | omega) | fail
              all_goals clear hk k
              refine AW.cond rfl ?_ ?_
              ·intro hc; try simp at hc
               all_goals try (exfalso; omega; done)
               all_goals (
                refine rgN [0,1,10] (fun _ h => h) ?_
                intro k hk; simp -dsimp [go_sem, -decide_eq_true_eq, -decide_eq_false_iff_not, hx, haa, hdd, hwn]
                repeat' first | apply And.intro | refine hk _ ?_ | intro hg | omega | exact True.intro | (refine And.elim (fun h8 h9 => ?_) (hpo ?_) <;> first | assumption | omega) | fail
                all_goals clear hk k
                refine rg [4] ?_
                intro k hk; simp -dsimp (maxSteps := 2000000) [go_sem, -decide_eq_true_eq, -decide_eq_false_iff_not, hx, haa, hdd, hwn]
                repeat' first | apply And.intro | refine hk _ ?_ | intro hg | omega | exact True.intro | (refine And.elim (fun h8 h9 => ?_) (hpo ?_) <;> first | assumption | omega) | fail
                all_goals clear hk k
                refine rt ?_
                rw [fits_at hx]
                simp [go_sem, Tryz.results92] at * <;> grind)
              ·intro hc; try simp at hc
               all_goals try (exfalso; omega; done)
               all_goals (
                refine rg [0,1,10,109] ?_
                intro k hk; simp -dsimp [go_sem, -decide_eq_true_eq, -decide_eq_false_iff_not, hx, haa, hdd, hwn]
                repeat' first | apply And.intro | refine hk _ ?_ | intro hg | omega | exact True.intro | (refine And.elim (fun h8 h9 => ?_) (hpo ?_) <;> first | assumption | omega) | fail
                all_goals clear hk k
                refine AW.cond rfl ?_ ?_
                ·intro hc; try simp at hc
                 all_goals try (exfalso; omega; done)
                 all_goals (
                  refine rg [4] ?_
                  intro k hk; simp -dsimp [go_sem, -decide_eq_true_eq, -decide_eq_false_iff_not, hx, haa, hdd, hwn]
                  repeat' first | apply And.intro | refine hk _ ?_ | intro hg | omega | exact True.intro | (refine And.elim (fun h8 h9 => ?_) (hpo ?_) <;> first | assumption | omega) | fail
                  all_goals clear hk k
                  refine rt ?_
                  rw [fits_at hx]
                  simp [go_sem, Tryz.results92] at * <;> grind)
                ·intro hc; try simp at hc
                 all_goals try (exfalso; omega; done)
                 all_goals (
                  refine AW.skipN (fun _ h => h) ?_
                  refine rg [4] ?_
                  intro k hk; simp -dsimp (maxSteps := 2000000) [go_sem, -decide_eq_true_eq, -decide_eq_false_iff_not, hx, haa, hdd, hwn]
                  repeat' first | apply And.intro | refine hk _ ?_ | intro hg | omega | exact True.intro | (refine And.elim (fun h8 h9 => ?_) (hpo ?_) <;> first | assumption | omega) | fail
                  all_goals clear hk k
                  refine rt ?_
                  rw [fits_at hx]
                  simp [go_sem, Tryz.results92] at * <;> grind))))))
      ·intro hc; try simp at hc
       all_goals try (exfalso; omega; done)
       all_goals (
        refine rgN [0,1,7,8,9,10,74,75] (fun _ h => h) ?_
        intro k hk; simp -dsimp [go_sem, -decide_eq_true_eq, -decide_eq_false_iff_not, hx, haa, hdd, hwn]
        repeat' first | apply And.intro | refine hk _ ?_ | intro hg | omega | exact True.intro | (refine And.elim (fun h8 h9 => ?_) (hpo ?_) <;> first | assumption | omega) | fail
        all_goals clear hk k
        refine AW.cond rfl ?_ ?_
        ·intro hc; try simp at hc
         all_goals try (exfalso; omega; done)
         all_goals (
          refine rg [0,1,10,79] ?_
          intro k hk; simp -dsimp [go_sem, -decide_eq_true_eq, -decide_eq_false_iff_not, hx, haa, hdd, hwn]
          repeat' first | apply And.intro | refine hk _ ?_ | intro hg | omega | exact True.intro | (refine And.elim (fun h8 h9 => ?_) (hpo ?_) <;> first | assumption | omega) | fail
          all_goals clear hk k
          refine AW.cond rfl ?_ ?_
          ·intro hc; try simp at hc
           all_goals try (exfalso; omega; done)
           all_goals (
            refine rg [4] ?_
            intro k hk; simp -dsimp [go_sem, -decide_eq_true_eq, -decide_eq_false_iff_not, hx, haa, hdd, hwn]
            repeat' first | apply And.intro | refine hk _ ?_ | intro hg | omega | exact True.intro | (refine And.elim (fun h8 h9 => ?_) (hpo ?_) <;> first | assumption | omega) | fail
            all_goals clear hk k
            refine rt ?_
            rw [fits_at hx]
            simp [go_sem, Tryz.results92] at * <;> grind)
          ·intro hc; try simp at hc
           all_goals try (exfalso; omega; done)
           all_goals (
            refine AW.skipN (fun _ h => h) ?_
            refine rg [4] ?_
            intro k hk; simp -dsimp (maxSteps := 2000000) [go_sem, -decide_eq_true_eq, -decide_eq_false_iff_not, hx, haa, hdd, hwn]
            repeat' first | apply And.intro | refine hk _ ?_ | intro hg | omega | exact True.intro | (refine And.elim (fun h8 h9 => ?_) (hpo ?_) <;> first | assumption | omega) | fail
            all_goals clear hk k
            refine rt ?_
            rw [fits_at hx]
            simp [go_sem, Tryz.results92] at * <;> grind))
        ·intro hc; try simp at hc
         all_goals try (exfalso; omega; done)
         all_goals (
          refine rg [0,1,7,8,9,10,74,80] ?_
          intro k hk; simp -dsimp [go_sem, -decide_eq_true_eq, -decide_eq_false_iff_not, hx, haa, hdd, hwn]
          repeat' first | apply And.intro | refine hk _ ?_ | intro hg | omega | exact True.intro | (refine And.elim (fun h8 h9 => ?_) (hpo ?_) <;> first | assumption | omega) | fail
          all_goals clear hk k
          refine AW.cond rfl ?_ ?_
          ·intro hc; try simp at hc
           all_goals try (exfalso; omega; done)
           all_goals (
            refine AW.cut ⟨122, [(0, .ip [.isl 6 (p.map TStep.ro), .int .i64 c.status, .int .i64 c.now, .isl 1 (c.vars.map I1), .isl 1 (c.acts.map I1), .isl 1 (c.dues.map I1)]), (1, .int .i64 (i : Nat)), (10, .bool false), (91, .bool (decide (cnt c 1 (kids p (i : Int)) = 0 ∨ cnt c 1 (kids p (i : Int)) + cnt c 2 (kids p (i : Int)) ≠ (kids p (i : Int)).length)))], []⟩ ?_ ?_
            ·skip
             refine rgK ?_
             intro k hk; simp +contextual -dsimp (maxSteps := 2000000) [go_sem, -decide_eq_true_eq, -decide_eq_false_iff_not, hx, haa, hdd, hwn]
             repeat' first | apply And.intro | refine hk _ ?_ | (intro hg; try simp only [decide_eq_true_eq, decide_eq_false_iff_not] at hg) | omega | exact True.intro | (refine And.elim (fun h8 h9 => ?_) (hpo ?_) <;> first | assumption | omega) | fail
             all_goals clear hk k
             all_goals (show St.Less _ _; exact Less.of rfl (by simp [go_sem] <;> first | omega | grind) (by simp [go_sem]))
            ·skip
             refine AW.cond rfl ?_ ?_
             ·intro hc; try simp at hc
              all_goals try (exfalso; omega; done)
              all_goals (
               refine rg [4] ?_
               intro k hk; simp -dsimp [go_sem, -decide_eq_true_eq, -decide_eq_false_iff_not, hx, haa, hdd, hwn]
               repeat' first | apply And.intro | refine hk _ ?_ | intro hg | omega | exact True.intro | (refine And.elim (fun h8 h9 => ?_) (hpo ?_) <;> first | assumption | omega) | fail
               all_goals clear hk k
               refine rt ?_
               rw [fits_at hx]
               simp [go_sem, Tryz.results92] at * <;> grind)
             ·intro hc; try simp at hc
              all_goals try (exfalso; omega; done)
              all_goals (
               refine AW.skipN (fun _ h => h) ?_
               refine rg [4] ?_
               intro k hk; simp -dsimp (maxSteps := 2000000) [go_sem, -decide_eq_true_eq, -decide_eq_false_iff_not, hx, haa, hdd, hwn]
               repeat' first | apply And.intro | refine hk _ ?_ | intro hg | omega | exact True.intro | (refine And.elim (fun h8 h9 => ?_) (hpo ?_) <;> first | assumption | omega) | fail
               all_goals clear hk k
               refine rt ?_
               rw [fits_at hx]
               simp [go_sem, Tryz.results92] at * <;> grind))
          ·intro hc; try simp at hc
           all_goals try (exfalso; omega; done)
           all_goals (
            refine rg [0,1,7,8,10,74,92] ?_
            intro k hk; simp -dsimp [go_sem, -decide_eq_true_eq, -decide_eq_false_iff_not, hx, haa, hdd, hwn]
            repeat' first | apply And.intro | refine hk _ ?_ | intro hg | omega | exact True.intro | (refine And.elim (fun h8 h9 => ?_) (hpo ?_) <;> first | assumption | omega) | fail
            all_goals clear hk k
            refine AW.cond rfl ?_ ?_
            ·intro hc; try simp at hc
             all_goals try (exfalso; omega; done)
             all_goals (
              refine AW.seq ?_
              refine rg [0,1,7,95] ?_
              intro k hk; simp -dsimp [go_sem, -decide_eq_true_eq, -decide_eq_false_iff_not, hx, haa, hdd, hwn]
              repeat' first | apply And.intro | refine hk _ ?_ | intro hg | omega | exact True.intro | (refine And.elim (fun h8 h9 => ?_) (hpo ?_) <;> first | assumption | omega) | fail
              all_goals clear hk k
              refine AW.cond rfl ?_ ?_
              ·intro hc; try simp at hc
               all_goals try (exfalso; omega; done)
               all_goals (
                refine rg [4] ?_
                intro k hk; simp -dsimp [go_sem, -decide_eq_true_eq, -decide_eq_false_iff_not, hx, haa, hdd, hwn]
                repeat' first | apply And.intro | refine hk _ ?_ | intro hg | omega | exact True.intro | (refine And.elim (fun h8 h9 => ?_) (hpo ?_) <;> first | assumption | omega) | fail
                all_goals clear hk k
                refine rt ?_
                rw [fits_at hx]
                simp [go_sem, Tryz.results92] at * <;> grind)
              ·intro hc; try simp at hc
               all_goals try (exfalso; omega; done)
               all_goals (
                refine AW.skipN (fun _ h => h) ?_
                have hkn := cnt_kids (show 0 < cnt c 1 (kids p (i : Int)) by omega)
                have hhd := head_at hkn
                have hhb := hkb _ (List.mem_of_getElem? hhd)
                have hha := actA_at hhb.2
                have hkp := List.length_pos_iff.2 hkn
                refine rgN [0,1,10] (fun _ h => h) ?_
                intro k hk; simp -dsimp (maxSteps := 2000000) [go_sem, -decide_eq_true_eq, -decide_eq_false_iff_not, hx, haa, hdd, hwn, hhd, hha]
                repeat' first | (refine Chk.keys ?_; simp only [go_sem, List.map_cons, List.map_nil, List.flatMap_cons, List.flatMap_nil, List.flatMap_append, List.append_nil, List.nil_append, List.cons_append]; decide +kernel) | apply And.intro | refine hk _ ?_ | intro hg | omega | exact True.intro | (refine And.elim (fun h8 h9 => ?_) (hpo ?_) <;> first | assumption | omega) | fail
                all_goals clear hk k
                refine rg [4] ?_
                intro k hk; simp -dsimp (maxSteps := 2000000) [go_sem, -decide_eq_true_eq, -decide_eq_false_iff_not, hx, haa, hdd, hwn]
                repeat' first | apply And.intro | refine hk _ ?_ | intro hg | omega | exact True.intro | (refine And.elim (fun h8 h9 => ?_) (hpo ?_) <;> first | assumption | omega) | fail
                all_goals clear hk k
                refine rt ?_
                rw [fits_at hx]
                simp [go_sem, Tryz.results92] at * <;> grind))
            ·intro hc; try simp at hc
             all_goals try (exfalso; omega; done)
             all_goals (
              refine rg [0,1,10,74,107] ?_
              intro k hk; simp -dsimp [go_sem, -decide_eq_true_eq, -decide_eq_false_iff_not, hx, haa, hdd, hwn]
              repeat' first | apply And.intro | refine hk _ ?_ | intro hg | omega | exact True.intro | (refine And.elim (fun h8 h9 => ?_) (hpo ?_) <;> first | assumption | omega) | fail
              all_goals clear hk k
              refine AW.cond rfl ?_ ?_
              ·intro hc; try simp at hc
               all_goals try (exfalso; omega; done)
               all_goals (
                refine rgN [0,1,10] (fun _ h => h) ?_
                intro k hk; simp -dsimp [go_sem, -decide_eq_true_eq, -decide_eq_false_iff_not, hx, haa, hdd, hwn]
                repeat' first | apply And.intro | refine hk _ ?_ | intro hg | omega | exact True.intro | (refine And.elim (fun h8 h9 => ?_) (hpo ?_) <;> first | assumption | omega) | fail
                all_goals clear hk k
                refine rg [4] ?_
                intro k hk; simp -dsimp (maxSteps := 2000000) [go_sem, -decide_eq_true_eq, -decide_eq_false_iff_not, hx, haa, hdd, hwn]
                repeat' first | apply And.intro | refine hk _ ?_ | intro hg | omega | exact True.intro | (refine And.elim (fun h8 h9 => ?_) (hpo ?_) <;> first | assumption | omega) | fail
                all_goals clear hk k
                refine rt ?_
                rw [fits_at hx]
                simp [go_sem, Tryz.results92] at * <;> grind)
              ·intro hc; try simp at hc
               all_goals try (exfalso; omega; done)
               all_goals (
                refine rg [0,1,10,109] ?_
                intro k hk; simp -dsimp [go_sem, -decide_eq_true_eq, -decide_eq_false_iff_not, hx, haa, hdd, hwn]
                repeat' first | apply And.intro | refine hk _ ?_ | intro hg | omega | exact True.intro | (refine And.elim (fun h8 h9 => ?_) (hpo ?_) <;> first | assumption | omega) | fail
                all_goals clear hk k
                refine AW.cond rfl ?_ ?_
                ·intro hc; try simp at hc
                 all_goals try (exfalso; omega; done)
                 all_goals (
                  refine rg [4] ?_
                  intro k hk; simp -dsimp [go_sem, -decide_eq_true_eq, -decide_eq_false_iff_not, hx, haa, hdd, hwn]
                  repeat' first | apply And.intro | refine hk _ ?_ | intro hg | omega | exact True.intro | (refine And.elim (fun h8 h9 => ?_) (hpo ?_) <;> first | assumption | omega) | fail
                  all_goals clear hk k
                  refine rt ?_
                  rw [fits_at hx]
                  simp [go_sem, Tryz.results92] at * <;> grind)
                ·intro hc; try simp at hc
                 all_goals try (exfalso; omega; done)
                 all_goals (
                  refine AW.skipN (fun _ h => h) ?_
                  refine rg [4] ?_
                  intro k hk; simp -dsimp (maxSteps := 2000000) [go_sem, -decide_eq_true_eq, -decide_eq_false_iff_not, hx, haa, hdd, hwn]
                  repeat' first | apply And.intro | refine hk _ ?_ | intro hg | omega | exact True.intro | (refine And.elim (fun h8 h9 => ?_) (hpo ?_) <;> first | assumption | omega) | fail
                  all_goals clear hk k
                  refine rt ?_
                  rw [fits_at hx]
                  simp [go_sem, Tryz.results92] at * <;> grind))))))))
end Go.AM
