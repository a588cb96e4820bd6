/- Joined texts: H3 Pc8 Ph K1 Zh F3 F4 F6 F8 G8 G9 Ga H4 H5. -/
import Derived.Test.YtepgnenjbjdccaaGreatB1
import Derived.Test.YtepgnenjbjdccaaGreatB2
import Derived.Test.YtepgnenjbjdccaaGreatB3
import Derived.Test.YtepgnenjbjdccaaGreatB4
import Derived.Test.YtepgnenjbjdccaaGreatB5
set_option linter.unusedVariables false
set_option linter.unusedSimpArgs false
set_option maxHeartbeats 600000
set_option maxRecDepth 100000
namespace Go.AM
open Go.Proofs
theorem dc_impl_board_isOrdered (p : List TStep) (c : TChart) (ho : StepsOk p) (hla : c.acts.length = p.length) (hld : c.dues.length = p.length) : DC Tryz.prog 67 [.ip [.isl 6 (p.map TStep.ro), .int .i64 c.status, .int .i64 c.now, .isl 1 (c.vars.map I1), .isl 1 (c.acts.map I1), .isl 1 (c.dues.map I1)]] (.bool (ordB p c)) [] := by
 have hlen := ho.len
 have ha0 := actN_at (c := c) (k := 0) (by omega)
 refine DC.intro tiOk Tryz.func67 rfl rfl rfl rfl rfl rfl rfl rfl [] ?_
 refine rgA [0] ?_
 refine AW.seq ?_
 refine rgA [0,9] ?_
 refine AW.cond rfl ?_ ?_
 ·intro hc; try simp at hc
  all_goals (
   refine rg [2] ?_
   intro k hk; simp +contextual -dsimp (maxSteps := 2000000) [go_sem, -decide_eq_true_eq, -decide_eq_false_iff_not]
   repeat' first | apply And.intro | refine hk _ ?_ | (intro hg; try simp only [decide_eq_true_eq, decide_eq_false_iff_not] at hg) | ((first | refine CallK.intro (dc_impl_areSmall c.acts 0 (by omega)) ?_ | refine CallK.intro (dc_impl_areSmall c.dues 0 (by omega)) ?_); simp +contextual -dsimp (maxSteps := 2000000) [go_sem, -decide_eq_true_eq, -decide_eq_false_iff_not]) | omega | exact True.intro
   all_goals clear hk k
   all_goals (
    refine rt ?_
    first | (have hs : c.status = 1 := (by simpa using ‹c.status = 1›); rw [ordB, if_neg (by simp [hs]), allFit_miss hlt (by simpa using hc)]; simp [go_sem, Tryz.results67]; done) | (have hie : i = p.length := (by omega); rw [hie] at hall; have hs : c.status = 1 := (by simpa using ‹c.status = 1›); rw [ordB, if_neg (by simp [hs]), hall]; simp [go_sem, Tryz.results67]; done) | (rw [ordB, if_pos (by simpa using ‹¬ c.status = 1›), ← smallB_zero, ← smallB_zero]; simp [go_sem, Tryz.results67, *] <;> simp_all)))
 ·intro hc; try simp at hc
  all_goals (
   refine AW.skipN (fun _ h => h) ?_
   refine AW.seq ?_
   refine rgA [0,28,29] ?_
   refine AW.block ?_
   refine AW.loopI (fun i : Nat => ⟨45, [(0, .ip [.isl 6 (p.map TStep.ro), .int .i64 c.status, .int .i64 c.now, .isl 1 (c.vars.map I1), .isl 1 (c.acts.map I1), .isl 1 (c.dues.map I1)]), (28, .int .i64 p.length), (29, .int .i64 i)], []⟩) (fun i => i ≤ p.length ∧ allFit p c i = true) (fun i => p.length - i) (0) (by simp [allFit]) (Less.of rfl (by simp [go_sem]) (by simp [go_sem])) ?_
   rintro i ⟨hi, hall⟩
   refine rgA [0,28,29,30] ?_
   refine AW.seq ?_
   refine AW.cond rfl ?_ ?_
   ·intro hc; try simp at hc
    all_goals (
     have hlt : i < p.length := by assumption
     refine AW.skipN (fun _ h => h) ?_
     refine AW.seq ?_
     refine AW.block ?_
     refine rgA [0,3,28,29] ?_
     refine rg [0,28,29,35] ?_
     intro k hk; simp -dsimp (maxSteps := 2000000) [go_sem, -decide_eq_true_eq, -decide_eq_false_iff_not]
     repeat' first | apply And.intro | refine hk _ ?_ | intro hg | (refine CallK.intro (dc_impl_board_fits p c ho hla hld i hlt) ?_; simp -dsimp (maxSteps := 2000000) [go_sem, -decide_eq_true_eq, -decide_eq_false_iff_not]) | omega | exact True.intro
     all_goals clear hk k
     refine AW.cond rfl ?_ ?_
     ·intro hc; try simp at hc
      all_goals (
       refine rgA [2] ?_
       refine rt ?_
       first | (have hs : c.status = 1 := (by simpa using ‹c.status = 1›); rw [ordB, if_neg (by simp [hs]), allFit_miss hlt (by simpa using hc)]; simp [go_sem, Tryz.results67]; done) | (have hie : i = p.length := (by omega); rw [hie] at hall; have hs : c.status = 1 := (by simpa using ‹c.status = 1›); rw [ordB, if_neg (by simp [hs]), hall]; simp [go_sem, Tryz.results67]; done) | (rw [ordB, if_pos (by simpa using ‹¬ c.status = 1›), ← smallB_zero, ← smallB_zero]; simp [go_sem, Tryz.results67, *] <;> simp_all))
     ·intro hc; try simp at hc
      all_goals (
       refine AW.skipN (fun _ h => h) ?_
       refine rgKA ?_
       show ∃ _, _
       have hw := wrapi hlt (by omega)
       refine ⟨i + 1, ⟨by omega, by rw [allFit_step, hall]; simpa using hc⟩, by omega, Less.of rfl (by simp [go_sem, hw]) (by simp [go_sem])⟩))
   ·intro hc; try simp at hc
    all_goals (
     refine AW.exitN (fun _ h => h) ?_
     refine rg [2] ?_
     intro k hk; simp -dsimp (maxSteps := 2000000) [go_sem, -decide_eq_true_eq, -decide_eq_false_iff_not, ha0]
     repeat' first | apply And.intro | refine hk _ ?_ | intro hg | omega | exact True.intro
     all_goals clear hk k
     refine rt ?_
     first | (have hs : c.status = 1 := (by simpa using ‹c.status = 1›); rw [ordB, if_neg (by simp [hs]), allFit_miss hlt (by simpa using hc)]; simp [go_sem, Tryz.results67]; done) | (have hie : i = p.length := (by omega); rw [hie] at hall; have hs : c.status = 1 := (by simpa using ‹c.status = 1›); rw [ordB, if_neg (by simp [hs]), hall]; simp [go_sem, Tryz.results67]; done) | (rw [ordB, if_pos (by simpa using ‹¬ c.status = 1›), ← smallB_zero, ← smallB_zero]; simp [go_sem, Tryz.results67, *] <;> simp_all)))
theorem dc_impl_ChartFault (p : List TStep) (c : TChart) (hp : p.length ≤ 9223372036854775807) (hg : ∀ e ∈ p, e.gok) (hc0 : c.gok) : DC Tryz.prog 35 [.isl 6 (p.map TStep.ro), .agg c.ro] (.int .i64 (chartF p c)) [] := by
 obtain ⟨g0, g1, g2⟩ := hc0
 refine DC.intro tiOk Tryz.func35 rfl rfl rfl rfl rfl rfl rfl rfl [] ?_
 refine rgA [0,3] ?_
 refine AW.seq ?_
 refine AW.cut ⟨64, [(0, .isl 6 (p.map TStep.ro)), (3, .ptr 3 5 0 0), (5, .int .i64 (chart1 p c))], [(3, some ⟨5, [c.ro]⟩)]⟩ ?_ ?_
 ·skip
  refine rgK ?_
  intro k hk; simp +contextual -dsimp (maxSteps := 2000000) [go_sem, -decide_eq_true_eq, -decide_eq_false_iff_not]
  repeat' first | (refine Chk.keys ?_; simp only [go_sem, List.map_cons, List.map_nil, List.flatMap_cons, List.flatMap_nil, List.flatMap_append, List.append_nil, List.nil_append, List.cons_append]; decide +kernel) | apply And.intro | refine hk _ ?_ | (intro hg; try simp only [decide_eq_true_eq, decide_eq_false_iff_not] at hg) | ((first | refine CallK.intro (dc_impl_ProcFault p hp hg) ?_ | refine CallK.intro (dc_impl_inRange _ _ _) ?_ | refine CallK.intro (dc_impl_isTime _) ?_ | refine CallK.intro (dc_impl_codeIf _ _) ?_ | refine CallK.intro (dc_impl_VarsFault c.vars g0) ?_ | refine CallK.intro (dc_impl_firstCode [_, _] (by simp)) ?_ | refine CallK.intro (dc_impl_firstCode [_, _, _] (by simp)) ?_ | refine CallK.intro (dc_impl_firstCode [_, _, _, _] (by simp)) ?_); simp +contextual -dsimp (maxSteps := 2000000) [go_sem, -decide_eq_true_eq, -decide_eq_false_iff_not]) | omega | exact True.intro
  all_goals clear hk k
  all_goals (show St.Less _ _; exact Less.of rfl (by simp [go_sem, chart1, firstC_cons, firstC_nil] <;> grind) (by simp [go_sem]))
 ·skip
  refine rgA [0,3,5,41] ?_
  refine AW.cond rfl ?_ ?_
  ·intro hc; try simp at hc
   all_goals (
    refine rgA [4] ?_
    refine rt ?_
    first | (rw [chartF_1 (by first | assumption | simpa using hc)]; simp [go_sem, Tryz.results35]; done) | (rw [chartF_3 h0 hs]; simp [go_sem, Tryz.results35]; (try grind); done) | (rw [chartF_2 h0, if_pos (by simpa using hc)]; simp [go_sem, Tryz.results35]))
  ·intro hc; try simp at hc
   all_goals (
    refine AW.skipN (fun _ h => h) ?_
    refine AW.seq ?_
    have h0 : chart1 p c = 0 := by first | assumption | simpa using hc
    obtain ⟨k1, k2, k3, k4, k5, k6⟩ := chart1_ok h0
    have ho := (procOk k1).steps
    have k3' := inR_iff.1 k3
    have hwn : IntKind.wrap .i64 (c.now + 99) = c.now + 99 := wrap64 (by omega) (by omega)
    refine AW.cut ⟨64, [(0, .isl 6 (p.map TStep.ro)), (3, .ptr 3 5 0 0), (55, .bool (decide (smallB c.acts 2 = false ∨ smallB c.dues (c.now + 99) = false)))], [(3, some ⟨5, [c.ro]⟩)]⟩ ?_ ?_
    ·skip
     refine rgK ?_
     intro k hk; simp +contextual -dsimp (maxSteps := 2000000) [go_sem, -decide_eq_true_eq, -decide_eq_false_iff_not, hwn]
     repeat' first | apply And.intro | refine hk _ ?_ | (intro hg; try simp only [decide_eq_true_eq, decide_eq_false_iff_not] at hg) | ((first | refine CallK.intro (dc_impl_areSmall c.acts 2 g1) ?_ | refine CallK.intro (dc_impl_areSmall c.dues (c.now + 99) g2) ?_); simp +contextual -dsimp (maxSteps := 2000000) [go_sem, -decide_eq_true_eq, -decide_eq_false_iff_not, hwn]) | omega | exact True.intro
     all_goals clear hk k
     all_goals (show St.Less _ _; exact Less.of rfl (by simp [go_sem] <;> first | omega | grind) (by simp [go_sem]))
    ·skip
     refine AW.cond rfl ?_ ?_
     ·intro hc; try simp at hc
      all_goals (
       refine rgA [4] ?_
       refine rt ?_
       first | (rw [chartF_1 (by first | assumption | simpa using hc)]; simp [go_sem, Tryz.results35]; done) | (rw [chartF_3 h0 hs]; simp [go_sem, Tryz.results35]; (try grind); done) | (rw [chartF_2 h0, if_pos (by simpa using hc)]; simp [go_sem, Tryz.results35]))
     ·intro hc; try simp at hc
      all_goals (
       refine AW.skipN (fun _ h => h) ?_
       have hs : ¬ (smallB c.acts 2 = false ∨ smallB c.dues (c.now + 99) = false) := by simpa using hc
       refine rgA [6] ?_
       refine rg [4] ?_
       intro k hk; simp -dsimp (maxSteps := 2000000) [go_sem, -decide_eq_true_eq, -decide_eq_false_iff_not]
       repeat' first | apply And.intro | refine hk _ ?_ | intro hg | ((first | refine CallK.intro (dc_impl_board_isOrdered p c ho k5 k6) ?_ | refine CallK.intro (dc_impl_codeIf _ _) ?_); simp -dsimp (maxSteps := 2000000) [go_sem, -decide_eq_true_eq, -decide_eq_false_iff_not]) | omega | exact True.intro
       all_goals clear hk k
       refine rt ?_
       first | (rw [chartF_1 (by first | assumption | simpa using hc)]; simp [go_sem, Tryz.results35]; done) | (rw [chartF_3 h0 hs]; simp [go_sem, Tryz.results35]; (try grind); done) | (rw [chartF_2 h0, if_pos (by simpa using hc)]; simp [go_sem, Tryz.results35])))
end Go.AM
namespace Go.AM
theorem wf_vars {p : List TStep} {c : TChart} {v : List Int} (h : WfC p c) (hv : varsF v = 0) : WfC p ⟨c.status, c.now, v, c.acts, c.dues⟩ := ⟨h.acts, h.dues, (varsOk hv).1, (varsOk hv).2, h.now⟩
end Go.AM
namespace Go.AM
@[go_sem high] theorem I1_compR : (fun x => List.map unown x) ∘ I1 = I1 := rfl
@[go_sem high] theorem TNode_compR : (fun x => List.map unown x) ∘ TNode.ro = TNode.ro := by funext x; simp [TNode_ro_un]
end Go.AM
namespace Go.AM
open Go.Proofs
theorem dc_impl_isPlace (n : Int) (m : Nat) (hm : m ≤ 9223372036854775807) : DC Tryz.prog 75 [.int .i64 n, .int .i64 (m : Nat)] (.bool (inR n 0 ((m : Int) - 1))) [] := by
 have hw : IntKind.wrap .i64 ((m : Int) - 1) = (m : Int) - 1 := wrap64 (by omega) (by omega)
 refine DC.intro tiOk Tryz.func75 rfl rfl rfl rfl rfl rfl rfl rfl [] ?_
 refine rg [0,1] ?_
 intro k hk; simp -dsimp [go_sem, -decide_eq_true_eq, -decide_eq_false_iff_not, hw]
 repeat' first | apply And.intro | refine hk _ ?_ | intro hg | omega | exact True.intro
 all_goals clear hk k
 refine rg [4] ?_
 intro k hk; simp -dsimp (maxSteps := 2000000) [go_sem, -decide_eq_true_eq, -decide_eq_false_iff_not, hw]
 repeat' first | apply And.intro | refine hk _ ?_ | intro hg | (refine CallK.intro (dc_impl_inRange _ _ _) ?_; simp -dsimp (maxSteps := 2000000) [go_sem, -decide_eq_true_eq, -decide_eq_false_iff_not, hw]) | omega | exact True.intro
 all_goals clear hk k
 refine rt ?_
 simp [go_sem, Tryz.results75]
end Go.AM
namespace Go.AM
open Go.Proofs
theorem dc_impl_isOnTask_n (p : List TStep) (c : TChart) (hp : p.length ≤ 24) (st : Int) (hr : inR st 0 ((p.length : Int) - 1) = false) : DC Tryz.prog 47 [.isl 6 (p.map TStep.ro), .agg c.ro, .int .i64 st] (.bool false) [] := by
 refine DC.intro tiOk Tryz.func47 rfl rfl rfl rfl rfl rfl rfl rfl [] ?_
 refine rg [0,2,4] ?_
 intro k hk; simp -dsimp [go_sem, -decide_eq_true_eq, -decide_eq_false_iff_not, hr]
 repeat' first | apply And.intro | refine hk _ ?_ | intro hg | omega | exact True.intro
 all_goals clear hk k
 refine rg [6] ?_
 intro k hk; simp +contextual -dsimp (maxSteps := 2000000) [go_sem, -decide_eq_true_eq, -decide_eq_false_iff_not, hr]
 repeat' first | apply And.intro | refine hk _ ?_ | (intro hg; try simp only [decide_eq_true_eq, decide_eq_false_iff_not] at hg) | (refine CallK.intro (dc_impl_isPlace st p.length (by omega)) ?_; simp +contextual -dsimp (maxSteps := 2000000) [go_sem, -decide_eq_true_eq, -decide_eq_false_iff_not, hr]) | omega | exact True.intro
 all_goals clear hk k
 all_goals (
  refine rt ?_
  simp [go_sem, Tryz.results47])
theorem dc_impl_isOnTask_y (p : List TStep) (c : TChart) (hp : p.length ≤ 24) (hw : WfC p c) (a : Nat) (ha : a < p.length) : DC Tryz.prog 47 [.isl 6 (p.map TStep.ro), .agg c.ro, .int .i64 (a : Nat)] (.bool (decide ((nS p a).kind = 2) && decide (actA c a = 1))) [] := by
 obtain ⟨x, hx⟩ := at_some ha
 have hxn := nS_at hx
 have hx3 : ∀ h, p[a]'h = x := fun h => by have h9 := hx; rw [List.getElem?_eq_getElem h] at h9; exact Option.some.inj h9
 have haa := actN_at (c := c) (show a < c.acts.length by rw [hw.acts]; exact ha)
 have hr : inR (a : Int) 0 ((p.length : Int) - 1) = true := inR_iff.2 (by omega)
 have hac := hw.acts
 rw [hxn]
 refine DC.intro tiOk Tryz.func47 rfl rfl rfl rfl rfl rfl rfl rfl [] ?_
 refine rg [0,2,4] ?_
 intro k hk; simp -dsimp [go_sem, -decide_eq_true_eq, -decide_eq_false_iff_not, hr, hx, hx3, haa, hac]
 repeat' first | apply And.intro | refine hk _ ?_ | intro hg | omega | exact True.intro
 all_goals clear hk k
 obtain ⟨b1, e1⟩ : ∃ b, decide (x.kind = 2) = b := ⟨_, rfl⟩
 cases b1
 all_goals (
  refine rg [6] ?_
  intro k hk; simp -dsimp (maxSteps := 2000000) [go_sem, -decide_eq_true_eq, -decide_eq_false_iff_not, hr, hx, hx3, haa, hac, e1]
  repeat' first | apply And.intro | refine hk _ ?_ | (intro hg; try simp only [decide_eq_true_eq, decide_eq_false_iff_not] at hg) | (refine CallK.intro (dc_impl_isPlace (a : Int) p.length (by omega)) ?_; simp -dsimp (maxSteps := 2000000) [go_sem, -decide_eq_true_eq, -decide_eq_false_iff_not, hr, hx, hx3, haa, hac, e1]) | omega | exact True.intro
  all_goals clear hk k
  all_goals (
   refine rt ?_
   simp [go_sem, Tryz.results47, *]))
set_option maxHeartbeats 4000000 in
theorem dc_impl_DoneChart_bad1 (p : List TStep) (c : TChart) (hp : p.length ≤ 9223372036854775807) (hg : ∀ e ∈ p, e.gok) (hc0 : c.gok) (v : List Int) (gv : v.length ≤ 9223372036854775807) (st : Int) (h1 : chartF p c ≠ 0) : DC Tryz.prog 21 [.isl 6 (p.map TStep.ro), .agg c.ro, .int .i64 st, .isl 1 (v.map I1)] (.agg [.int .i64 (chartF p c), .int .i64 0, .int .i64 0, .isl 1 [], .isl 1 [], .isl 1 []]) [] := by
 have g0 := hc0.1
 refine DC.intro tiOk Tryz.func21 rfl rfl rfl rfl rfl rfl rfl rfl [1000] ?_
 refine rg [0,2,3,5,8] ?_
 intro k hk; simp -dsimp [go_sem, -decide_eq_true_eq, -decide_eq_false_iff_not, h1, firstC_cons, firstC_nil]
 repeat' first | apply And.intro | refine hk _ ?_ | intro hg | omega | exact True.intro
 all_goals clear hk k
 refine AW.seq ?_
 refine rg [0,2,3,5,8,9] ?_
 intro k hk; simp -dsimp (maxSteps := 2000000) [go_sem, -decide_eq_true_eq, -decide_eq_false_iff_not, h1, firstC_cons, firstC_nil]
 repeat' first | apply And.intro | refine hk _ ?_ | intro hg | ((first | refine CallK.intro (dc_impl_ChartFault p c hp hg hc0) ?_ | refine CallK.intro (dc_impl_VarsFault v gv) ?_ | refine CallK.intro (dc_impl_firstCode [_, _] (by simp)) ?_ | refine CallK.intro (dc_impl_firstCode [_, _, _] (by simp)) ?_ | refine CallK.intro (dc_impl_firstCode [_, _, _, _] (by simp)) ?_); simp -dsimp (maxSteps := 2000000) [go_sem, -decide_eq_true_eq, -decide_eq_false_iff_not, h1, firstC_cons, firstC_nil]) | omega | exact True.intro
 all_goals clear hk k
 refine rg [0,2,3,5,8,9,19] ?_
 intro k hk; simp -dsimp [go_sem, -decide_eq_true_eq, -decide_eq_false_iff_not, h1, firstC_cons, firstC_nil]
 repeat' first | apply And.intro | refine hk _ ?_ | intro hg | omega | exact True.intro
 all_goals clear hk k
 refine AW.cond rfl ?_ ?_
 ·intro hc; try simp [h1] at hc
  all_goals try (exfalso; first | omega | contradiction | (simp_all; done); done)
  all_goals (
   refine rg [8] ?_
   intro k hk; simp -dsimp [go_sem, -decide_eq_true_eq, -decide_eq_false_iff_not, h1, firstC_cons, firstC_nil]
   repeat' first | apply And.intro | refine hk _ ?_ | intro hg | omega | exact True.intro
   all_goals clear hk k
   refine rt ?_
   simp [go_sem, Tryz.results21, h1])
 ·intro hc; try simp [h1] at hc
  all_goals try (exfalso; first | omega | contradiction | (simp_all; done); done)
  all_goals (
   refine AW.skipN (fun _ h => h) ?_
   refine AW.seq ?_
   skip)
set_option maxHeartbeats 4000000 in
theorem dc_impl_DoneChart_bad2 (p : List TStep) (c : TChart) (hp : p.length ≤ 9223372036854775807) (hg : ∀ e ∈ p, e.gok) (hc0 : c.gok) (v : List Int) (gv : v.length ≤ 9223372036854775807) (st : Int) (h1 : chartF p c = 0) (h2 : varsF v ≠ 0) : DC Tryz.prog 21 [.isl 6 (p.map TStep.ro), .agg c.ro, .int .i64 st, .isl 1 (v.map I1)] (.agg [.int .i64 (varsF v), .int .i64 0, .int .i64 0, .isl 1 [], .isl 1 [], .isl 1 []]) [] := by
 have g0 := hc0.1
 refine DC.intro tiOk Tryz.func21 rfl rfl rfl rfl rfl rfl rfl rfl [1000] ?_
 refine rg [0,2,3,5,8] ?_
 intro k hk; simp -dsimp [go_sem, -decide_eq_true_eq, -decide_eq_false_iff_not, h1, h2, firstC_cons, firstC_nil]
 repeat' first | apply And.intro | refine hk _ ?_ | intro hg | omega | exact True.intro
 all_goals clear hk k
 refine AW.seq ?_
 refine rg [0,2,3,5,8,9] ?_
 intro k hk; simp -dsimp (maxSteps := 2000000) [go_sem, -decide_eq_true_eq, -decide_eq_false_iff_not, h1, h2, firstC_cons, firstC_nil]
 repeat' first | apply And.intro | refine hk _ ?_ | intro hg | ((first | refine CallK.intro (dc_impl_ChartFault p c hp hg hc0) ?_ | refine CallK.intro (dc_impl_VarsFault v gv) ?_ | refine CallK.intro (dc_impl_firstCode [_, _] (by simp)) ?_ | refine CallK.intro (dc_impl_firstCode [_, _, _] (by simp)) ?_ | refine CallK.intro (dc_impl_firstCode [_, _, _, _] (by simp)) ?_); simp -dsimp (maxSteps := 2000000) [go_sem, -decide_eq_true_eq, -decide_eq_false_iff_not, h1, h2, firstC_cons, firstC_nil]) | omega | exact True.intro
 all_goals clear hk k
 refine rg [0,2,3,5,8,9,19] ?_
 intro k hk; simp -dsimp [go_sem, -decide_eq_true_eq, -decide_eq_false_iff_not, h1, h2, firstC_cons, firstC_nil]
 repeat' first | apply And.intro | refine hk _ ?_ | intro hg | omega | exact True.intro
 all_goals clear hk k
 refine AW.cond rfl ?_ ?_
 ·intro hc; try simp [h1, h2] at hc
  all_goals try (exfalso; first | omega | contradiction | (simp_all; done); done)
  all_goals (
   refine rg [8] ?_
   intro k hk; simp -dsimp [go_sem, -decide_eq_true_eq, -decide_eq_false_iff_not, h1, h2, firstC_cons, firstC_nil]
   repeat' first | apply And.intro | refine hk _ ?_ | intro hg | omega | exact True.intro
   all_goals clear hk k
   refine rt ?_
   simp [go_sem, Tryz.results21, h1, h2])
 ·intro hc; try simp [h1, h2] at hc
  all_goals try (exfalso; first | omega | contradiction | (simp_all; done); done)
  all_goals (
   refine AW.skipN (fun _ h => h) ?_
   refine AW.seq ?_
   skip)
set_option maxHeartbeats 4000000 in
theorem dc_impl_DoneChart_n1 (p : List TStep) (c : TChart) (hp : p.length ≤ 9223372036854775807) (hg : ∀ e ∈ p, e.gok) (hc0 : c.gok) (v : List Int) (gv : v.length ≤ 9223372036854775807) (st : Int) (h1 : chartF p c = 0) (h2 : varsF v = 0) (hr : inR st 0 ((p.length : Int) - 1) = false) : DC Tryz.prog 21 [.isl 6 (p.map TStep.ro), .agg c.ro, .int .i64 st, .isl 1 (v.map I1)] (.agg [.int .i64 4, .int .i64 0, .int .i64 0, .isl 1 [], .isl 1 [], .isl 1 []]) [] := by
 have g0 := hc0.1
 have h0 := chart1_of h1
 have hP := procOk (chart1_ok h0).1
 have hw := wfC_of h0
 have hlen := hP.len
 have g0 := hc0.1
 refine DC.intro tiOk Tryz.func21 rfl rfl rfl rfl rfl rfl rfl rfl [1000] ?_
 refine rg [0,2,3,5,8] ?_
 intro k hk; simp -dsimp [go_sem, -decide_eq_true_eq, -decide_eq_false_iff_not, h1, h2, hr, firstC_cons, firstC_nil]
 repeat' first | apply And.intro | refine hk _ ?_ | intro hg | omega | exact True.intro
 all_goals clear hk k
 refine AW.seq ?_
 refine rg [0,2,3,5,8,9] ?_
 intro k hk; simp -dsimp (maxSteps := 2000000) [go_sem, -decide_eq_true_eq, -decide_eq_false_iff_not, h1, h2, hr, firstC_cons, firstC_nil]
 repeat' first | apply And.intro | refine hk _ ?_ | intro hg | ((first | refine CallK.intro (dc_impl_ChartFault p c hp hg hc0) ?_ | refine CallK.intro (dc_impl_VarsFault v gv) ?_ | refine CallK.intro (dc_impl_firstCode [_, _] (by simp)) ?_ | refine CallK.intro (dc_impl_firstCode [_, _, _] (by simp)) ?_ | refine CallK.intro (dc_impl_firstCode [_, _, _, _] (by simp)) ?_); simp -dsimp (maxSteps := 2000000) [go_sem, -decide_eq_true_eq, -decide_eq_false_iff_not, h1, h2, hr, firstC_cons, firstC_nil]) | omega | exact True.intro
 all_goals clear hk k
 refine rg [0,2,3,5,8,9,19] ?_
 intro k hk; simp -dsimp [go_sem, -decide_eq_true_eq, -decide_eq_false_iff_not, h1, h2, hr, firstC_cons, firstC_nil]
 repeat' first | apply And.intro | refine hk _ ?_ | intro hg | omega | exact True.intro
 all_goals clear hk k
 refine AW.cond rfl ?_ ?_
 ·intro hc; try simp [h1, h2, hr] at hc
  all_goals try (exfalso; first | omega | contradiction | (simp_all; done); done)
  all_goals (
   skip)
 ·intro hc; try simp [h1, h2, hr] at hc
  all_goals try (exfalso; first | omega | contradiction | (simp_all; done); done)
  all_goals (
   refine AW.skipN (fun _ h => h) ?_
   refine AW.seq ?_
   refine rg [0,2,3,5,8,26] ?_
   intro k hk; simp -dsimp (maxSteps := 2000000) [go_sem, -decide_eq_true_eq, -decide_eq_false_iff_not, h1, h2, hr, firstC_cons, firstC_nil]
   repeat' first | apply And.intro | refine hk _ ?_ | intro hg | (refine CallK.intro (dc_impl_isOnTask_n p c (by omega) st hr) ?_; simp -dsimp (maxSteps := 2000000) [go_sem, -decide_eq_true_eq, -decide_eq_false_iff_not, h1, h2, hr, firstC_cons, firstC_nil]) | omega | exact True.intro
   all_goals clear hk k
   refine AW.cond rfl ?_ ?_
   ·intro hc; try simp [h1, h2, hr] at hc
    all_goals try (exfalso; first | omega | contradiction | (simp_all; done); done)
    all_goals (
     refine rg [8] ?_
     intro k hk; simp -dsimp [go_sem, -decide_eq_true_eq, -decide_eq_false_iff_not, h1, h2, hr, firstC_cons, firstC_nil]
     repeat' first | apply And.intro | refine hk _ ?_ | intro hg | omega | exact True.intro
     all_goals clear hk k
     refine rt ?_
     simp [go_sem, Tryz.results21, h1, h2, hr])
   ·intro hc; try simp [h1, h2, hr] at hc
    all_goals try (exfalso; first | omega | contradiction | (simp_all; done); done)
    all_goals (
     refine AW.skipN (fun _ h => h) ?_
     skip))
set_option maxHeartbeats 4000000 in
theorem dc_impl_DoneChart_n2 (p : List TStep) (c : TChart) (hp : p.length ≤ 9223372036854775807) (hg : ∀ e ∈ p, e.gok) (hc0 : c.gok) (v : List Int) (gv : v.length ≤ 9223372036854775807) (a : Nat) (h1 : chartF p c = 0) (h2 : varsF v = 0) (ha : a < p.length) (hk : (decide ((nS p a).kind = 2) && decide (actA c a = 1)) = false) : DC Tryz.prog 21 [.isl 6 (p.map TStep.ro), .agg c.ro, .int .i64 (a : Nat), .isl 1 (v.map I1)] (.agg [.int .i64 4, .int .i64 0, .int .i64 0, .isl 1 [], .isl 1 [], .isl 1 []]) [] := by
 have g0 := hc0.1
 have h0 := chart1_of h1
 have hP := procOk (chart1_ok h0).1
 have hw := wfC_of h0
 have hlen := hP.len
 have g0 := hc0.1
 obtain ⟨x, hx⟩ := at_some ha
 have hxn := nS_at hx
 have hx3 : ∀ h, p[a]'h = x := fun h => by have h9 := hx; rw [List.getElem?_eq_getElem h] at h9; exact Option.some.inj h9
 have haa := actN_at (c := c) (show a < c.acts.length by rw [hw.acts]; exact ha)
 have hr : inR (a : Int) 0 ((p.length : Int) - 1) = true := inR_iff.2 (by omega)
 have hac := hw.acts
 refine DC.intro tiOk Tryz.func21 rfl rfl rfl rfl rfl rfl rfl rfl [1000] ?_
 refine rg [0,2,3,5,8] ?_
 intro k hk; simp -dsimp [go_sem, -decide_eq_true_eq, -decide_eq_false_iff_not, h1, h2, hk, firstC_cons, firstC_nil]
 repeat' first | apply And.intro | refine hk _ ?_ | intro hg | omega | exact True.intro
 all_goals clear hk k
 refine AW.seq ?_
 refine rg [0,2,3,5,8,9] ?_
 intro k hk; simp -dsimp (maxSteps := 2000000) [go_sem, -decide_eq_true_eq, -decide_eq_false_iff_not, h1, h2, hk, firstC_cons, firstC_nil]
 repeat' first | apply And.intro | refine hk _ ?_ | intro hg | ((first | refine CallK.intro (dc_impl_ChartFault p c hp hg hc0) ?_ | refine CallK.intro (dc_impl_VarsFault v gv) ?_ | refine CallK.intro (dc_impl_firstCode [_, _] (by simp)) ?_ | refine CallK.intro (dc_impl_firstCode [_, _, _] (by simp)) ?_ | refine CallK.intro (dc_impl_firstCode [_, _, _, _] (by simp)) ?_); simp -dsimp (maxSteps := 2000000) [go_sem, -decide_eq_true_eq, -decide_eq_false_iff_not, h1, h2, hk, firstC_cons, firstC_nil]) | omega | exact True.intro
 all_goals clear hk k
 refine rg [0,2,3,5,8,9,19] ?_
 intro k hk; simp -dsimp [go_sem, -decide_eq_true_eq, -decide_eq_false_iff_not, h1, h2, hk, firstC_cons, firstC_nil]
 repeat' first | apply And.intro | refine hk _ ?_ | intro hg | omega | exact True.intro
 all_goals clear hk k
 refine AW.cond rfl ?_ ?_
 ·intro hc; try simp [h1, h2, hk] at hc
  all_goals try (exfalso; first | omega | contradiction | (simp_all; done); done)
  all_goals (
   skip)
 ·intro hc; try simp [h1, h2, hk] at hc
  all_goals try (exfalso; first | omega | contradiction | (simp_all; done); done)
  all_goals (
   refine AW.skipN (fun _ h => h) ?_
   refine AW.seq ?_
   refine rg [0,2,3,5,8,26] ?_
   intro k hk; simp -dsimp (maxSteps := 2000000) [go_sem, -decide_eq_true_eq, -decide_eq_false_iff_not, h1, h2, hk, firstC_cons, firstC_nil]
   repeat' first | apply And.intro | refine hk _ ?_ | intro hg | (refine CallK.intro (dc_impl_isOnTask_y p c (by omega) hw a ha) ?_; simp -dsimp (maxSteps := 2000000) [go_sem, -decide_eq_true_eq, -decide_eq_false_iff_not, h1, h2, hk, firstC_cons, firstC_nil]) | omega | exact True.intro
   all_goals clear hk k
   refine AW.cond rfl ?_ ?_
   ·intro hc; try simp [h1, h2, hk] at hc
    all_goals try (exfalso; first | omega | contradiction | (simp_all; done); done)
    all_goals (
     refine rg [8] ?_
     intro k hk; simp -dsimp [go_sem, -decide_eq_true_eq, -decide_eq_false_iff_not, h1, h2, hk, firstC_cons, firstC_nil]
     repeat' first | apply And.intro | refine hk _ ?_ | intro hg | omega | exact True.intro
     all_goals clear hk k
     refine rt ?_
     simp [go_sem, Tryz.results21, h1, h2, hk])
   ·intro hc; try simp [h1, h2, hk] at hc
    all_goals try (exfalso; first | omega | contradiction | (simp_all; done); done)
    all_goals (
     refine AW.skipN (fun _ h => h) ?_
     skip))
set_option maxHeartbeats 4000000 in
theorem dc_impl_DoneChart_ok (p : List TStep) (c : TChart) (hp : p.length ≤ 9223372036854775807) (hg : ∀ e ∈ p, e.gok) (hc0 : c.gok) (v : List Int) (gv : v.length ≤ 9223372036854775807) (a : Nat) (h1 : chartF p c = 0) (h2 : varsF v = 0) (ha : a < p.length) (hk : (decide ((nS p a).kind = 2) && decide (actA c a = 1)) = true) (X : TChart) (hX : goF p 800 false a (⟨c.status, c.now, v, c.acts, c.dues⟩ : TChart) = X) : DC Tryz.prog 21 [.isl 6 (p.map TStep.ro), .agg c.ro, .int .i64 (a : Nat), .isl 1 (v.map I1)] (.agg [.int .i64 0, .int .i64 X.status, .int .i64 X.now, .osl 1 (X.vars.map I1), .osl 1 (X.acts.map I1), .osl 1 (X.dues.map I1)]) [] := by
 have g0 := hc0.1
 have h0 := chart1_of h1
 have hP := procOk (chart1_ok h0).1
 have hw := wfC_of h0
 have hlen := hP.len
 have g0 := hc0.1
 obtain ⟨x, hx⟩ := at_some ha
 have hxn := nS_at hx
 have hx3 : ∀ h, p[a]'h = x := fun h => by have h9 := hx; rw [List.getElem?_eq_getElem h] at h9; exact Option.some.inj h9
 have haa := actN_at (c := c) (show a < c.acts.length by rw [hw.acts]; exact ha)
 have hr : inR (a : Int) 0 ((p.length : Int) - 1) = true := inR_iff.2 (by omega)
 have hac := hw.acts
 have hwv := wf_vars hw h2
 have hv4 := (varsOk h2).1
 have nv : v ≠ [] := by intro e; rw [e] at hv4; simp at hv4
 rw [Bool.and_eq_true, hxn] at hk
 have e1 := hk.1
 have e2 := hk.2
 have hk2 : (decide ((nS p a).kind = 2) && decide (actA c a = 1)) = true := by rw [hxn, e1, e2]; rfl
 refine DC.intro tiOk Tryz.func21 rfl rfl rfl rfl rfl rfl rfl rfl [1000] ?_
 refine rg [0,2,3,5,8] ?_
 intro k hk; simp -dsimp [go_sem, -decide_eq_true_eq, -decide_eq_false_iff_not, h1, h2, firstC_cons, firstC_nil, hk2]
 repeat' first | apply And.intro | refine hk _ ?_ | intro hg | omega | exact True.intro
 all_goals clear hk k
 refine AW.seq ?_
 refine rg [0,2,3,5,8,9] ?_
 intro k hk; simp -dsimp (maxSteps := 2000000) [go_sem, -decide_eq_true_eq, -decide_eq_false_iff_not, h1, h2, firstC_cons, firstC_nil, hk2]
 repeat' first | apply And.intro | refine hk _ ?_ | intro hg | ((first | refine CallK.intro (dc_impl_ChartFault p c hp hg hc0) ?_ | refine CallK.intro (dc_impl_VarsFault v gv) ?_ | refine CallK.intro (dc_impl_firstCode [_, _] (by simp)) ?_ | refine CallK.intro (dc_impl_firstCode [_, _, _] (by simp)) ?_ | refine CallK.intro (dc_impl_firstCode [_, _, _, _] (by simp)) ?_); simp -dsimp (maxSteps := 2000000) [go_sem, -decide_eq_true_eq, -decide_eq_false_iff_not, h1, h2, firstC_cons, firstC_nil, hk2]) | omega | exact True.intro
 all_goals clear hk k
 refine rg [0,2,3,5,8,9,19] ?_
 intro k hk; simp -dsimp [go_sem, -decide_eq_true_eq, -decide_eq_false_iff_not, h1, h2, firstC_cons, firstC_nil, hk2]
 repeat' first | apply And.intro | refine hk _ ?_ | intro hg | omega | exact True.intro
 all_goals clear hk k
 refine AW.cond rfl ?_ ?_
 ·intro hc; try simp [h1, h2] at hc
  all_goals try (exfalso; first | omega | contradiction | (simp_all; done); done)
  all_goals (
   skip)
 ·intro hc; try simp [h1, h2] at hc
  all_goals try (exfalso; first | omega | contradiction | (simp_all; done); done)
  all_goals (
   refine AW.skipN (fun _ h => h) ?_
   refine AW.seq ?_
   refine rg [0,2,3,5,8,26] ?_
   intro k hk; simp -dsimp (maxSteps := 2000000) [go_sem, -decide_eq_true_eq, -decide_eq_false_iff_not, h1, h2, firstC_cons, firstC_nil, hk2]
   repeat' first | apply And.intro | refine hk _ ?_ | intro hg | (refine CallK.intro (dc_impl_isOnTask_y p c (by omega) hw a ha) ?_; simp -dsimp (maxSteps := 2000000) [go_sem, -decide_eq_true_eq, -decide_eq_false_iff_not, h1, h2, firstC_cons, firstC_nil, hk2]) | omega | exact True.intro
   all_goals clear hk k
   refine AW.cond rfl ?_ ?_
   ·intro hc; try simp [h1, h2] at hc
    all_goals try (exfalso; first | omega | contradiction | (simp_all; done); done)
    all_goals (
     skip)
   ·intro hc; try simp [h1, h2] at hc
    all_goals try (exfalso; first | omega | contradiction | (simp_all; done); done)
    all_goals (
     refine AW.skipN (fun _ h => h) ?_
     refine rg [2,3,8,10] ?_
     intro k hk; simp -dsimp (maxSteps := 2000000) [go_sem, -decide_eq_true_eq, -decide_eq_false_iff_not, h1, h2, firstC_cons, firstC_nil, hk2]
     repeat' first | apply And.intro | refine hk _ ?_ | intro hg | (refine CallK.intro (dc_impl_Chart_clone p hP c hw) ?_; simp -dsimp (maxSteps := 2000000) [go_sem, -decide_eq_true_eq, -decide_eq_false_iff_not, h1, h2, firstC_cons, firstC_nil, hk2]) | omega | exact True.intro
     all_goals clear hk k
     refine rg [2,8,10] ?_
     intro k hk; simp -dsimp (maxSteps := 2000000) [go_sem, -decide_eq_true_eq, -decide_eq_false_iff_not, h1, h2, firstC_cons, firstC_nil, hk2]
     repeat' first | apply And.intro | refine hk _ ?_ | intro hg | (refine CallK.intro (dc_CloneI v nv (by omega)) ?_; simp -dsimp (maxSteps := 2000000) [go_sem, -decide_eq_true_eq, -decide_eq_false_iff_not, h1, h2, firstC_cons, firstC_nil, hk2]) | omega | exact True.intro
     all_goals clear hk k
     refine AW.fold (nd := ?nd_1) (c := ?c_1) (l := ?l_1) (es := ?es_1) (n := ?n_1) 32 0 3 1035 ?h1_1 ?h2_1 ?h4_1 ?h3_1 ?hn_1 (by decide) ?h6_1 ?kk_1
     (case h1_1 => exact rfl)
     (case h2_1 => exact rfl)
     (case h4_1 => exact rfl)
     (case h3_1 => exact rfl)
     (case hn_1 => simp)
     (case h6_1 => simp [go_sem])
     refine AW.fold (nd := ?nd_2) (c := ?c_2) (l := ?l_2) (es := ?es_2) (n := ?n_2) 32 0 4 2030 ?h1_2 ?h2_2 ?h4_2 ?h3_2 ?hn_2 (by decide) ?h6_2 ?kk_2
     (case h1_2 => exact rfl)
     (case h2_2 => exact rfl)
     (case h4_2 => exact rfl)
     (case h3_2 => exact rfl)
     (case hn_2 => simp)
     (case h6_2 => simp [go_sem])
     refine AW.fold (nd := ?nd_3) (c := ?c_3) (l := ?l_3) (es := ?es_3) (n := ?n_3) 32 0 5 3030 ?h1_3 ?h2_3 ?h4_3 ?h3_3 ?hn_3 (by decide) ?h6_3 ?kk_3
     (case h1_3 => exact rfl)
     (case h2_3 => exact rfl)
     (case h4_3 => exact rfl)
     (case h3_3 => exact rfl)
     (case hn_3 => simp)
     (case h6_3 => simp [go_sem])
     refine AW.reg tiOk (fun _ => [0]) [8,10] ?_
     intro k hk; simp -dsimp (maxSteps := 2000000) [go_sem, -decide_eq_true_eq, -decide_eq_false_iff_not, h1, h2, firstC_cons, firstC_nil, hk2]
     repeat' first | apply And.intro | refine hk _ ?_ | intro hg | (refine CallK.intro (dc_over_impl p hP (a : Int) (⟨c.status, c.now, v, c.acts, c.dues⟩ : TChart) (by omega) (by omega) hwv) ?_; simp -dsimp (maxSteps := 2000000) [go_sem, -decide_eq_true_eq, -decide_eq_false_iff_not, h1, h2, firstC_cons, firstC_nil, hk2]) | omega | exact True.intro
     all_goals clear hk k
     refine AW.thaw (nd := ?nd_4) (c := ?c_4) (l := ?l_4) (es := ?es_4) 32 0 3 7001 ?h1_4 ?h2_4 ?h3_4 ?h45_4 ?kk_4
     (case h1_4 => exact rfl)
     (case h2_4 => exact rfl)
     (case h3_4 => exact rfl)
     (case h45_4 => simp [go_sem])
     refine AW.thaw (nd := ?nd_5) (c := ?c_5) (l := ?l_5) (es := ?es_5) 32 0 4 7002 ?h1_5 ?h2_5 ?h3_5 ?h45_5 ?kk_5
     (case h1_5 => exact rfl)
     (case h2_5 => exact rfl)
     (case h3_5 => exact rfl)
     (case h45_5 => simp [go_sem])
     refine AW.thaw (nd := ?nd_6) (c := ?c_6) (l := ?l_6) (es := ?es_6) 32 0 5 7003 ?h1_6 ?h2_6 ?h3_6 ?h45_6 ?kk_6
     (case h1_6 => exact rfl)
     (case h2_6 => exact rfl)
     (case h3_6 => exact rfl)
     (case h45_6 => simp [go_sem])
     refine rg [8] ?_
     intro k hk; simp -dsimp [go_sem, -decide_eq_true_eq, -decide_eq_false_iff_not, h1, h2, firstC_cons, firstC_nil, hk2]
     repeat' first | apply And.intro | refine hk _ ?_ | intro hg | omega | exact True.intro
     all_goals clear hk k
     refine rt ?_
     simp [go_sem, Tryz.results21, h1, h2, hX]))
end Go.AM
namespace Go.AM
open Go.Proofs
theorem dc_spec_l3Walk_n (e : List TNode) (hP : PartsOk e e.length) (h16 : e.length ≤ 16) (i : Nat) (hi : i < e.length) (ihn : ∀ j : Nat, j < i → DC Tryz.prog 118 [.isl 4 (e.map TNode.ro), .int .i64 ((j : Nat) : Int), .nils] (.osl 1 ((wkF e j []).map N1)) []) (iho : ∀ j : Nat, j < i → ∀ out : List Nat, out.length ≤ 40 → DC Tryz.prog 118 [.isl 4 (e.map TNode.ro), .int .i64 ((j : Nat) : Int), .osl 1 (out.map N1)] (.osl 1 ((wkF e j out).map N1)) []) : DC Tryz.prog 118 [.isl 4 (e.map TNode.ro), .int .i64 ((i : Nat) : Int), .nils] (.osl 1 ((wkF e i []).map N1)) [] := by
 obtain ⟨x, hx⟩ := at_some hi
 have hxA := nA_at hx
 have hpx := hP i hi
 rw [nodeAt_at hx] at hpx
 have hq := nodeF_parts hpx
 refine DC.intro tiOk Tryz.func118 rfl rfl rfl rfl rfl rfl rfl rfl [1000] ?_
 refine rg [0,1,2] ?_
 intro k hk; simp -dsimp [go_sem, -decide_eq_true_eq, -decide_eq_false_iff_not, hx, hxA]
 repeat' first | apply And.intro | refine hk _ ?_ | intro hg | omega | exact True.intro
 all_goals clear hk k
 refine AW.seq ?_
 refine rg [0,1,2,9] ?_
 intro k hk; simp -dsimp [go_sem, -decide_eq_true_eq, -decide_eq_false_iff_not, hx, hxA]
 repeat' first | apply And.intro | refine hk _ ?_ | intro hg | omega | exact True.intro
 all_goals clear hk k
 refine AW.cond rfl ?_ ?_
 ·intro hc; try simp at hc
  all_goals try (exfalso; first | omega | (have hk9 := inR_iff.1 hc; omega); done)
  all_goals (
   refine rg [6] ?_
   intro k hk; simp -dsimp [go_sem, -decide_eq_true_eq, -decide_eq_false_iff_not, hx, hxA]
   repeat' first | apply And.intro | refine hk _ ?_ | intro hg | omega | exact True.intro
   all_goals clear hk k
   refine rt ?_
   rw [wkF_eq hP hi]; (try (first | rw [if_neg (show ¬ 16 < out.length by omega)] | rw [if_pos (show 16 < out.length by omega)])); simp [go_sem, Tryz.results118, *] <;> first | (intro h9; omega) | (simp_all; done) | omega | grind)
 ·intro hc; try simp at hc
  all_goals try (exfalso; first | omega | (have hk9 := inR_iff.1 hc; omega); done)
  all_goals (
   refine AW.skipN (fun _ h => h) ?_
   refine AW.seq ?_
   refine rg [0,1,2,16] ?_
   intro k hk; simp -dsimp [go_sem, -decide_eq_true_eq, -decide_eq_false_iff_not, hx, hxA]
   repeat' first | apply And.intro | refine hk _ ?_ | intro hg | omega | exact True.intro
   all_goals clear hk k
   refine AW.cond rfl ?_ ?_
   ·intro hc; try simp at hc
    all_goals try (exfalso; first | omega | (have hk9 := inR_iff.1 hc; omega); done)
    all_goals (
     have hk0 : 2 < x.kind := by simpa using hc
     have hl := left_of hpx hk0
     obtain ⟨a, ha⟩ : ∃ a : Nat, x.left = a := ⟨_, (Int.toNat_of_nonneg hl.1).symm⟩
     have hla : x.left.toNat = a := by omega
     have hwa := wkF_len (e := e) (i := a) (out := []) (by first | assumption | simp) (by omega)
     refine AW.regN tiOk (fun i => if i = 7 then [2] else []) [0,1,2] (fun _ h => h) ?_
     intro k hk; simp -dsimp (maxSteps := 2000000) [go_sem, -decide_eq_true_eq, -decide_eq_false_iff_not, hx, hxA, ha]
     repeat' first | apply And.intro | refine hk _ ?_ | intro hg | ((first | refine CallK.intro (ihn a (by omega)) ?_ | refine CallK.intro (iho b (by omega) _ hwa) ?_); simp -dsimp (maxSteps := 2000000) [go_sem, -decide_eq_true_eq, -decide_eq_false_iff_not, hx, hxA, ha]) | omega | exact True.intro
     all_goals clear hk k
     refine AW.seq ?_
     refine rg [0,1,2,30] ?_
     intro k hk; simp -dsimp (maxSteps := 2000000) [go_sem, -decide_eq_true_eq, -decide_eq_false_iff_not, hx, hxA]
     repeat' first | apply And.intro | refine hk _ ?_ | intro hg | (refine CallK.intro (dc_spec_l3Two _) ?_; simp -dsimp (maxSteps := 2000000) [go_sem, -decide_eq_true_eq, -decide_eq_false_iff_not, hx, hxA]) | omega | exact True.intro
     all_goals clear hk k
     refine AW.cond rfl ?_ ?_
     ·intro hc; try simp at hc
      all_goals try (exfalso; first | omega | (have hk9 := inR_iff.1 hc; omega); done)
      all_goals (
       have hk2 : isTwoB x.kind = true := by simpa using hc
       have hr := hq.2.1 hk2
       have hk3 := inR_iff.1 hk2
       obtain ⟨b, hb⟩ : ∃ b : Nat, x.right = b := ⟨_, (Int.toNat_of_nonneg hr.2.2.1).symm⟩
       have hrb : x.right.toNat = b := by omega
       refine AW.regN tiOk (fun i => if i = 7 then [2] else []) [1,2] (fun _ h => h) ?_
       intro k hk; simp -dsimp (maxSteps := 2000000) [go_sem, -decide_eq_true_eq, -decide_eq_false_iff_not, hx, hxA, hb]
       repeat' first | apply And.intro | refine hk _ ?_ | intro hg | ((first | refine CallK.intro (ihn a (by omega)) ?_ | refine CallK.intro (iho b (by omega) _ hwa) ?_); simp -dsimp (maxSteps := 2000000) [go_sem, -decide_eq_true_eq, -decide_eq_false_iff_not, hx, hxA, hb]) | omega | exact True.intro
       all_goals clear hk k
       try (have hwb := wkF_len (e := e) (i := b) hwa (by omega))
       refine rg [6] ?_
       intro k hk; simp -dsimp [go_sem, -decide_eq_true_eq, -decide_eq_false_iff_not, hx, hxA]
       repeat' first | apply And.intro | refine hk _ ?_ | intro hg | omega | exact True.intro
       all_goals clear hk k
       refine rt ?_
       rw [wkF_eq hP hi]; (try (first | rw [if_neg (show ¬ 16 < out.length by omega)] | rw [if_pos (show 16 < out.length by omega)])); simp [go_sem, Tryz.results118, *] <;> first | (intro h9; omega) | (simp_all; done) | omega | grind)
     ·intro hc; try simp at hc
      all_goals try (exfalso; first | omega | (have hk9 := inR_iff.1 hc; omega); done)
      all_goals (
       refine AW.skipN (fun _ h => h) ?_
       try (have hwb := wkF_len (e := e) (i := b) hwa (by omega))
       refine rg [6] ?_
       intro k hk; simp -dsimp [go_sem, -decide_eq_true_eq, -decide_eq_false_iff_not, hx, hxA]
       repeat' first | apply And.intro | refine hk _ ?_ | intro hg | omega | exact True.intro
       all_goals clear hk k
       refine rt ?_
       rw [wkF_eq hP hi]; (try (first | rw [if_neg (show ¬ 16 < out.length by omega)] | rw [if_pos (show 16 < out.length by omega)])); simp [go_sem, Tryz.results118, *] <;> first | (intro h9; omega) | (simp_all; done) | omega | grind))
   ·intro hc; try simp at hc
    all_goals try (exfalso; first | omega | (have hk9 := inR_iff.1 hc; omega); done)
    all_goals (
     refine AW.skipN (fun _ h => h) ?_
     refine AW.seq ?_
     refine rg [0,1,2,30] ?_
     intro k hk; simp -dsimp (maxSteps := 2000000) [go_sem, -decide_eq_true_eq, -decide_eq_false_iff_not, hx, hxA]
     repeat' first | apply And.intro | refine hk _ ?_ | intro hg | (refine CallK.intro (dc_spec_l3Two _) ?_; simp -dsimp (maxSteps := 2000000) [go_sem, -decide_eq_true_eq, -decide_eq_false_iff_not, hx, hxA]) | omega | exact True.intro
     all_goals clear hk k
     refine AW.cond rfl ?_ ?_
     ·intro hc; try simp at hc
      all_goals try (exfalso; first | omega | (have hk9 := inR_iff.1 hc; omega); done)
      all_goals (
       have hk2 : isTwoB x.kind = true := by simpa using hc
       have hr := hq.2.1 hk2
       have hk3 := inR_iff.1 hk2
       obtain ⟨b, hb⟩ : ∃ b : Nat, x.right = b := ⟨_, (Int.toNat_of_nonneg hr.2.2.1).symm⟩
       have hrb : x.right.toNat = b := by omega
       refine AW.regN tiOk (fun i => if i = 7 then [2] else []) [1,2] (fun _ h => h) ?_
       intro k hk; simp -dsimp (maxSteps := 2000000) [go_sem, -decide_eq_true_eq, -decide_eq_false_iff_not, hx, hxA, hb]
       repeat' first | apply And.intro | refine hk _ ?_ | intro hg | ((first | refine CallK.intro (ihn a (by omega)) ?_ | refine CallK.intro (iho b (by omega) _ hwa) ?_); simp -dsimp (maxSteps := 2000000) [go_sem, -decide_eq_true_eq, -decide_eq_false_iff_not, hx, hxA, hb]) | omega | exact True.intro
       all_goals clear hk k
       try (have hwb := wkF_len (e := e) (i := b) hwa (by omega))
       refine rg [6] ?_
       intro k hk; simp -dsimp [go_sem, -decide_eq_true_eq, -decide_eq_false_iff_not, hx, hxA]
       repeat' first | apply And.intro | refine hk _ ?_ | intro hg | omega | exact True.intro
       all_goals clear hk k
       refine rt ?_
       rw [wkF_eq hP hi]; (try (first | rw [if_neg (show ¬ 16 < out.length by omega)] | rw [if_pos (show 16 < out.length by omega)])); simp [go_sem, Tryz.results118, *] <;> first | (intro h9; omega) | (simp_all; done) | omega | grind)
     ·intro hc; try simp at hc
      all_goals try (exfalso; first | omega | (have hk9 := inR_iff.1 hc; omega); done)
      all_goals (
       refine AW.skipN (fun _ h => h) ?_
       try (have hwb := wkF_len (e := e) (i := b) hwa (by omega))
       refine rg [6] ?_
       intro k hk; simp -dsimp [go_sem, -decide_eq_true_eq, -decide_eq_false_iff_not, hx, hxA]
       repeat' first | apply And.intro | refine hk _ ?_ | intro hg | omega | exact True.intro
       all_goals clear hk k
       refine rt ?_
       rw [wkF_eq hP hi]; (try (first | rw [if_neg (show ¬ 16 < out.length by omega)] | rw [if_pos (show 16 < out.length by omega)])); simp [go_sem, Tryz.results118, *] <;> first | (intro h9; omega) | (simp_all; done) | omega | grind)))
theorem dc_spec_l3Walk_o (e : List TNode) (hP : PartsOk e e.length) (h16 : e.length ≤ 16) (i : Nat) (hi : i < e.length) (out : List Nat) (ho : out.length ≤ 40) (ihn : ∀ j : Nat, j < i → DC Tryz.prog 118 [.isl 4 (e.map TNode.ro), .int .i64 ((j : Nat) : Int), .nils] (.osl 1 ((wkF e j []).map N1)) []) (iho : ∀ j : Nat, j < i → ∀ out : List Nat, out.length ≤ 40 → DC Tryz.prog 118 [.isl 4 (e.map TNode.ro), .int .i64 ((j : Nat) : Int), .osl 1 (out.map N1)] (.osl 1 ((wkF e j out).map N1)) []) : DC Tryz.prog 118 [.isl 4 (e.map TNode.ro), .int .i64 ((i : Nat) : Int), .osl 1 (out.map N1)] (.osl 1 ((wkF e i out).map N1)) [] := by
 obtain ⟨x, hx⟩ := at_some hi
 have hxA := nA_at hx
 have hpx := hP i hi
 rw [nodeAt_at hx] at hpx
 have hq := nodeF_parts hpx
 refine DC.intro tiOk Tryz.func118 rfl rfl rfl rfl rfl rfl rfl rfl [1000] ?_
 refine rg [0,1,2] ?_
 intro k hk; simp -dsimp [go_sem, -decide_eq_true_eq, -decide_eq_false_iff_not, hx, hxA]
 repeat' first | apply And.intro | refine hk _ ?_ | intro hg | omega | exact True.intro
 all_goals clear hk k
 refine AW.seq ?_
 refine rg [0,1,2,9] ?_
 intro k hk; simp -dsimp [go_sem, -decide_eq_true_eq, -decide_eq_false_iff_not, hx, hxA]
 repeat' first | apply And.intro | refine hk _ ?_ | intro hg | omega | exact True.intro
 all_goals clear hk k
 refine AW.cond rfl ?_ ?_
 ·intro hc; try simp at hc
  all_goals try (exfalso; first | omega | (have hk9 := inR_iff.1 hc; omega); done)
  all_goals (
   refine rg [6] ?_
   intro k hk; simp -dsimp [go_sem, -decide_eq_true_eq, -decide_eq_false_iff_not, hx, hxA]
   repeat' first | apply And.intro | refine hk _ ?_ | intro hg | omega | exact True.intro
   all_goals clear hk k
   refine rt ?_
   rw [wkF_eq hP hi]; (try (first | rw [if_neg (show ¬ 16 < out.length by omega)] | rw [if_pos (show 16 < out.length by omega)])); simp [go_sem, Tryz.results118, *] <;> first | (intro h9; omega) | (simp_all; done) | omega | grind)
 ·intro hc; try simp at hc
  all_goals try (exfalso; first | omega | (have hk9 := inR_iff.1 hc; omega); done)
  all_goals (
   refine AW.skipN (fun _ h => h) ?_
   refine AW.seq ?_
   refine rg [0,1,2,16] ?_
   intro k hk; simp -dsimp [go_sem, -decide_eq_true_eq, -decide_eq_false_iff_not, hx, hxA]
   repeat' first | apply And.intro | refine hk _ ?_ | intro hg | omega | exact True.intro
   all_goals clear hk k
   refine AW.cond rfl ?_ ?_
   ·intro hc; try simp at hc
    all_goals try (exfalso; first | omega | (have hk9 := inR_iff.1 hc; omega); done)
    all_goals (
     have hk0 : 2 < x.kind := by simpa using hc
     have hl := left_of hpx hk0
     obtain ⟨a, ha⟩ : ∃ a : Nat, x.left = a := ⟨_, (Int.toNat_of_nonneg hl.1).symm⟩
     have hla : x.left.toNat = a := by omega
     have hwa := wkF_len (e := e) (i := a) (out := out) (by first | assumption | simp) (by omega)
     refine AW.regN tiOk (fun i => if i = 7 then [2] else []) [0,1,2] (fun _ h => h) ?_
     intro k hk; simp -dsimp (maxSteps := 2000000) [go_sem, -decide_eq_true_eq, -decide_eq_false_iff_not, hx, hxA, ha]
     repeat' first | apply And.intro | refine hk _ ?_ | intro hg | ((first | refine CallK.intro (iho a (by omega) _ ho) ?_ | refine CallK.intro (iho b (by omega) _ hwa) ?_); simp -dsimp (maxSteps := 2000000) [go_sem, -decide_eq_true_eq, -decide_eq_false_iff_not, hx, hxA, ha]) | omega | exact True.intro
     all_goals clear hk k
     refine AW.seq ?_
     refine rg [0,1,2,30] ?_
     intro k hk; simp -dsimp (maxSteps := 2000000) [go_sem, -decide_eq_true_eq, -decide_eq_false_iff_not, hx, hxA]
     repeat' first | apply And.intro | refine hk _ ?_ | intro hg | (refine CallK.intro (dc_spec_l3Two _) ?_; simp -dsimp (maxSteps := 2000000) [go_sem, -decide_eq_true_eq, -decide_eq_false_iff_not, hx, hxA]) | omega | exact True.intro
     all_goals clear hk k
     refine AW.cond rfl ?_ ?_
     ·intro hc; try simp at hc
      all_goals try (exfalso; first | omega | (have hk9 := inR_iff.1 hc; omega); done)
      all_goals (
       have hk2 : isTwoB x.kind = true := by simpa using hc
       have hr := hq.2.1 hk2
       have hk3 := inR_iff.1 hk2
       obtain ⟨b, hb⟩ : ∃ b : Nat, x.right = b := ⟨_, (Int.toNat_of_nonneg hr.2.2.1).symm⟩
       have hrb : x.right.toNat = b := by omega
       refine AW.regN tiOk (fun i => if i = 7 then [2] else []) [1,2] (fun _ h => h) ?_
       intro k hk; simp -dsimp (maxSteps := 2000000) [go_sem, -decide_eq_true_eq, -decide_eq_false_iff_not, hx, hxA, hb]
       repeat' first | apply And.intro | refine hk _ ?_ | intro hg | ((first | refine CallK.intro (iho a (by omega) _ ho) ?_ | refine CallK.intro (iho b (by omega) _ hwa) ?_); simp -dsimp (maxSteps := 2000000) [go_sem, -decide_eq_true_eq, -decide_eq_false_iff_not, hx, hxA, hb]) | omega | exact True.intro
       all_goals clear hk k
       try (have hwb := wkF_len (e := e) (i := b) hwa (by omega))
       refine rg [6] ?_
       intro k hk; simp -dsimp [go_sem, -decide_eq_true_eq, -decide_eq_false_iff_not, hx, hxA]
       repeat' first | apply And.intro | refine hk _ ?_ | intro hg | omega | exact True.intro
       all_goals clear hk k
       refine rt ?_
       rw [wkF_eq hP hi]; (try (first | rw [if_neg (show ¬ 16 < out.length by omega)] | rw [if_pos (show 16 < out.length by omega)])); simp [go_sem, Tryz.results118, *] <;> first | (intro h9; omega) | (simp_all; done) | omega | grind)
     ·intro hc; try simp at hc
      all_goals try (exfalso; first | omega | (have hk9 := inR_iff.1 hc; omega); done)
      all_goals (
       refine AW.skipN (fun _ h => h) ?_
       try (have hwb := wkF_len (e := e) (i := b) hwa (by omega))
       refine rg [6] ?_
       intro k hk; simp -dsimp [go_sem, -decide_eq_true_eq, -decide_eq_false_iff_not, hx, hxA]
       repeat' first | apply And.intro | refine hk _ ?_ | intro hg | omega | exact True.intro
       all_goals clear hk k
       refine rt ?_
       rw [wkF_eq hP hi]; (try (first | rw [if_neg (show ¬ 16 < out.length by omega)] | rw [if_pos (show 16 < out.length by omega)])); simp [go_sem, Tryz.results118, *] <;> first | (intro h9; omega) | (simp_all; done) | omega | grind))
   ·intro hc; try simp at hc
    all_goals try (exfalso; first | omega | (have hk9 := inR_iff.1 hc; omega); done)
    all_goals (
     refine AW.skipN (fun _ h => h) ?_
     refine AW.seq ?_
     refine rg [0,1,2,30] ?_
     intro k hk; simp -dsimp (maxSteps := 2000000) [go_sem, -decide_eq_true_eq, -decide_eq_false_iff_not, hx, hxA]
     repeat' first | apply And.intro | refine hk _ ?_ | intro hg | (refine CallK.intro (dc_spec_l3Two _) ?_; simp -dsimp (maxSteps := 2000000) [go_sem, -decide_eq_true_eq, -decide_eq_false_iff_not, hx, hxA]) | omega | exact True.intro
     all_goals clear hk k
     refine AW.cond rfl ?_ ?_
     ·intro hc; try simp at hc
      all_goals try (exfalso; first | omega | (have hk9 := inR_iff.1 hc; omega); done)
      all_goals (
       have hk2 : isTwoB x.kind = true := by simpa using hc
       have hr := hq.2.1 hk2
       have hk3 := inR_iff.1 hk2
       obtain ⟨b, hb⟩ : ∃ b : Nat, x.right = b := ⟨_, (Int.toNat_of_nonneg hr.2.2.1).symm⟩
       have hrb : x.right.toNat = b := by omega
       refine AW.regN tiOk (fun i => if i = 7 then [2] else []) [1,2] (fun _ h => h) ?_
       intro k hk; simp -dsimp (maxSteps := 2000000) [go_sem, -decide_eq_true_eq, -decide_eq_false_iff_not, hx, hxA, hb]
       repeat' first | apply And.intro | refine hk _ ?_ | intro hg | ((first | refine CallK.intro (iho a (by omega) _ ho) ?_ | refine CallK.intro (iho b (by omega) _ hwa) ?_); simp -dsimp (maxSteps := 2000000) [go_sem, -decide_eq_true_eq, -decide_eq_false_iff_not, hx, hxA, hb]) | omega | exact True.intro
       all_goals clear hk k
       try (have hwb := wkF_len (e := e) (i := b) hwa (by omega))
       refine rg [6] ?_
       intro k hk; simp -dsimp [go_sem, -decide_eq_true_eq, -decide_eq_false_iff_not, hx, hxA]
       repeat' first | apply And.intro | refine hk _ ?_ | intro hg | omega | exact True.intro
       all_goals clear hk k
       refine rt ?_
       rw [wkF_eq hP hi]; (try (first | rw [if_neg (show ¬ 16 < out.length by omega)] | rw [if_pos (show 16 < out.length by omega)])); simp [go_sem, Tryz.results118, *] <;> first | (intro h9; omega) | (simp_all; done) | omega | grind)
     ·intro hc; try simp at hc
      all_goals try (exfalso; first | omega | (have hk9 := inR_iff.1 hc; omega); done)
      all_goals (
       refine AW.skipN (fun _ h => h) ?_
       try (have hwb := wkF_len (e := e) (i := b) hwa (by omega))
       refine rg [6] ?_
       intro k hk; simp -dsimp [go_sem, -decide_eq_true_eq, -decide_eq_false_iff_not, hx, hxA]
       repeat' first | apply And.intro | refine hk _ ?_ | intro hg | omega | exact True.intro
       all_goals clear hk k
       refine rt ?_
       rw [wkF_eq hP hi]; (try (first | rw [if_neg (show ¬ 16 < out.length by omega)] | rw [if_pos (show 16 < out.length by omega)])); simp [go_sem, Tryz.results118, *] <;> first | (intro h9; omega) | (simp_all; done) | omega | grind)))
theorem dc_spec_l3Walk (e : List TNode) (hP : PartsOk e e.length) (h16 : e.length ≤ 16) : ∀ (m i : Nat), i ≤ m → i < e.length → DC Tryz.prog 118 [.isl 4 (e.map TNode.ro), .int .i64 ((i : Nat) : Int), .nils] (.osl 1 ((wkF e i []).map N1)) [] ∧ ∀ out : List Nat, out.length ≤ 40 → DC Tryz.prog 118 [.isl 4 (e.map TNode.ro), .int .i64 ((i : Nat) : Int), .osl 1 (out.map N1)] (.osl 1 ((wkF e i out).map N1)) [] := by
  intro m
  induction m with
  | zero =>
    intro i hm hi
    have h1 : ∀ j : Nat, j < i → False := fun j hj => by omega
    exact ⟨dc_spec_l3Walk_n e hP h16 i hi (fun j hj => (h1 j hj).elim) (fun j hj => (h1 j hj).elim), fun out ho => dc_spec_l3Walk_o e hP h16 i hi out ho (fun j hj => (h1 j hj).elim) (fun j hj => (h1 j hj).elim)⟩
  | succ m ih =>
    intro i hm hi
    have h1 : ∀ j : Nat, j < i → _ := fun j hj => ih j (by omega) (by omega)
    exact ⟨dc_spec_l3Walk_n e hP h16 i hi (fun j hj => (h1 j hj).1) (fun j hj => (h1 j hj).2), fun out ho => dc_spec_l3Walk_o e hP h16 i hi out ho (fun j hj => (h1 j hj).1) (fun j hj => (h1 j hj).2)⟩
theorem dc_spec_l3Walk_nil (e : List TNode) (hP : PartsOk e e.length) (h16 : e.length ≤ 16) (i : Nat) (hi : i < e.length) : DC Tryz.prog 118 [.isl 4 (e.map TNode.ro), .int .i64 ((i : Nat) : Int), .nils] (.osl 1 ((wkF e i []).map N1)) [] := (dc_spec_l3Walk e hP h16 i i (Nat.le_refl _) hi).1
end Go.AM
namespace Go.AM
open Go.Proofs
theorem dc_spec_l3Fault (e : List TNode) (he : e.length ≤ 9223372036854775807) : DC Tryz.prog 103 [.isl 4 (e.map TNode.ro)] (.int .i64 (exprF e)) [] := by
 refine DC.intro tiOk Tryz.func103 rfl rfl rfl rfl rfl rfl rfl rfl [] ?_
 refine rgA [0] ?_
 refine AW.seq ?_
 refine AW.cut ⟨51, [(0, .isl 4 (e.map TNode.ro)), (14, .bool (decide (e.length < 1 ∨ 16 < e.length)))], []⟩ ?_ ?_
 ·skip
  refine rgK ?_
  intro k hk; simp +contextual -dsimp (maxSteps := 2000000) [go_sem, -decide_eq_true_eq, -decide_eq_false_iff_not]
  repeat' first | apply And.intro | refine hk _ ?_ | (intro hg; try simp only [decide_eq_true_eq, decide_eq_false_iff_not] at hg) | omega | exact True.intro
  all_goals clear hk k
  all_goals (show St.Less _ _; exact Less.of rfl (by simp [go_sem, -Nat.lt_one_iff, -List.length_eq_zero_iff] <;> first | omega | grind) (by simp [go_sem]))
 ·skip
  refine AW.cond rfl ?_ ?_
  ·intro hc; try simp at hc
   all_goals (
    refine rgA [2] ?_
    refine rt ?_
    first | (rw [exprF_len' (by simpa using hc)]; simp [go_sem, Tryz.results103]; done) | (rw [exprF_node hR hlt hall (by rw [hxn]; assumption), hxn]; simp [go_sem, Tryz.results103]; done) | (rw [exprF_wk hR hN, if_neg (wk_ne_len (by first | assumption | omega))]; simp [go_sem, Tryz.results103]; done) | (rw [exprF_wk hR hN, if_neg (wk_ne_at hy (by first | assumption | omega))]; simp [go_sem, Tryz.results103]; done) | (rw [exprF_wk hR hN, if_pos (wk_eq (by first | assumption | omega) (fun k hk => hal2 k (by omega)))]; simp [go_sem, Tryz.results103]))
  ·intro hc; try simp at hc
   all_goals (
    refine AW.skipN (fun _ h => h) ?_
    refine AW.seq ?_
    have hlen : 1 ≤ e.length ∧ e.length ≤ 16 := by obtain ⟨h8, h9⟩ := hc; have : e.length ≠ 0 := (fun h => h8 (List.length_eq_zero_iff.1 h)); omega
    have hR : inR e.length 1 16 = true := inR_iff.2 (by omega)
    refine rgA [0,3] ?_
    refine AW.block ?_
    refine AW.loopI (fun i : Nat => ⟨51, [(0, .isl 4 (e.map TNode.ro)), (3, .int .i64 i)], []⟩) (fun i => i ≤ e.length ∧ ∀ k, k < i → nodeAt e k = 0) (fun i => e.length - i) (0) (by simp) (Less.of rfl (by simp [go_sem]) (by simp [go_sem])) ?_
    rintro i ⟨hi, hall⟩
    refine AW.seq ?_
    refine rgA [0,3,18] ?_
    refine AW.cond rfl ?_ ?_
    ·intro hc; try simp at hc
     all_goals (
      have hlt : i < e.length := by assumption
      obtain ⟨x, hx⟩ := at_some hlt
      have hxn := nodeAt_at hx
      refine AW.skipN (fun _ h => h) ?_
      refine AW.seq ?_
      refine AW.block ?_
      refine rg [0,3,4] ?_
      intro k hk; simp -dsimp (maxSteps := 2000000) [go_sem, -decide_eq_true_eq, -decide_eq_false_iff_not, hx]
      repeat' first | apply And.intro | refine hk _ ?_ | intro hg | (refine CallK.intro (dc_spec_l3Node x i (by omega)) ?_; simp -dsimp (maxSteps := 2000000) [go_sem, -decide_eq_true_eq, -decide_eq_false_iff_not, hx]) | omega | exact True.intro
      all_goals clear hk k
      refine rg [0,3,4,27] ?_
      intro k hk; simp -dsimp [go_sem, -decide_eq_true_eq, -decide_eq_false_iff_not, hx]
      repeat' first | apply And.intro | refine hk _ ?_ | intro hg | omega | exact True.intro
      all_goals clear hk k
      refine AW.cond rfl ?_ ?_
      ·intro hc; try simp at hc
       all_goals (
        refine rg [2] ?_
        intro k hk; simp -dsimp [go_sem, -decide_eq_true_eq, -decide_eq_false_iff_not, hx]
        repeat' first | apply And.intro | refine hk _ ?_ | intro hg | omega | exact True.intro
        all_goals clear hk k
        refine rt ?_
        first | (rw [exprF_len' (by simpa using hc)]; simp [go_sem, Tryz.results103]; done) | (rw [exprF_node hR hlt hall (by rw [hxn]; assumption), hxn]; simp [go_sem, Tryz.results103]; done) | (rw [exprF_wk hR hN, if_neg (wk_ne_len (by first | assumption | omega))]; simp [go_sem, Tryz.results103]; done) | (rw [exprF_wk hR hN, if_neg (wk_ne_at hy (by first | assumption | omega))]; simp [go_sem, Tryz.results103]; done) | (rw [exprF_wk hR hN, if_pos (wk_eq (by first | assumption | omega) (fun k hk => hal2 k (by omega)))]; simp [go_sem, Tryz.results103]))
      ·intro hc; try simp at hc
       all_goals (
        refine AW.skipN (fun _ h => h) ?_
        refine rgK ?_
        intro k hk; simp -dsimp [go_sem, -decide_eq_true_eq, -decide_eq_false_iff_not, hx]
        repeat' first | apply And.intro | refine hk _ ?_ | intro hg | omega | exact True.intro
        all_goals clear hk k
        show ∃ _, _
        have hw := wrapi hlt (by omega)
        refine ⟨i + 1, ⟨by omega, upto hall (by rw [hxn]; first | assumption | simpa using hc)⟩, by omega, Less.of rfl (by simp [go_sem, hw]) (by simp [go_sem])⟩))
    ·intro hc; try simp at hc
     all_goals (
      refine AW.exitN (fun _ h => h) ?_
      have hN : ∀ k, k < e.length → nodeAt e k = 0 := fun k hk => hall k (by omega)
      have hP : PartsOk e e.length := hN
      have hwl : IntKind.wrap .i64 ((e.length : Int) - 1) = ((e.length - 1 : Nat) : Int) := by rw [wrap64 (by omega) (by omega)]; omega
      have hwk := wkF_len (e := e) (i := e.length - 1) (out := []) (by simp) (by omega)
      refine rg [0,5] ?_
      intro k hk; simp -dsimp (maxSteps := 2000000) [go_sem, -decide_eq_true_eq, -decide_eq_false_iff_not, hwl]
      repeat' first | apply And.intro | refine hk _ ?_ | intro hg | (refine CallK.intro (dc_spec_l3Walk_nil e hP (by omega) (e.length - 1) (by omega)) ?_; simp -dsimp (maxSteps := 2000000) [go_sem, -decide_eq_true_eq, -decide_eq_false_iff_not, hwl]) | omega | exact True.intro
      all_goals clear hk k
      refine AW.seq ?_
      refine rgA [5,38] ?_
      refine AW.cond rfl ?_ ?_
      ·intro hc; try simp at hc
       all_goals (
        refine rgA [2] ?_
        refine rt ?_
        first | (rw [exprF_len' (by simpa using hc)]; simp [go_sem, Tryz.results103]; done) | (rw [exprF_node hR hlt hall (by rw [hxn]; assumption), hxn]; simp [go_sem, Tryz.results103]; done) | (rw [exprF_wk hR hN, if_neg (wk_ne_len (by first | assumption | omega))]; simp [go_sem, Tryz.results103]; done) | (rw [exprF_wk hR hN, if_neg (wk_ne_at hy (by first | assumption | omega))]; simp [go_sem, Tryz.results103]; done) | (rw [exprF_wk hR hN, if_pos (wk_eq (by first | assumption | omega) (fun k hk => hal2 k (by omega)))]; simp [go_sem, Tryz.results103]))
      ·intro hc; try simp at hc
       all_goals (
        refine AW.skipN (fun _ h => h) ?_
        refine AW.seq ?_
        refine rgA [5,6] ?_
        refine AW.block ?_
        refine AW.loopI (fun i : Nat => ⟨51, [(5, .sl 1033 1 0 (wkF e (e.length - 1) []).length), (6, .int .i64 i)], [(1033, some ⟨1, (wkF e (e.length - 1) []).map N1⟩)]⟩) (fun i => i ≤ (wkF e (e.length - 1) []).length ∧ ∀ k, k < i → (wkF e (e.length - 1) [])[k]? = some k) (fun i => (wkF e (e.length - 1) []).length - i) (0) (by simp) (Less.of rfl (by simp [go_sem]) (by simp [go_sem])) ?_
        rintro i ⟨hi2, hal2⟩
        refine AW.seq ?_
        refine rgA [5,6,42] ?_
        refine AW.cond rfl ?_ ?_
        ·intro hc; try simp at hc
         all_goals (
          have hlt2 : i < (wkF e (e.length - 1) []).length := by assumption
          obtain ⟨y, hy⟩ := at_some hlt2
          refine AW.skipN (fun _ h => h) ?_
          refine AW.seq ?_
          refine AW.block ?_
          refine rg [5,6,50] ?_
          intro k hk; simp -dsimp [go_sem, -decide_eq_true_eq, -decide_eq_false_iff_not, hy]
          repeat' first | apply And.intro | refine hk _ ?_ | intro hg | omega | exact True.intro
          all_goals clear hk k
          refine AW.cond rfl ?_ ?_
          ·intro hc; try simp at hc
           all_goals (
            refine rg [2] ?_
            intro k hk; simp -dsimp [go_sem, -decide_eq_true_eq, -decide_eq_false_iff_not, hy]
            repeat' first | apply And.intro | refine hk _ ?_ | intro hg | omega | exact True.intro
            all_goals clear hk k
            refine rt ?_
            first | (rw [exprF_len' (by simpa using hc)]; simp [go_sem, Tryz.results103]; done) | (rw [exprF_node hR hlt hall (by rw [hxn]; assumption), hxn]; simp [go_sem, Tryz.results103]; done) | (rw [exprF_wk hR hN, if_neg (wk_ne_len (by first | assumption | omega))]; simp [go_sem, Tryz.results103]; done) | (rw [exprF_wk hR hN, if_neg (wk_ne_at hy (by first | assumption | omega))]; simp [go_sem, Tryz.results103]; done) | (rw [exprF_wk hR hN, if_pos (wk_eq (by first | assumption | omega) (fun k hk => hal2 k (by omega)))]; simp [go_sem, Tryz.results103]))
          ·intro hc; try simp at hc
           all_goals (
            refine AW.skipN (fun _ h => h) ?_
            refine rgK ?_
            intro k hk; simp -dsimp [go_sem, -decide_eq_true_eq, -decide_eq_false_iff_not, hy]
            repeat' first | apply And.intro | refine hk _ ?_ | intro hg | omega | exact True.intro
            all_goals clear hk k
            show ∃ _, _
            have hw := wrapi hlt2 (by omega)
            refine ⟨i + 1, ⟨by omega, upto_at hal2 hy (by first | assumption | omega)⟩, by omega, Less.of rfl (by simp [go_sem, hw]) (by simp [go_sem])⟩))
        ·intro hc; try simp at hc
         all_goals (
          refine AW.exitN (fun _ h => h) ?_
          refine rgA [2] ?_
          refine rt ?_
          first | (rw [exprF_len' (by simpa using hc)]; simp [go_sem, Tryz.results103]; done) | (rw [exprF_node hR hlt hall (by rw [hxn]; assumption), hxn]; simp [go_sem, Tryz.results103]; done) | (rw [exprF_wk hR hN, if_neg (wk_ne_len (by first | assumption | omega))]; simp [go_sem, Tryz.results103]; done) | (rw [exprF_wk hR hN, if_neg (wk_ne_at hy (by first | assumption | omega))]; simp [go_sem, Tryz.results103]; done) | (rw [exprF_wk hR hN, if_pos (wk_eq (by first | assumption | omega) (fun k hk => hal2 k (by omega)))]; simp [go_sem, Tryz.results103])))))
end Go.AM
namespace Go.AM
open Go.Proofs
theorem dc_spec_l3Types_b (e : List TNode) (hP : PartsOk e e.length) (hlen : e.length ≤ 16) (hub : typU e e.length = true) : DC Tryz.prog 119 [.isl 4 (e.map TNode.ro)] (.tup [.nils, .bool false]) [] := by
 refine DC.intro tiOk Tryz.func119 rfl rfl rfl rfl rfl rfl rfl rfl [1001] ?_
 refine rg [0] ?_
 intro k hk; simp -dsimp [go_sem, -decide_eq_true_eq, -decide_eq_false_iff_not]
 repeat' first | apply And.intro | refine hk _ ?_ | intro hg | omega | exact True.intro | (have h9 := hr (by assumption); omega) | fail
 all_goals clear hk k
 refine rg [0,4] ?_
 intro k hk; simp -dsimp [go_sem, -decide_eq_true_eq, -decide_eq_false_iff_not]
 repeat' first | apply And.intro | refine hk _ ?_ | intro hg | omega | exact True.intro | (have h9 := hr (by assumption); omega) | fail
 all_goals clear hk k
 refine AW.seq ?_
 refine rg [0,4,5] ?_
 intro k hk; simp -dsimp [go_sem, -decide_eq_true_eq, -decide_eq_false_iff_not]
 repeat' first | apply And.intro | refine hk _ ?_ | intro hg | omega | exact True.intro | (have h9 := hr (by assumption); omega) | fail
 all_goals clear hk k
 refine AW.block ?_
 refine AW.rename (nd := ?nd_1) 9 60 ?h1_1 ?h2_1 ?h4_1 ?kk_1
 (case h1_1 => exact rfl)
 (case h2_1 => simp [go_sem])
 (case h4_1 => simp [go_sem])
 refine AW.loopI (fun i : Nat => ⟨62, [(0, .isl 4 (e.map TNode.ro)), (4, .sl 60 1 0 i), (5, .int .i64 i)], [(60, some ⟨1, (typesL e i).map I1⟩)]⟩) (fun i => i ≤ e.length ∧ typU e i = false) (fun i => e.length - i) (0) (by simp [typU]) (Less.of rfl (by simp [go_sem]) (by simp [go_sem, typesL])) ?_
 rintro i ⟨hi, hu⟩
 refine AW.rename (nd := ?nd_2) 60 9 ?h1_2 ?h2_2 ?h4_2 ?kk_2
 (case h1_2 => exact rfl)
 (case h2_2 => simp [go_sem])
 (case h4_2 => simp [go_sem])
 refine AW.seq ?_
 refine rg [0,4,5,13] ?_
 intro k hk; simp -dsimp [go_sem, -decide_eq_true_eq, -decide_eq_false_iff_not]
 repeat' first | apply And.intro | refine hk _ ?_ | intro hg | omega | exact True.intro | (have h9 := hr (by assumption); omega) | fail
 all_goals clear hk k
 refine AW.cond rfl ?_ ?_
 ·intro hc; try simp at hc
  all_goals try (exfalso; omega; done)
  all_goals (
   have hlt : i < e.length := by assumption
   obtain ⟨x, hx⟩ := at_some hlt
   have hxA := nA_at hx
   have hpx := hP i hlt
   rw [nodeAt_at hx] at hpx
   have hq := nodeF_parts hpx
   have hl : 2 < x.kind → 0 ≤ x.left ∧ x.left.toNat < i := left_of hpx
   have hr := hq.2.1
   have htl := typesL_len e i
   have htk : List.take i ((typesL e i).map I1) = (typesL e i).map I1 := List.take_of_length_le (by simp [htl])
   have hsA : decide (2 < x.kind) = true → (typesL e i)[x.left.toNat]? = some (ownT (nA e x.left.toNat).kind) := fun h => typesL_at (hl (by simpa using h)).2
   have hsB : isTwoB x.kind = true → (typesL e i)[x.right.toNat]? = some (ownT (nA e x.right.toNat).kind) := fun h => typesL_at (hr h).2.2.2
   refine AW.skipN (fun _ h => h) ?_
   refine AW.seq ?_
   refine AW.block ?_
   refine rg [0,4,5,6] ?_
   intro k hk; simp -dsimp [go_sem, -decide_eq_true_eq, -decide_eq_false_iff_not, hx, htl, hsA, hsB]
   repeat' first | apply And.intro | refine hk _ ?_ | intro hg | omega | exact True.intro | (have h9 := hr (by assumption); omega) | fail
   all_goals clear hk k
   refine rg [0,4,5,6,7] ?_
   intro k hk; simp -dsimp [go_sem, -decide_eq_true_eq, -decide_eq_false_iff_not, hx, htl, hsA, hsB]
   repeat' first | apply And.intro | refine hk _ ?_ | intro hg | omega | exact True.intro | (have h9 := hr (by assumption); omega) | fail
   all_goals clear hk k
   refine rg [0,4,5,6,7,8] ?_
   intro k hk; simp -dsimp [go_sem, -decide_eq_true_eq, -decide_eq_false_iff_not, hx, htl, hsA, hsB]
   repeat' first | apply And.intro | refine hk _ ?_ | intro hg | omega | exact True.intro | (have h9 := hr (by assumption); omega) | fail
   all_goals clear hk k
   refine AW.seq ?_
   refine AW.cut ⟨62, [(0, .isl 4 (e.map TNode.ro)), (4, .sl 9 1 0 i), (5, .int .i64 i), (6, .ptr 6 4 0 0), (7, .int .i64 1), (8, .int .i64 1), (27, .bool (decide (x.kind = 9 ∨ x.kind = 10)))], [(6, some ⟨4, [x.ro]⟩), (9, some ⟨1, (typesL e i).map I1⟩)]⟩ ?_ ?_
   ·skip
    refine rgK ?_
    intro k hk; simp +contextual -dsimp (maxSteps := 2000000) [go_sem, -decide_eq_true_eq, -decide_eq_false_iff_not, hx, htl, hsA, hsB]
    repeat' first | apply And.intro | refine hk _ ?_ | (intro hg; try simp only [decide_eq_true_eq, decide_eq_false_iff_not] at hg) | omega | exact True.intro | (have h9 := hr (by assumption); omega) | fail
    all_goals clear hk k
    all_goals (show St.Less _ _; exact Less.of rfl (by simp [go_sem] <;> first | omega | grind) (by simp [go_sem]))
   ·skip
    refine AW.cond rfl ?_ ?_
    ·intro hc; try simp at hc
     all_goals try (exfalso; omega; done)
     all_goals (
      have hk9 : x.kind = 9 ∨ x.kind = 10 := by simpa using hc
      refine rgN [0,4,5,6,7,8] (fun _ h => h) ?_
      intro k hk; simp -dsimp [go_sem, -decide_eq_true_eq, -decide_eq_false_iff_not, hx, htl, hsA, hsB]
      repeat' first | apply And.intro | refine hk _ ?_ | intro hg | omega | exact True.intro | (have h9 := hr (by assumption); omega) | fail
      all_goals clear hk k
      refine AW.seq ?_
      refine rg [0,4,5,6,7,8,30] ?_
      intro k hk; simp -dsimp [go_sem, -decide_eq_true_eq, -decide_eq_false_iff_not, hx, htl, hsA, hsB]
      repeat' first | apply And.intro | refine hk _ ?_ | intro hg | omega | exact True.intro | (have h9 := hr (by assumption); omega) | fail
      all_goals clear hk k
      refine AW.cond rfl ?_ ?_
      ·intro hc; try simp at hc
       all_goals try (exfalso; omega; done)
       all_goals (
        refine rgN [0,4,5,6,7,8] (fun _ h => h) ?_
        intro k hk; simp -dsimp [go_sem, -decide_eq_true_eq, -decide_eq_false_iff_not, hx, htl, hsA, hsB]
        repeat' first | apply And.intro | refine hk _ ?_ | intro hg | omega | exact True.intro | (have h9 := hr (by assumption); omega) | fail
        all_goals clear hk k
        refine AW.seq ?_
        have hpt : partT x.kind = _ := rfl
        refine AW.cut ⟨62, [(0, .isl 4 (e.map TNode.ro)), (4, .sl 9 1 0 i), (5, .int .i64 i), (8, .int .i64 (ownT x.kind)), (56, .bool (typBad e i))], [(9, some ⟨1, (typesL e i).map I1⟩)]⟩ ?_ ?_
        ·skip
         refine rgK ?_
         intro k hk; simp +contextual -dsimp (maxSteps := 2000000) [go_sem, -decide_eq_true_eq, -decide_eq_false_iff_not, hx, htl, hsA, hsB]
         repeat' first | apply And.intro | refine hk _ ?_ | (intro hg; try simp only [decide_eq_true_eq, decide_eq_false_iff_not] at hg) | (refine CallK.intro (dc_spec_l3Two _) ?_; simp +contextual -dsimp (maxSteps := 2000000) [go_sem, -decide_eq_true_eq, -decide_eq_false_iff_not, hx, htl, hsA, hsB]) | omega | exact True.intro | (have h9 := hr (by assumption); omega) | fail
         all_goals clear hk k
         all_goals (show St.Less _ _; exact Less.of rfl (by simp [go_sem, typBad, hxA] <;> grind [ownT, partT]) (by simp [go_sem]))
        ·skip
         refine AW.cond rfl ?_ ?_
         ·intro hc; try simp at hc
          all_goals try (exfalso; omega; done)
          all_goals (
           refine rg [2,3] ?_
           intro k hk; simp -dsimp [go_sem, -decide_eq_true_eq, -decide_eq_false_iff_not, hx, htl, hsA, hsB]
           repeat' first | apply And.intro | refine hk _ ?_ | intro hg | omega | exact True.intro | (have h9 := hr (by assumption); omega) | fail
           all_goals clear hk k
           refine rt ?_
           first | (simp [go_sem, Tryz.results119]; done) | (exfalso; have hie : i = e.length := (by omega); rw [hie, hub] at hu; cases hu))
         ·intro hc; try simp at hc
          all_goals try (exfalso; omega; done)
          all_goals (
           refine AW.skipN (fun _ h => h) ?_
           refine rgN [0,4,5] (fun _ h => h) ?_
           intro k hk; simp -dsimp [go_sem, -decide_eq_true_eq, -decide_eq_false_iff_not, hx, htl, hsA, hsB]
           repeat' first | apply And.intro | refine hk _ ?_ | intro hg | omega | exact True.intro | (have h9 := hr (by assumption); omega) | fail
           all_goals clear hk k
           refine rgK ?_
           intro k hk; simp -dsimp [go_sem, -decide_eq_true_eq, -decide_eq_false_iff_not, hx, htl, hsA, hsB]
           repeat' first | apply And.intro | refine hk _ ?_ | intro hg | omega | exact True.intro | (have h9 := hr (by assumption); omega) | fail
           all_goals clear hk k
           show ∃ _, _
           have hw := wrapi hlt (by omega)
           have hub : typBad e i = false := by simpa using hc
           refine ⟨i + 1, ⟨by omega, typU_go hu hub⟩, by omega, Less.of rfl (by simp [go_sem, hw]) (by simp [go_sem, typesL_succ, hxA, htk] <;> (unfold ownT; first | omega | (split <;> omega)))⟩))
      ·intro hc; try simp at hc
       all_goals try (exfalso; omega; done)
       all_goals (
        refine AW.skipN (fun _ h => h) ?_
        refine AW.seq ?_
        have hpt : partT x.kind = _ := rfl
        refine AW.cut ⟨62, [(0, .isl 4 (e.map TNode.ro)), (4, .sl 9 1 0 i), (5, .int .i64 i), (8, .int .i64 (ownT x.kind)), (56, .bool (typBad e i))], [(9, some ⟨1, (typesL e i).map I1⟩)]⟩ ?_ ?_
        ·skip
         refine rgK ?_
         intro k hk; simp +contextual -dsimp (maxSteps := 2000000) [go_sem, -decide_eq_true_eq, -decide_eq_false_iff_not, hx, htl, hsA, hsB]
         repeat' first | apply And.intro | refine hk _ ?_ | (intro hg; try simp only [decide_eq_true_eq, decide_eq_false_iff_not] at hg) | (refine CallK.intro (dc_spec_l3Two _) ?_; simp +contextual -dsimp (maxSteps := 2000000) [go_sem, -decide_eq_true_eq, -decide_eq_false_iff_not, hx, htl, hsA, hsB]) | omega | exact True.intro | (have h9 := hr (by assumption); omega) | fail
         all_goals clear hk k
         all_goals (show St.Less _ _; exact Less.of rfl (by simp [go_sem, typBad, hxA] <;> grind [ownT, partT]) (by simp [go_sem]))
        ·skip
         refine AW.cond rfl ?_ ?_
         ·intro hc; try simp at hc
          all_goals try (exfalso; omega; done)
          all_goals (
           refine rg [2,3] ?_
           intro k hk; simp -dsimp [go_sem, -decide_eq_true_eq, -decide_eq_false_iff_not, hx, htl, hsA, hsB]
           repeat' first | apply And.intro | refine hk _ ?_ | intro hg | omega | exact True.intro | (have h9 := hr (by assumption); omega) | fail
           all_goals clear hk k
           refine rt ?_
           first | (simp [go_sem, Tryz.results119]; done) | (exfalso; have hie : i = e.length := (by omega); rw [hie, hub] at hu; cases hu))
         ·intro hc; try simp at hc
          all_goals try (exfalso; omega; done)
          all_goals (
           refine AW.skipN (fun _ h => h) ?_
           refine rgN [0,4,5] (fun _ h => h) ?_
           intro k hk; simp -dsimp [go_sem, -decide_eq_true_eq, -decide_eq_false_iff_not, hx, htl, hsA, hsB]
           repeat' first | apply And.intro | refine hk _ ?_ | intro hg | omega | exact True.intro | (have h9 := hr (by assumption); omega) | fail
           all_goals clear hk k
           refine rgK ?_
           intro k hk; simp -dsimp [go_sem, -decide_eq_true_eq, -decide_eq_false_iff_not, hx, htl, hsA, hsB]
           repeat' first | apply And.intro | refine hk _ ?_ | intro hg | omega | exact True.intro | (have h9 := hr (by assumption); omega) | fail
           all_goals clear hk k
           show ∃ _, _
           have hw := wrapi hlt (by omega)
           have hub : typBad e i = false := by simpa using hc
           refine ⟨i + 1, ⟨by omega, typU_go hu hub⟩, by omega, Less.of rfl (by simp [go_sem, hw]) (by simp [go_sem, typesL_succ, hxA, htk] <;> (unfold ownT; first | omega | (split <;> omega)))⟩)))
    ·intro hc; try simp at hc
     all_goals try (exfalso; omega; done)
     all_goals (
      refine AW.skipN (fun _ h => h) ?_
      refine AW.seq ?_
      refine rg [0,4,5,6,7,8,30] ?_
      intro k hk; simp -dsimp [go_sem, -decide_eq_true_eq, -decide_eq_false_iff_not, hx, htl, hsA, hsB]
      repeat' first | apply And.intro | refine hk _ ?_ | intro hg | omega | exact True.intro | (have h9 := hr (by assumption); omega) | fail
      all_goals clear hk k
      refine AW.cond rfl ?_ ?_
      ·intro hc; try simp at hc
       all_goals try (exfalso; omega; done)
       all_goals (
        refine rgN [0,4,5,6,7,8] (fun _ h => h) ?_
        intro k hk; simp -dsimp [go_sem, -decide_eq_true_eq, -decide_eq_false_iff_not, hx, htl, hsA, hsB]
        repeat' first | apply And.intro | refine hk _ ?_ | intro hg | omega | exact True.intro | (have h9 := hr (by assumption); omega) | fail
        all_goals clear hk k
        refine AW.seq ?_
        have hpt : partT x.kind = _ := rfl
        refine AW.cut ⟨62, [(0, .isl 4 (e.map TNode.ro)), (4, .sl 9 1 0 i), (5, .int .i64 i), (8, .int .i64 (ownT x.kind)), (56, .bool (typBad e i))], [(9, some ⟨1, (typesL e i).map I1⟩)]⟩ ?_ ?_
        ·skip
         refine rgK ?_
         intro k hk; simp +contextual -dsimp (maxSteps := 2000000) [go_sem, -decide_eq_true_eq, -decide_eq_false_iff_not, hx, htl, hsA, hsB]
         repeat' first | apply And.intro | refine hk _ ?_ | (intro hg; try simp only [decide_eq_true_eq, decide_eq_false_iff_not] at hg) | (refine CallK.intro (dc_spec_l3Two _) ?_; simp +contextual -dsimp (maxSteps := 2000000) [go_sem, -decide_eq_true_eq, -decide_eq_false_iff_not, hx, htl, hsA, hsB]) | omega | exact True.intro | (have h9 := hr (by assumption); omega) | fail
         all_goals clear hk k
         all_goals (show St.Less _ _; exact Less.of rfl (by simp [go_sem, typBad, hxA] <;> grind [ownT, partT]) (by simp [go_sem]))
        ·skip
         refine AW.cond rfl ?_ ?_
         ·intro hc; try simp at hc
          all_goals try (exfalso; omega; done)
          all_goals (
           refine rg [2,3] ?_
           intro k hk; simp -dsimp [go_sem, -decide_eq_true_eq, -decide_eq_false_iff_not, hx, htl, hsA, hsB]
           repeat' first | apply And.intro | refine hk _ ?_ | intro hg | omega | exact True.intro | (have h9 := hr (by assumption); omega) | fail
           all_goals clear hk k
           refine rt ?_
           first | (simp [go_sem, Tryz.results119]; done) | (exfalso; have hie : i = e.length := (by omega); rw [hie, hub] at hu; cases hu))
         ·intro hc; try simp at hc
          all_goals try (exfalso; omega; done)
          all_goals (
           refine AW.skipN (fun _ h => h) ?_
           refine rgN [0,4,5] (fun _ h => h) ?_
           intro k hk; simp -dsimp [go_sem, -decide_eq_true_eq, -decide_eq_false_iff_not, hx, htl, hsA, hsB]
           repeat' first | apply And.intro | refine hk _ ?_ | intro hg | omega | exact True.intro | (have h9 := hr (by assumption); omega) | fail
           all_goals clear hk k
           refine rgK ?_
           intro k hk; simp -dsimp [go_sem, -decide_eq_true_eq, -decide_eq_false_iff_not, hx, htl, hsA, hsB]
           repeat' first | apply And.intro | refine hk _ ?_ | intro hg | omega | exact True.intro | (have h9 := hr (by assumption); omega) | fail
           all_goals clear hk k
           show ∃ _, _
           have hw := wrapi hlt (by omega)
           have hub : typBad e i = false := by simpa using hc
           refine ⟨i + 1, ⟨by omega, typU_go hu hub⟩, by omega, Less.of rfl (by simp [go_sem, hw]) (by simp [go_sem, typesL_succ, hxA, htk] <;> (unfold ownT; first | omega | (split <;> omega)))⟩))
      ·intro hc; try simp at hc
       all_goals try (exfalso; omega; done)
       all_goals (
        refine AW.skipN (fun _ h => h) ?_
        refine AW.seq ?_
        have hpt : partT x.kind = _ := rfl
        refine AW.cut ⟨62, [(0, .isl 4 (e.map TNode.ro)), (4, .sl 9 1 0 i), (5, .int .i64 i), (8, .int .i64 (ownT x.kind)), (56, .bool (typBad e i))], [(9, some ⟨1, (typesL e i).map I1⟩)]⟩ ?_ ?_
        ·skip
         refine rgK ?_
         intro k hk; simp +contextual -dsimp (maxSteps := 2000000) [go_sem, -decide_eq_true_eq, -decide_eq_false_iff_not, hx, htl, hsA, hsB]
         repeat' first | apply And.intro | refine hk _ ?_ | (intro hg; try simp only [decide_eq_true_eq, decide_eq_false_iff_not] at hg) | (refine CallK.intro (dc_spec_l3Two _) ?_; simp +contextual -dsimp (maxSteps := 2000000) [go_sem, -decide_eq_true_eq, -decide_eq_false_iff_not, hx, htl, hsA, hsB]) | omega | exact True.intro | (have h9 := hr (by assumption); omega) | fail
         all_goals clear hk k
         all_goals (show St.Less _ _; exact Less.of rfl (by simp [go_sem, typBad, hxA] <;> grind [ownT, partT]) (by simp [go_sem]))
        ·skip
         refine AW.cond rfl ?_ ?_
         ·intro hc; try simp at hc
          all_goals try (exfalso; omega; done)
          all_goals (
           refine rg [2,3] ?_
           intro k hk; simp -dsimp [go_sem, -decide_eq_true_eq, -decide_eq_false_iff_not, hx, htl, hsA, hsB]
           repeat' first | apply And.intro | refine hk _ ?_ | intro hg | omega | exact True.intro | (have h9 := hr (by assumption); omega) | fail
           all_goals clear hk k
           refine rt ?_
           first | (simp [go_sem, Tryz.results119]; done) | (exfalso; have hie : i = e.length := (by omega); rw [hie, hub] at hu; cases hu))
         ·intro hc; try simp at hc
          all_goals try (exfalso; omega; done)
          all_goals (
           refine AW.skipN (fun _ h => h) ?_
           refine rgN [0,4,5] (fun _ h => h) ?_
           intro k hk; simp -dsimp [go_sem, -decide_eq_true_eq, -decide_eq_false_iff_not, hx, htl, hsA, hsB]
           repeat' first | apply And.intro | refine hk _ ?_ | intro hg | omega | exact True.intro | (have h9 := hr (by assumption); omega) | fail
           all_goals clear hk k
           refine rgK ?_
           intro k hk; simp -dsimp [go_sem, -decide_eq_true_eq, -decide_eq_false_iff_not, hx, htl, hsA, hsB]
           repeat' first | apply And.intro | refine hk _ ?_ | intro hg | omega | exact True.intro | (have h9 := hr (by assumption); omega) | fail
           all_goals clear hk k
           show ∃ _, _
           have hw := wrapi hlt (by omega)
           have hub : typBad e i = false := by simpa using hc
           refine ⟨i + 1, ⟨by omega, typU_go hu hub⟩, by omega, Less.of rfl (by simp [go_sem, hw]) (by simp [go_sem, typesL_succ, hxA, htk] <;> (unfold ownT; first | omega | (split <;> omega)))⟩))))
 ·intro hc; try simp at hc
  all_goals try (exfalso; omega; done)
  all_goals (
   refine AW.exitN (fun _ h => h) ?_
   refine rg [2,3] ?_
   intro k hk; simp -dsimp [go_sem, -decide_eq_true_eq, -decide_eq_false_iff_not]
   repeat' first | apply And.intro | refine hk _ ?_ | intro hg | omega | exact True.intro | (have h9 := hr (by assumption); omega) | fail
   all_goals clear hk k
   refine rt ?_
   first | (simp [go_sem, Tryz.results119]; done) | (exfalso; have hie : i = e.length := (by omega); rw [hie, hub] at hu; cases hu))
theorem dc_spec_l3Types_k (e : List TNode) (hP : PartsOk e e.length) (hlen : e.length ≤ 16) (huk : typU e e.length = false) : DC Tryz.prog 119 [.isl 4 (e.map TNode.ro)] (.tup [.osl 1 ((typesL e e.length).map I1), .bool true]) [] := by
 refine DC.intro tiOk Tryz.func119 rfl rfl rfl rfl rfl rfl rfl rfl [1001] ?_
 refine rg [0] ?_
 intro k hk; simp -dsimp [go_sem, -decide_eq_true_eq, -decide_eq_false_iff_not]
 repeat' first | apply And.intro | refine hk _ ?_ | intro hg | omega | exact True.intro | (have h9 := hr (by assumption); omega) | fail
 all_goals clear hk k
 refine rg [0,4] ?_
 intro k hk; simp -dsimp [go_sem, -decide_eq_true_eq, -decide_eq_false_iff_not]
 repeat' first | apply And.intro | refine hk _ ?_ | intro hg | omega | exact True.intro | (have h9 := hr (by assumption); omega) | fail
 all_goals clear hk k
 refine AW.seq ?_
 refine rg [0,4,5] ?_
 intro k hk; simp -dsimp [go_sem, -decide_eq_true_eq, -decide_eq_false_iff_not]
 repeat' first | apply And.intro | refine hk _ ?_ | intro hg | omega | exact True.intro | (have h9 := hr (by assumption); omega) | fail
 all_goals clear hk k
 refine AW.block ?_
 refine AW.rename (nd := ?nd_1) 9 60 ?h1_1 ?h2_1 ?h4_1 ?kk_1
 (case h1_1 => exact rfl)
 (case h2_1 => simp [go_sem])
 (case h4_1 => simp [go_sem])
 refine AW.loopI (fun i : Nat => ⟨62, [(0, .isl 4 (e.map TNode.ro)), (4, .sl 60 1 0 i), (5, .int .i64 i)], [(60, some ⟨1, (typesL e i).map I1⟩)]⟩) (fun i => i ≤ e.length ∧ typU e i = false) (fun i => e.length - i) (0) (by simp [typU]) (Less.of rfl (by simp [go_sem]) (by simp [go_sem, typesL])) ?_
 rintro i ⟨hi, hu⟩
 refine AW.rename (nd := ?nd_2) 60 9 ?h1_2 ?h2_2 ?h4_2 ?kk_2
 (case h1_2 => exact rfl)
 (case h2_2 => simp [go_sem])
 (case h4_2 => simp [go_sem])
 refine AW.seq ?_
 refine rg [0,4,5,13] ?_
 intro k hk; simp -dsimp [go_sem, -decide_eq_true_eq, -decide_eq_false_iff_not]
 repeat' first | apply And.intro | refine hk _ ?_ | intro hg | omega | exact True.intro | (have h9 := hr (by assumption); omega) | fail
 all_goals clear hk k
 refine AW.cond rfl ?_ ?_
 ·intro hc; try simp at hc
  all_goals try (exfalso; omega; done)
  all_goals (
   have hlt : i < e.length := by assumption
   obtain ⟨x, hx⟩ := at_some hlt
   have hxA := nA_at hx
   have hpx := hP i hlt
   rw [nodeAt_at hx] at hpx
   have hq := nodeF_parts hpx
   have hl : 2 < x.kind → 0 ≤ x.left ∧ x.left.toNat < i := left_of hpx
   have hr := hq.2.1
   have htl := typesL_len e i
   have htk : List.take i ((typesL e i).map I1) = (typesL e i).map I1 := List.take_of_length_le (by simp [htl])
   have hsA : decide (2 < x.kind) = true → (typesL e i)[x.left.toNat]? = some (ownT (nA e x.left.toNat).kind) := fun h => typesL_at (hl (by simpa using h)).2
   have hsB : isTwoB x.kind = true → (typesL e i)[x.right.toNat]? = some (ownT (nA e x.right.toNat).kind) := fun h => typesL_at (hr h).2.2.2
   refine AW.skipN (fun _ h => h) ?_
   refine AW.seq ?_
   refine AW.block ?_
   refine rg [0,4,5,6] ?_
   intro k hk; simp -dsimp [go_sem, -decide_eq_true_eq, -decide_eq_false_iff_not, hx, htl, hsA, hsB]
   repeat' first | apply And.intro | refine hk _ ?_ | intro hg | omega | exact True.intro | (have h9 := hr (by assumption); omega) | fail
   all_goals clear hk k
   refine rg [0,4,5,6,7] ?_
   intro k hk; simp -dsimp [go_sem, -decide_eq_true_eq, -decide_eq_false_iff_not, hx, htl, hsA, hsB]
   repeat' first | apply And.intro | refine hk _ ?_ | intro hg | omega | exact True.intro | (have h9 := hr (by assumption); omega) | fail
   all_goals clear hk k
   refine rg [0,4,5,6,7,8] ?_
   intro k hk; simp -dsimp [go_sem, -decide_eq_true_eq, -decide_eq_false_iff_not, hx, htl, hsA, hsB]
   repeat' first | apply And.intro | refine hk _ ?_ | intro hg | omega | exact True.intro | (have h9 := hr (by assumption); omega) | fail
   all_goals clear hk k
   refine AW.seq ?_
   refine AW.cut ⟨62, [(0, .isl 4 (e.map TNode.ro)), (4, .sl 9 1 0 i), (5, .int .i64 i), (6, .ptr 6 4 0 0), (7, .int .i64 1), (8, .int .i64 1), (27, .bool (decide (x.kind = 9 ∨ x.kind = 10)))], [(6, some ⟨4, [x.ro]⟩), (9, some ⟨1, (typesL e i).map I1⟩)]⟩ ?_ ?_
   ·skip
    refine rgK ?_
    intro k hk; simp +contextual -dsimp (maxSteps := 2000000) [go_sem, -decide_eq_true_eq, -decide_eq_false_iff_not, hx, htl, hsA, hsB]
    repeat' first | apply And.intro | refine hk _ ?_ | (intro hg; try simp only [decide_eq_true_eq, decide_eq_false_iff_not] at hg) | omega | exact True.intro | (have h9 := hr (by assumption); omega) | fail
    all_goals clear hk k
    all_goals (show St.Less _ _; exact Less.of rfl (by simp [go_sem] <;> first | omega | grind) (by simp [go_sem]))
   ·skip
    refine AW.cond rfl ?_ ?_
    ·intro hc; try simp at hc
     all_goals try (exfalso; omega; done)
     all_goals (
      have hk9 : x.kind = 9 ∨ x.kind = 10 := by simpa using hc
      refine rgN [0,4,5,6,7,8] (fun _ h => h) ?_
      intro k hk; simp -dsimp [go_sem, -decide_eq_true_eq, -decide_eq_false_iff_not, hx, htl, hsA, hsB]
      repeat' first | apply And.intro | refine hk _ ?_ | intro hg | omega | exact True.intro | (have h9 := hr (by assumption); omega) | fail
      all_goals clear hk k
      refine AW.seq ?_
      refine rg [0,4,5,6,7,8,30] ?_
      intro k hk; simp -dsimp [go_sem, -decide_eq_true_eq, -decide_eq_false_iff_not, hx, htl, hsA, hsB]
      repeat' first | apply And.intro | refine hk _ ?_ | intro hg | omega | exact True.intro | (have h9 := hr (by assumption); omega) | fail
      all_goals clear hk k
      refine AW.cond rfl ?_ ?_
      ·intro hc; try simp at hc
       all_goals try (exfalso; omega; done)
       all_goals (
        refine rgN [0,4,5,6,7,8] (fun _ h => h) ?_
        intro k hk; simp -dsimp [go_sem, -decide_eq_true_eq, -decide_eq_false_iff_not, hx, htl, hsA, hsB]
        repeat' first | apply And.intro | refine hk _ ?_ | intro hg | omega | exact True.intro | (have h9 := hr (by assumption); omega) | fail
        all_goals clear hk k
        refine AW.seq ?_
        have hpt : partT x.kind = _ := rfl
        refine AW.cut ⟨62, [(0, .isl 4 (e.map TNode.ro)), (4, .sl 9 1 0 i), (5, .int .i64 i), (8, .int .i64 (ownT x.kind)), (56, .bool (typBad e i))], [(9, some ⟨1, (typesL e i).map I1⟩)]⟩ ?_ ?_
        ·skip
         refine rgK ?_
         intro k hk; simp +contextual -dsimp (maxSteps := 2000000) [go_sem, -decide_eq_true_eq, -decide_eq_false_iff_not, hx, htl, hsA, hsB]
         repeat' first | apply And.intro | refine hk _ ?_ | (intro hg; try simp only [decide_eq_true_eq, decide_eq_false_iff_not] at hg) | (refine CallK.intro (dc_spec_l3Two _) ?_; simp +contextual -dsimp (maxSteps := 2000000) [go_sem, -decide_eq_true_eq, -decide_eq_false_iff_not, hx, htl, hsA, hsB]) | omega | exact True.intro | (have h9 := hr (by assumption); omega) | fail
         all_goals clear hk k
         all_goals (show St.Less _ _; exact Less.of rfl (by simp [go_sem, typBad, hxA] <;> grind [ownT, partT]) (by simp [go_sem]))
        ·skip
         refine AW.cond rfl ?_ ?_
         ·intro hc; try simp at hc
          all_goals try (exfalso; omega; done)
          all_goals (
           refine rg [2,3] ?_
           intro k hk; simp -dsimp [go_sem, -decide_eq_true_eq, -decide_eq_false_iff_not, hx, htl, hsA, hsB]
           repeat' first | apply And.intro | refine hk _ ?_ | intro hg | omega | exact True.intro | (have h9 := hr (by assumption); omega) | fail
           all_goals clear hk k
           refine rt ?_
           first | (exfalso; have h8 := typU_hit hlt (by first | assumption | simpa using hc); rw [huk] at h8; cases h8) | (have hie : i = e.length := (by omega); simp [go_sem, Tryz.results119, hie, typesL_len]))
         ·intro hc; try simp at hc
          all_goals try (exfalso; omega; done)
          all_goals (
           refine AW.skipN (fun _ h => h) ?_
           refine rgN [0,4,5] (fun _ h => h) ?_
           intro k hk; simp -dsimp [go_sem, -decide_eq_true_eq, -decide_eq_false_iff_not, hx, htl, hsA, hsB]
           repeat' first | apply And.intro | refine hk _ ?_ | intro hg | omega | exact True.intro | (have h9 := hr (by assumption); omega) | fail
           all_goals clear hk k
           refine rgK ?_
           intro k hk; simp -dsimp [go_sem, -decide_eq_true_eq, -decide_eq_false_iff_not, hx, htl, hsA, hsB]
           repeat' first | apply And.intro | refine hk _ ?_ | intro hg | omega | exact True.intro | (have h9 := hr (by assumption); omega) | fail
           all_goals clear hk k
           show ∃ _, _
           have hw := wrapi hlt (by omega)
           have hub : typBad e i = false := by simpa using hc
           refine ⟨i + 1, ⟨by omega, typU_go hu hub⟩, by omega, Less.of rfl (by simp [go_sem, hw]) (by simp [go_sem, typesL_succ, hxA, htk] <;> (unfold ownT; first | omega | (split <;> omega)))⟩))
      ·intro hc; try simp at hc
       all_goals try (exfalso; omega; done)
       all_goals (
        refine AW.skipN (fun _ h => h) ?_
        refine AW.seq ?_
        have hpt : partT x.kind = _ := rfl
        refine AW.cut ⟨62, [(0, .isl 4 (e.map TNode.ro)), (4, .sl 9 1 0 i), (5, .int .i64 i), (8, .int .i64 (ownT x.kind)), (56, .bool (typBad e i))], [(9, some ⟨1, (typesL e i).map I1⟩)]⟩ ?_ ?_
        ·skip
         refine rgK ?_
         intro k hk; simp +contextual -dsimp (maxSteps := 2000000) [go_sem, -decide_eq_true_eq, -decide_eq_false_iff_not, hx, htl, hsA, hsB]
         repeat' first | apply And.intro | refine hk _ ?_ | (intro hg; try simp only [decide_eq_true_eq, decide_eq_false_iff_not] at hg) | (refine CallK.intro (dc_spec_l3Two _) ?_; simp +contextual -dsimp (maxSteps := 2000000) [go_sem, -decide_eq_true_eq, -decide_eq_false_iff_not, hx, htl, hsA, hsB]) | omega | exact True.intro | (have h9 := hr (by assumption); omega) | fail
         all_goals clear hk k
         all_goals (show St.Less _ _; exact Less.of rfl (by simp [go_sem, typBad, hxA] <;> grind [ownT, partT]) (by simp [go_sem]))
        ·skip
         refine AW.cond rfl ?_ ?_
         ·intro hc; try simp at hc
          all_goals try (exfalso; omega; done)
          all_goals (
           refine rg [2,3] ?_
           intro k hk; simp -dsimp [go_sem, -decide_eq_true_eq, -decide_eq_false_iff_not, hx, htl, hsA, hsB]
           repeat' first | apply And.intro | refine hk _ ?_ | intro hg | omega | exact True.intro | (have h9 := hr (by assumption); omega) | fail
           all_goals clear hk k
           refine rt ?_
           first | (exfalso; have h8 := typU_hit hlt (by first | assumption | simpa using hc); rw [huk] at h8; cases h8) | (have hie : i = e.length := (by omega); simp [go_sem, Tryz.results119, hie, typesL_len]))
         ·intro hc; try simp at hc
          all_goals try (exfalso; omega; done)
          all_goals (
           refine AW.skipN (fun _ h => h) ?_
           refine rgN [0,4,5] (fun _ h => h) ?_
           intro k hk; simp -dsimp [go_sem, -decide_eq_true_eq, -decide_eq_false_iff_not, hx, htl, hsA, hsB]
           repeat' first | apply And.intro | refine hk _ ?_ | intro hg | omega | exact True.intro | (have h9 := hr (by assumption); omega) | fail
           all_goals clear hk k
           refine rgK ?_
           intro k hk; simp -dsimp [go_sem, -decide_eq_true_eq, -decide_eq_false_iff_not, hx, htl, hsA, hsB]
           repeat' first | apply And.intro | refine hk _ ?_ | intro hg | omega | exact True.intro | (have h9 := hr (by assumption); omega) | fail
           all_goals clear hk k
           show ∃ _, _
           have hw := wrapi hlt (by omega)
           have hub : typBad e i = false := by simpa using hc
           refine ⟨i + 1, ⟨by omega, typU_go hu hub⟩, by omega, Less.of rfl (by simp [go_sem, hw]) (by simp [go_sem, typesL_succ, hxA, htk] <;> (unfold ownT; first | omega | (split <;> omega)))⟩)))
    ·intro hc; try simp at hc
     all_goals try (exfalso; omega; done)
     all_goals (
      refine AW.skipN (fun _ h => h) ?_
      refine AW.seq ?_
      refine rg [0,4,5,6,7,8,30] ?_
      intro k hk; simp -dsimp [go_sem, -decide_eq_true_eq, -decide_eq_false_iff_not, hx, htl, hsA, hsB]
      repeat' first | apply And.intro | refine hk _ ?_ | intro hg | omega | exact True.intro | (have h9 := hr (by assumption); omega) | fail
      all_goals clear hk k
      refine AW.cond rfl ?_ ?_
      ·intro hc; try simp at hc
       all_goals try (exfalso; omega; done)
       all_goals (
        refine rgN [0,4,5,6,7,8] (fun _ h => h) ?_
        intro k hk; simp -dsimp [go_sem, -decide_eq_true_eq, -decide_eq_false_iff_not, hx, htl, hsA, hsB]
        repeat' first | apply And.intro | refine hk _ ?_ | intro hg | omega | exact True.intro | (have h9 := hr (by assumption); omega) | fail
        all_goals clear hk k
        refine AW.seq ?_
        have hpt : partT x.kind = _ := rfl
        refine AW.cut ⟨62, [(0, .isl 4 (e.map TNode.ro)), (4, .sl 9 1 0 i), (5, .int .i64 i), (8, .int .i64 (ownT x.kind)), (56, .bool (typBad e i))], [(9, some ⟨1, (typesL e i).map I1⟩)]⟩ ?_ ?_
        ·skip
         refine rgK ?_
         intro k hk; simp +contextual -dsimp (maxSteps := 2000000) [go_sem, -decide_eq_true_eq, -decide_eq_false_iff_not, hx, htl, hsA, hsB]
         repeat' first | apply And.intro | refine hk _ ?_ | (intro hg; try simp only [decide_eq_true_eq, decide_eq_false_iff_not] at hg) | (refine CallK.intro (dc_spec_l3Two _) ?_; simp +contextual -dsimp (maxSteps := 2000000) [go_sem, -decide_eq_true_eq, -decide_eq_false_iff_not, hx, htl, hsA, hsB]) | omega | exact True.intro | (have h9 := hr (by assumption); omega) | fail
         all_goals clear hk k
         all_goals (show St.Less _ _; exact Less.of rfl (by simp [go_sem, typBad, hxA] <;> grind [ownT, partT]) (by simp [go_sem]))
        ·skip
         refine AW.cond rfl ?_ ?_
         ·intro hc; try simp at hc
          all_goals try (exfalso; omega; done)
          all_goals (
           refine rg [2,3] ?_
           intro k hk; simp -dsimp [go_sem, -decide_eq_true_eq, -decide_eq_false_iff_not, hx, htl, hsA, hsB]
           repeat' first | apply And.intro | refine hk _ ?_ | intro hg | omega | exact True.intro | (have h9 := hr (by assumption); omega) | fail
           all_goals clear hk k
           refine rt ?_
           first | (exfalso; have h8 := typU_hit hlt (by first | assumption | simpa using hc); rw [huk] at h8; cases h8) | (have hie : i = e.length := (by omega); simp [go_sem, Tryz.results119, hie, typesL_len]))
         ·intro hc; try simp at hc
          all_goals try (exfalso; omega; done)
          all_goals (
           refine AW.skipN (fun _ h => h) ?_
           refine rgN [0,4,5] (fun _ h => h) ?_
           intro k hk; simp -dsimp [go_sem, -decide_eq_true_eq, -decide_eq_false_iff_not, hx, htl, hsA, hsB]
           repeat' first | apply And.intro | refine hk _ ?_ | intro hg | omega | exact True.intro | (have h9 := hr (by assumption); omega) | fail
           all_goals clear hk k
           refine rgK ?_
           intro k hk; simp -dsimp [go_sem, -decide_eq_true_eq, -decide_eq_false_iff_not, hx, htl, hsA, hsB]
           repeat' first | apply And.intro | refine hk _ ?_ | intro hg | omega | exact True.intro | (have h9 := hr (by assumption); omega) | fail
           all_goals clear hk k
           show ∃ _, _
           have hw := wrapi hlt (by omega)
           have hub : typBad e i = false := by simpa using hc
           refine ⟨i + 1, ⟨by omega, typU_go hu hub⟩, by omega, Less.of rfl (by simp [go_sem, hw]) (by simp [go_sem, typesL_succ, hxA, htk] <;> (unfold ownT; first | omega | (split <;> omega)))⟩))
      ·intro hc; try simp at hc
       all_goals try (exfalso; omega; done)
       all_goals (
        refine AW.skipN (fun _ h => h) ?_
        refine AW.seq ?_
        have hpt : partT x.kind = _ := rfl
        refine AW.cut ⟨62, [(0, .isl 4 (e.map TNode.ro)), (4, .sl 9 1 0 i), (5, .int .i64 i), (8, .int .i64 (ownT x.kind)), (56, .bool (typBad e i))], [(9, some ⟨1, (typesL e i).map I1⟩)]⟩ ?_ ?_
        ·skip
         refine rgK ?_
         intro k hk; simp +contextual -dsimp (maxSteps := 2000000) [go_sem, -decide_eq_true_eq, -decide_eq_false_iff_not, hx, htl, hsA, hsB]
         repeat' first | apply And.intro | refine hk _ ?_ | (intro hg; try simp only [decide_eq_true_eq, decide_eq_false_iff_not] at hg) | (refine CallK.intro (dc_spec_l3Two _) ?_; simp +contextual -dsimp (maxSteps := 2000000) [go_sem, -decide_eq_true_eq, -decide_eq_false_iff_not, hx, htl, hsA, hsB]) | omega | exact True.intro | (have h9 := hr (by assumption); omega) | fail
         all_goals clear hk k
         all_goals (show St.Less _ _; exact Less.of rfl (by simp [go_sem, typBad, hxA] <;> grind [ownT, partT]) (by simp [go_sem]))
        ·skip
         refine AW.cond rfl ?_ ?_
         ·intro hc; try simp at hc
          all_goals try (exfalso; omega; done)
          all_goals (
           refine rg [2,3] ?_
           intro k hk; simp -dsimp [go_sem, -decide_eq_true_eq, -decide_eq_false_iff_not, hx, htl, hsA, hsB]
           repeat' first | apply And.intro | refine hk _ ?_ | intro hg | omega | exact True.intro | (have h9 := hr (by assumption); omega) | fail
           all_goals clear hk k
           refine rt ?_
           first | (exfalso; have h8 := typU_hit hlt (by first | assumption | simpa using hc); rw [huk] at h8; cases h8) | (have hie : i = e.length := (by omega); simp [go_sem, Tryz.results119, hie, typesL_len]))
         ·intro hc; try simp at hc
          all_goals try (exfalso; omega; done)
          all_goals (
           refine AW.skipN (fun _ h => h) ?_
           refine rgN [0,4,5] (fun _ h => h) ?_
           intro k hk; simp -dsimp [go_sem, -decide_eq_true_eq, -decide_eq_false_iff_not, hx, htl, hsA, hsB]
           repeat' first | apply And.intro | refine hk _ ?_ | intro hg | omega | exact True.intro | (have h9 := hr (by assumption); omega) | fail
           all_goals clear hk k
           refine rgK ?_
           intro k hk; simp -dsimp [go_sem, -decide_eq_true_eq, -decide_eq_false_iff_not, hx, htl, hsA, hsB]
           repeat' first | apply And.intro | refine hk _ ?_ | intro hg | omega | exact True.intro | (have h9 := hr (by assumption); omega) | fail
           all_goals clear hk k
           show ∃ _, _
           have hw := wrapi hlt (by omega)
           have hub : typBad e i = false := by simpa using hc
           refine ⟨i + 1, ⟨by omega, typU_go hu hub⟩, by omega, Less.of rfl (by simp [go_sem, hw]) (by simp [go_sem, typesL_succ, hxA, htk] <;> (unfold ownT; first | omega | (split <;> omega)))⟩))))
 ·intro hc; try simp at hc
  all_goals try (exfalso; omega; done)
  all_goals (
   refine AW.exitN (fun _ h => h) ?_
   refine rg [2,3] ?_
   intro k hk; simp -dsimp [go_sem, -decide_eq_true_eq, -decide_eq_false_iff_not]
   repeat' first | apply And.intro | refine hk _ ?_ | intro hg | omega | exact True.intro | (have h9 := hr (by assumption); omega) | fail
   all_goals clear hk k
   refine rt ?_
   first | (exfalso; have h8 := typU_hit hlt (by first | assumption | simpa using hc); rw [huk] at h8; cases h8) | (have hie : i = e.length := (by omega); simp [go_sem, Tryz.results119, hie, typesL_len]))
end Go.AM
namespace Go.AM
open Go.Proofs
theorem dc_spec_l3Type_f (e : List TNode) (he : e.length ≤ 9223372036854775807) (h0 : exprF e ≠ 0) : DC Tryz.prog 106 [.isl 4 (e.map TNode.ro)] (.tup [.int .i64 (typV e), .int .i64 (typC e)]) [] := by
 obtain ⟨hC, hV⟩ := typC_f h0
 refine DC.intro tiOk Tryz.func106 rfl rfl rfl rfl rfl rfl rfl rfl [] ?_
 refine rg [0] ?_
 intro k hk; simp -dsimp [go_sem, -decide_eq_true_eq, -decide_eq_false_iff_not, h0, hC, hV]
 repeat' first | apply And.intro | refine hk _ ?_ | intro hg | omega | exact True.intro
 all_goals clear hk k
 refine AW.seq ?_
 refine rg [0,4] ?_
 intro k hk; simp -dsimp (maxSteps := 2000000) [go_sem, -decide_eq_true_eq, -decide_eq_false_iff_not, h0, hC, hV]
 repeat' first | apply And.intro | refine hk _ ?_ | intro hg | (refine CallK.intro (dc_spec_l3Fault e he) ?_; simp -dsimp (maxSteps := 2000000) [go_sem, -decide_eq_true_eq, -decide_eq_false_iff_not, h0, hC, hV]) | omega | exact True.intro
 all_goals clear hk k
 refine rg [0,4,10] ?_
 intro k hk; simp -dsimp [go_sem, -decide_eq_true_eq, -decide_eq_false_iff_not, h0, hC, hV]
 repeat' first | apply And.intro | refine hk _ ?_ | intro hg | omega | exact True.intro
 all_goals clear hk k
 refine AW.cond rfl ?_ ?_
 ·intro hc; try simp at hc
  all_goals try (exfalso; contradiction; done)
  all_goals (
   refine rg [2,3] ?_
   intro k hk; simp -dsimp [go_sem, -decide_eq_true_eq, -decide_eq_false_iff_not, h0, hC, hV]
   repeat' first | apply And.intro | refine hk _ ?_ | intro hg | omega | exact True.intro
   all_goals clear hk k
   refine rt ?_
   simp [go_sem, Tryz.results106, hC, hV])
 ·intro hc; try simp at hc
  all_goals try (exfalso; contradiction; done)
  all_goals (
   refine AW.skipN (fun _ h => h) ?_
   refine rg [5,6] ?_
   intro k hk; simp -dsimp (maxSteps := 2000000) [go_sem, -decide_eq_true_eq, -decide_eq_false_iff_not, h0, hC, hV]
   repeat' first | apply And.intro | refine hk _ ?_ | intro hg | (refine CallK.intro (skip) ?_; simp -dsimp (maxSteps := 2000000) [go_sem, -decide_eq_true_eq, -decide_eq_false_iff_not, h0, hC, hV]) | omega | exact True.intro
   all_goals clear hk k
   refine AW.seq ?_
   refine rg [5,18] ?_
   intro k hk; simp -dsimp [go_sem, -decide_eq_true_eq, -decide_eq_false_iff_not, h0, hC, hV]
   repeat' first | apply And.intro | refine hk _ ?_ | intro hg | omega | exact True.intro
   all_goals clear hk k
   refine AW.cond rfl ?_ ?_
   ·intro hc; try simp at hc
    all_goals try (exfalso; contradiction; done)
    all_goals (
     refine rg [2,3] ?_
     intro k hk; simp -dsimp [go_sem, -decide_eq_true_eq, -decide_eq_false_iff_not, h0, hC, hV]
     repeat' first | apply And.intro | refine hk _ ?_ | intro hg | omega | exact True.intro
     all_goals clear hk k
     refine rt ?_
     simp [go_sem, Tryz.results106, hC, hV])
   ·intro hc; try simp at hc
    all_goals try (exfalso; contradiction; done)
    all_goals (
     refine AW.skipN (fun _ h => h) ?_
     have htl := typesL_len e e.length
     have hlast := typesL_at (e := e) (show e.length - 1 < e.length by omega)
     have hwl : IntKind.wrap .i64 ((e.length : Int) - 1) = (e.length : Int) - 1 := wrap64 (by omega) (by omega)
     have hwt : ((e.length : Int) - 1).toNat = e.length - 1 := by omega
     refine rg [2,3] ?_
     intro k hk; simp -dsimp (maxSteps := 2000000) [go_sem, -decide_eq_true_eq, -decide_eq_false_iff_not, h0, hC, hV, htl, hlast, hwl, hwt]
     repeat' first | apply And.intro | refine hk _ ?_ | intro hg | omega | exact True.intro
     all_goals clear hk k
     refine rt ?_
     simp [go_sem, Tryz.results106, hC, hV]))
theorem dc_spec_l3Type_b (e : List TNode) (he : e.length ≤ 9223372036854775807) (h0 : exprF e = 0) (hub : typU e e.length = true) : DC Tryz.prog 106 [.isl 4 (e.map TNode.ro)] (.tup [.int .i64 (typV e), .int .i64 (typC e)]) [] := by
 obtain ⟨hR, hP⟩ := exprF_zero h0
 have hlen := inR_iff.1 hR
 obtain ⟨hC, hV⟩ := typC_b h0 hub
 refine DC.intro tiOk Tryz.func106 rfl rfl rfl rfl rfl rfl rfl rfl [] ?_
 refine rg [0] ?_
 intro k hk; simp -dsimp [go_sem, -decide_eq_true_eq, -decide_eq_false_iff_not, h0, hC, hV]
 repeat' first | apply And.intro | refine hk _ ?_ | intro hg | omega | exact True.intro
 all_goals clear hk k
 refine AW.seq ?_
 refine rg [0,4] ?_
 intro k hk; simp -dsimp (maxSteps := 2000000) [go_sem, -decide_eq_true_eq, -decide_eq_false_iff_not, h0, hC, hV]
 repeat' first | apply And.intro | refine hk _ ?_ | intro hg | (refine CallK.intro (dc_spec_l3Fault e he) ?_; simp -dsimp (maxSteps := 2000000) [go_sem, -decide_eq_true_eq, -decide_eq_false_iff_not, h0, hC, hV]) | omega | exact True.intro
 all_goals clear hk k
 refine rg [0,4,10] ?_
 intro k hk; simp -dsimp [go_sem, -decide_eq_true_eq, -decide_eq_false_iff_not, h0, hC, hV]
 repeat' first | apply And.intro | refine hk _ ?_ | intro hg | omega | exact True.intro
 all_goals clear hk k
 refine AW.cond rfl ?_ ?_
 ·intro hc; try simp at hc
  all_goals try (exfalso; contradiction; done)
  all_goals (
   refine rg [2,3] ?_
   intro k hk; simp -dsimp [go_sem, -decide_eq_true_eq, -decide_eq_false_iff_not, h0, hC, hV]
   repeat' first | apply And.intro | refine hk _ ?_ | intro hg | omega | exact True.intro
   all_goals clear hk k
   refine rt ?_
   simp [go_sem, Tryz.results106, hC, hV])
 ·intro hc; try simp at hc
  all_goals try (exfalso; contradiction; done)
  all_goals (
   refine AW.skipN (fun _ h => h) ?_
   refine rg [5,6] ?_
   intro k hk; simp -dsimp (maxSteps := 2000000) [go_sem, -decide_eq_true_eq, -decide_eq_false_iff_not, h0, hC, hV]
   repeat' first | apply And.intro | refine hk _ ?_ | intro hg | (refine CallK.intro (dc_spec_l3Types_b e hP (by omega) hub) ?_; simp -dsimp (maxSteps := 2000000) [go_sem, -decide_eq_true_eq, -decide_eq_false_iff_not, h0, hC, hV]) | omega | exact True.intro
   all_goals clear hk k
   refine AW.seq ?_
   refine rg [5,18] ?_
   intro k hk; simp -dsimp [go_sem, -decide_eq_true_eq, -decide_eq_false_iff_not, h0, hC, hV]
   repeat' first | apply And.intro | refine hk _ ?_ | intro hg | omega | exact True.intro
   all_goals clear hk k
   refine AW.cond rfl ?_ ?_
   ·intro hc; try simp at hc
    all_goals try (exfalso; contradiction; done)
    all_goals (
     refine rg [2,3] ?_
     intro k hk; simp -dsimp [go_sem, -decide_eq_true_eq, -decide_eq_false_iff_not, h0, hC, hV]
     repeat' first | apply And.intro | refine hk _ ?_ | intro hg | omega | exact True.intro
     all_goals clear hk k
     refine rt ?_
     simp [go_sem, Tryz.results106, hC, hV])
   ·intro hc; try simp at hc
    all_goals try (exfalso; contradiction; done)
    all_goals (
     refine AW.skipN (fun _ h => h) ?_
     have htl := typesL_len e e.length
     have hlast := typesL_at (e := e) (show e.length - 1 < e.length by omega)
     have hwl : IntKind.wrap .i64 ((e.length : Int) - 1) = (e.length : Int) - 1 := wrap64 (by omega) (by omega)
     have hwt : ((e.length : Int) - 1).toNat = e.length - 1 := by omega
     refine rg [2,3] ?_
     intro k hk; simp -dsimp (maxSteps := 2000000) [go_sem, -decide_eq_true_eq, -decide_eq_false_iff_not, h0, hC, hV, htl, hlast, hwl, hwt]
     repeat' first | apply And.intro | refine hk _ ?_ | intro hg | omega | exact True.intro
     all_goals clear hk k
     refine rt ?_
     simp [go_sem, Tryz.results106, hC, hV]))
theorem dc_spec_l3Type_k (e : List TNode) (he : e.length ≤ 9223372036854775807) (h0 : exprF e = 0) (huk : typU e e.length = false) : DC Tryz.prog 106 [.isl 4 (e.map TNode.ro)] (.tup [.int .i64 (typV e), .int .i64 (typC e)]) [] := by
 obtain ⟨hR, hP⟩ := exprF_zero h0
 have hlen := inR_iff.1 hR
 obtain ⟨hC, hV⟩ := typC_k h0 huk
 refine DC.intro tiOk Tryz.func106 rfl rfl rfl rfl rfl rfl rfl rfl [] ?_
 refine rg [0] ?_
 intro k hk; simp -dsimp [go_sem, -decide_eq_true_eq, -decide_eq_false_iff_not, h0, hC, hV]
 repeat' first | apply And.intro | refine hk _ ?_ | intro hg | omega | exact True.intro
 all_goals clear hk k
 refine AW.seq ?_
 refine rg [0,4] ?_
 intro k hk; simp -dsimp (maxSteps := 2000000) [go_sem, -decide_eq_true_eq, -decide_eq_false_iff_not, h0, hC, hV]
 repeat' first | apply And.intro | refine hk _ ?_ | intro hg | (refine CallK.intro (dc_spec_l3Fault e he) ?_; simp -dsimp (maxSteps := 2000000) [go_sem, -decide_eq_true_eq, -decide_eq_false_iff_not, h0, hC, hV]) | omega | exact True.intro
 all_goals clear hk k
 refine rg [0,4,10] ?_
 intro k hk; simp -dsimp [go_sem, -decide_eq_true_eq, -decide_eq_false_iff_not, h0, hC, hV]
 repeat' first | apply And.intro | refine hk _ ?_ | intro hg | omega | exact True.intro
 all_goals clear hk k
 refine AW.cond rfl ?_ ?_
 ·intro hc; try simp at hc
  all_goals try (exfalso; contradiction; done)
  all_goals (
   refine rg [2,3] ?_
   intro k hk; simp -dsimp [go_sem, -decide_eq_true_eq, -decide_eq_false_iff_not, h0, hC, hV]
   repeat' first | apply And.intro | refine hk _ ?_ | intro hg | omega | exact True.intro
   all_goals clear hk k
   refine rt ?_
   simp [go_sem, Tryz.results106, hC, hV])
 ·intro hc; try simp at hc
  all_goals try (exfalso; contradiction; done)
  all_goals (
   refine AW.skipN (fun _ h => h) ?_
   refine rg [5,6] ?_
   intro k hk; simp -dsimp (maxSteps := 2000000) [go_sem, -decide_eq_true_eq, -decide_eq_false_iff_not, h0, hC, hV]
   repeat' first | apply And.intro | refine hk _ ?_ | intro hg | (refine CallK.intro (dc_spec_l3Types_k e hP (by omega) huk) ?_; simp -dsimp (maxSteps := 2000000) [go_sem, -decide_eq_true_eq, -decide_eq_false_iff_not, h0, hC, hV]) | omega | exact True.intro
   all_goals clear hk k
   refine AW.seq ?_
   refine rg [5,18] ?_
   intro k hk; simp -dsimp [go_sem, -decide_eq_true_eq, -decide_eq_false_iff_not, h0, hC, hV]
   repeat' first | apply And.intro | refine hk _ ?_ | intro hg | omega | exact True.intro
   all_goals clear hk k
   refine AW.cond rfl ?_ ?_
   ·intro hc; try simp at hc
    all_goals try (exfalso; contradiction; done)
    all_goals (
     refine rg [2,3] ?_
     intro k hk; simp -dsimp [go_sem, -decide_eq_true_eq, -decide_eq_false_iff_not, h0, hC, hV]
     repeat' first | apply And.intro | refine hk _ ?_ | intro hg | omega | exact True.intro
     all_goals clear hk k
     refine rt ?_
     simp [go_sem, Tryz.results106, hC, hV])
   ·intro hc; try simp at hc
    all_goals try (exfalso; contradiction; done)
    all_goals (
     refine AW.skipN (fun _ h => h) ?_
     have htl := typesL_len e e.length
     have hlast := typesL_at (e := e) (show e.length - 1 < e.length by omega)
     have hwl : IntKind.wrap .i64 ((e.length : Int) - 1) = (e.length : Int) - 1 := wrap64 (by omega) (by omega)
     have hwt : ((e.length : Int) - 1).toNat = e.length - 1 := by omega
     refine rg [2,3] ?_
     intro k hk; simp -dsimp (maxSteps := 2000000) [go_sem, -decide_eq_true_eq, -decide_eq_false_iff_not, h0, hC, hV, htl, hlast, hwl, hwt]
     repeat' first | apply And.intro | refine hk _ ?_ | intro hg | omega | exact True.intro
     all_goals clear hk k
     refine rt ?_
     simp [go_sem, Tryz.results106, hC, hV]))
theorem dc_spec_l3Type (e : List TNode) (he : e.length ≤ 9223372036854775807) : DC Tryz.prog 106 [.isl 4 (e.map TNode.ro)] (.tup [.int .i64 (typV e), .int .i64 (typC e)]) [] := by
  by_cases h0 : exprF e = 0
  · by_cases hu : typU e e.length = true
    · exact dc_spec_l3Type_b e he h0 hu
    · exact dc_spec_l3Type_k e he h0 (by simpa using hu)
  · exact dc_spec_l3Type_f e he h0
theorem dc_spec_l4Typed (e : List TNode) (w : Int) (he : e.length ≤ 9223372036854775807) : DC Tryz.prog 83 [.isl 4 (e.map TNode.ro), .int .i64 w] (.int .i64 (typF e w)) [] := by
 refine DC.intro tiOk Tryz.func83 rfl rfl rfl rfl rfl rfl rfl rfl [] ?_
 refine rgA [0,1] ?_
 refine AW.seq ?_
 refine rgA [0,1,9] ?_
 refine AW.cond rfl ?_ ?_
 ·intro hc; try simp at hc
  all_goals (
   refine rgA [4] ?_
   refine rt ?_
   simp [go_sem, Tryz.results83, typF, firstC_cons, firstC_nil] <;> grind)
 ·intro hc; try simp at hc
  all_goals (
   refine AW.skipN (fun _ h => h) ?_
   refine rg [1,5,6] ?_
   intro k hk; simp -dsimp (maxSteps := 2000000) [go_sem, -decide_eq_true_eq, -decide_eq_false_iff_not]
   repeat' first | apply And.intro | refine hk _ ?_ | intro hg | (refine CallK.intro (dc_spec_l3Type e he) ?_; simp -dsimp (maxSteps := 2000000) [go_sem, -decide_eq_true_eq, -decide_eq_false_iff_not]) | omega | exact True.intro
   all_goals clear hk k
   refine AW.seq ?_
   refine rgA [1,5,6,16] ?_
   refine AW.cond rfl ?_ ?_
   ·intro hc; try simp at hc
    all_goals (
     refine rgA [4] ?_
     refine rt ?_
     simp [go_sem, Tryz.results83, typF, firstC_cons, firstC_nil] <;> grind)
   ·intro hc; try simp at hc
    all_goals (
     refine AW.skipN (fun _ h => h) ?_
     refine AW.seq ?_
     refine rgA [20] ?_
     refine AW.cond rfl ?_ ?_
     ·intro hc; try simp at hc
      all_goals (
       refine rgA [4] ?_
       refine rt ?_
       simp [go_sem, Tryz.results83, typF, firstC_cons, firstC_nil] <;> grind)
     ·intro hc; try simp at hc
      all_goals (
       refine AW.skipN (fun _ h => h) ?_
       refine rgA [4] ?_
       refine rt ?_
       simp [go_sem, Tryz.results83, typF, firstC_cons, firstC_nil] <;> grind)))
theorem dc_spec_l1Name (s : List UInt8) (hs : s.length ≤ 9223372036854775807) : DC Tryz.prog 101 [.str s] (.int .i64 (nameF s)) [] := by
 refine DC.intro tiOk Tryz.func101 rfl rfl rfl rfl rfl rfl rfl rfl [] ?_
 refine rgA [0] ?_
 refine AW.seq ?_
 refine rgA [0,3] ?_
 refine AW.block ?_
 refine AW.loopI (fun i : Nat => ⟨25, [(0, .str s), (3, .int .i64 i)], []⟩) (fun i => i ≤ s.length ∧ (s.take i).all isLow = true) (fun i => s.length - i) (0) (by simp) (Less.of rfl (by simp [go_sem]) (by simp [go_sem])) ?_
 rintro i ⟨hi, hall⟩
 refine AW.seq ?_
 refine rgA [0,3,7] ?_
 refine AW.cond rfl ?_ ?_
 ·intro hc; try simp at hc
  all_goals (
   have hlt : i < s.length := by assumption
   obtain ⟨x, hx⟩ := at_some hlt
   refine AW.skipN (fun _ h => h) ?_
   refine AW.seq ?_
   refine AW.block ?_
   refine rg [0,3,19] ?_
   intro k hk; simp +contextual -dsimp (maxSteps := 2000000) [go_sem, -decide_eq_true_eq, -decide_eq_false_iff_not, hx]
   repeat' first | apply And.intro | refine hk _ ?_ | (intro hg; try simp only [decide_eq_true_eq, decide_eq_false_iff_not] at hg) | omega | exact True.intro
   all_goals clear hk k
   all_goals (
    refine AW.cond rfl ?_ ?_
    ·intro hc; try simp at hc
     all_goals (
      refine rg [2] ?_
      intro k hk; simp -dsimp [go_sem, -decide_eq_true_eq, -decide_eq_false_iff_not, hx]
      repeat' first | apply And.intro | refine hk _ ?_ | intro hg | omega | exact True.intro
      all_goals clear hk k
      refine rt ?_
      first | (have hr := all_not (p := isLow) hx (by simp [isLow]; omega); simp [go_sem, Tryz.results101, nameF, hr]; done) | (have hr := all_end (p := isLow) (show s.length ≤ i by omega) hall; simp [go_sem, Tryz.results101, nameF, hr] at * <;> grind))
    ·intro hc; try simp at hc
     all_goals (
      refine AW.skipN (fun _ h => h) ?_
      refine rgK ?_
      intro k hk; simp -dsimp [go_sem, -decide_eq_true_eq, -decide_eq_false_iff_not, hx]
      repeat' first | apply And.intro | refine hk _ ?_ | intro hg | omega | exact True.intro
      all_goals clear hk k
      show ∃ _, _
      have hw := wrapi hlt (by omega)
      refine ⟨i + 1, ⟨by omega, by rw [all_take hx hall]; simp [isLow]; omega⟩, by omega, Less.of rfl (by simp [go_sem, hw]) (by simp [go_sem])⟩)))
 ·intro hc; try simp at hc
  all_goals (
   refine AW.exitN (fun _ h => h) ?_
   refine AW.seq ?_
   refine rgA [0,21] ?_
   refine AW.cond rfl ?_ ?_
   ·intro hc; try simp at hc
    all_goals (
     refine rgA [2] ?_
     refine rt ?_
     first | (have hr := all_not (p := isLow) hx (by simp [isLow]; omega); simp [go_sem, Tryz.results101, nameF, hr]; done) | (have hr := all_end (p := isLow) (show s.length ≤ i by omega) hall; simp [go_sem, Tryz.results101, nameF, hr] at * <;> grind))
   ·intro hc; try simp at hc
    all_goals (
     refine AW.skipN (fun _ h => h) ?_
     refine AW.seq ?_
     refine rgA [24] ?_
     refine AW.cond rfl ?_ ?_
     ·intro hc; try simp at hc
      all_goals (
       refine rgA [2] ?_
       refine rt ?_
       first | (have hr := all_not (p := isLow) hx (by simp [isLow]; omega); simp [go_sem, Tryz.results101, nameF, hr]; done) | (have hr := all_end (p := isLow) (show s.length ≤ i by omega) hall; simp [go_sem, Tryz.results101, nameF, hr] at * <;> grind))
     ·intro hc; try simp at hc
      all_goals (
       refine AW.skipN (fun _ h => h) ?_
       refine rgA [2] ?_
       refine rt ?_
       first | (have hr := all_not (p := isLow) hx (by simp [isLow]; omega); simp [go_sem, Tryz.results101, nameF, hr]; done) | (have hr := all_end (p := isLow) (show s.length ≤ i by omega) hall; simp [go_sem, Tryz.results101, nameF, hr] at * <;> grind))))
end Go.AM
namespace Go.AM
open Go.Proofs
theorem dc_spec_l4One (p : List TStep) (hp : 1 ≤ p.length ∧ p.length ≤ 24) (hg : ∀ e ∈ p, e.gok) (i : Nat) (hi : i < p.length) (h1 : ∀ k, k < i → oneF p k = 0) : DC Tryz.prog 81 [.isl 6 (p.map TStep.ro), .int .i64 (i : Nat)] (.int .i64 (oneF p i)) [] := by
 obtain ⟨x, hx⟩ := at_some hi
 obtain ⟨g0, g1, g2⟩ := hg x (List.mem_of_getElem? hx)
 have hl := ones_ok i (by omega) h1
 have hL : ((pars p).take i).length = i := take_len (by omega)
 have hxo := oneF_at hx
 have hwi : IntKind.wrap .i64 ((i : Int) - 1) = (i : Int) - 1 := wrap64 (by omega) (by omega)
 have hdi : (decide ((i : Int) = 0)) = decide (i = 0) := by by_cases h : i = 0 <;> simp [h]
 refine DC.intro tiOk Tryz.func81 rfl rfl rfl rfl rfl rfl rfl rfl [] ?_
 refine rg [0,1] ?_
 intro k hk; simp -dsimp [go_sem, -decide_eq_true_eq, -decide_eq_false_iff_not, hx, hwi]
 repeat' first | apply And.intro | refine hk _ ?_ | intro hg | omega | exact True.intro
 all_goals clear hk k
 refine rg [0,1,5] ?_
 intro k hk; simp -dsimp [go_sem, -decide_eq_true_eq, -decide_eq_false_iff_not, hx, hwi]
 repeat' first | apply And.intro | refine hk _ ?_ | intro hg | omega | exact True.intro
 all_goals clear hk k
 refine AW.seq ?_
 refine AW.cut ⟨82, [(0, .isl 6 (p.map TStep.ro)), (1, .int .i64 (i : Nat)), (5, .ip x.ro), (20, .bool (decide (inR x.kind 1 8 = false ∨ alien x = true)))], []⟩ ?_ ?_
 ·skip
  refine rgK ?_
  intro k hk; simp +contextual -dsimp (maxSteps := 2000000) [go_sem, -decide_eq_true_eq, -decide_eq_false_iff_not, hx, hwi]
  repeat' first | apply And.intro | refine hk _ ?_ | (intro hg; try simp only [decide_eq_true_eq, decide_eq_false_iff_not] at hg) | ((first | refine CallK.intro (dc_spec_l1In _ _ _) ?_ | refine CallK.intro (dc_spec_l4Bare x ⟨g0, g1, g2⟩) ?_); simp +contextual -dsimp (maxSteps := 2000000) [go_sem, -decide_eq_true_eq, -decide_eq_false_iff_not, hx, hwi]) | omega | exact True.intro
  all_goals clear hk k
  all_goals (show St.Less _ _; exact Less.of rfl (by simp [go_sem] <;> first | omega | grind) (by simp [go_sem]))
 ·skip
  refine AW.cond rfl ?_ ?_
  ·intro hc; try simp at hc
   all_goals try (exfalso; omega; done)
   all_goals (
    refine rg [4] ?_
    intro k hk; simp -dsimp [go_sem, -decide_eq_true_eq, -decide_eq_false_iff_not, hx, hwi]
    repeat' first | apply And.intro | refine hk _ ?_ | intro hg | omega | exact True.intro
    all_goals clear hk k
    refine rt ?_
    rw [hxo]
    first | (have hs : stepF ((pars p).take i) x = 1 := (by have := @inR_iff x.kind 1 8; unfold stepF; grind); rw [hs]; simp [go_sem, Tryz.results81]; done) | (have hs : stepF ((pars p).take i) x = 3 := (by have := @inR_iff x.kind 1 8; unfold stepF; grind); rw [hs]; simp [go_sem, Tryz.results81]; done) | (have hs : stepF ((pars p).take i) x = 2 := (by have := @inR_iff x.kind 1 8; unfold stepF; grind); rw [hs]; simp [go_sem, Tryz.results81]; done) | (have hs : stepF ((pars p).take i) x = nameF x.name := (by have := @inR_iff x.kind 1 8; unfold stepF; grind); rw [hs]; simp [go_sem, Tryz.results81]; done) | (have hs : stepF ((pars p).take i) x = exprF x.expr := (by have := @inR_iff x.kind 1 8; unfold stepF; grind); rw [hs]; simp [go_sem, Tryz.results81]; done) | (have hs : stepF ((pars p).take i) x = 0 := (by have := @inR_iff x.kind 1 8; unfold stepF; unfold alien at *; unfold lowA highA at *; grind); rw [hs]; simp [go_sem, Tryz.results81]))
  ·intro hc; try simp at hc
   all_goals try (exfalso; omega; done)
   all_goals (
    refine AW.skipN (fun _ h => h) ?_
    refine AW.seq ?_
    refine AW.cut ⟨82, [(0, .isl 6 (p.map TStep.ro)), (1, .int .i64 (i : Nat)), (5, .ip x.ro), (43, .bool (decide (parF ((pars p).take i) x.par = 3)))], []⟩ ?_ ?_
    ·skip
     refine rgK ?_
     intro k hk; simp +contextual -dsimp (maxSteps := 2000000) [go_sem, -decide_eq_true_eq, -decide_eq_false_iff_not, hx, hwi]
     repeat' first | apply And.intro | refine hk _ ?_ | (intro hg; try simp only [decide_eq_true_eq, decide_eq_false_iff_not] at hg) | (refine CallK.intro (dc_spec_l1In _ _ _) ?_; simp +contextual -dsimp (maxSteps := 2000000) [go_sem, -decide_eq_true_eq, -decide_eq_false_iff_not, hx, hwi]) | omega | exact True.intro
     all_goals clear hk k
     all_goals (show St.Less _ _; exact Less.of rfl (by simp [go_sem, parF, hL, inR] at * <;> grind) (by simp [go_sem]))
    ·skip
     refine AW.cond rfl ?_ ?_
     ·intro hc; try simp at hc
      all_goals try (exfalso; omega; done)
      all_goals (
       refine rg [4] ?_
       intro k hk; simp -dsimp [go_sem, -decide_eq_true_eq, -decide_eq_false_iff_not, hx, hwi]
       repeat' first | apply And.intro | refine hk _ ?_ | intro hg | omega | exact True.intro
       all_goals clear hk k
       refine rt ?_
       rw [hxo]
       first | (have hs : stepF ((pars p).take i) x = 1 := (by have := @inR_iff x.kind 1 8; unfold stepF; grind); rw [hs]; simp [go_sem, Tryz.results81]; done) | (have hs : stepF ((pars p).take i) x = 3 := (by have := @inR_iff x.kind 1 8; unfold stepF; grind); rw [hs]; simp [go_sem, Tryz.results81]; done) | (have hs : stepF ((pars p).take i) x = 2 := (by have := @inR_iff x.kind 1 8; unfold stepF; grind); rw [hs]; simp [go_sem, Tryz.results81]; done) | (have hs : stepF ((pars p).take i) x = nameF x.name := (by have := @inR_iff x.kind 1 8; unfold stepF; grind); rw [hs]; simp [go_sem, Tryz.results81]; done) | (have hs : stepF ((pars p).take i) x = exprF x.expr := (by have := @inR_iff x.kind 1 8; unfold stepF; grind); rw [hs]; simp [go_sem, Tryz.results81]; done) | (have hs : stepF ((pars p).take i) x = 0 := (by have := @inR_iff x.kind 1 8; unfold stepF; unfold alien at *; unfold lowA highA at *; grind); rw [hs]; simp [go_sem, Tryz.results81]))
     ·intro hc; try simp at hc
      all_goals try (exfalso; omega; done)
      all_goals (
       refine AW.skipN (fun _ h => h) ?_
       refine AW.seq ?_
       refine AW.cut ⟨82, [(0, .isl 6 (p.map TStep.ro)), (1, .int .i64 (i : Nat)), (5, .ip x.ro), (51, .bool (decide (parF ((pars p).take i) x.par = 1)))], []⟩ ?_ ?_
       ·skip
        refine rgK ?_
        intro k hk; simp +contextual -dsimp (maxSteps := 2000000) [go_sem, -decide_eq_true_eq, -decide_eq_false_iff_not, hx, hwi]
        repeat' first | apply And.intro | refine hk _ ?_ | (intro hg; try simp only [decide_eq_true_eq, decide_eq_false_iff_not] at hg) | (refine CallK.intro (dc_spec_l4Line p hp.2 i x hx (by omega) hl) ?_; simp +contextual -dsimp (maxSteps := 2000000) [go_sem, -decide_eq_true_eq, -decide_eq_false_iff_not, hx, hwi]) | omega | exact True.intro
        all_goals clear hk k
        all_goals (show St.Less _ _; exact Less.of rfl (by simp [go_sem, parF, hL] at * <;> grind) (by simp [go_sem]))
       ·skip
        refine AW.cond rfl ?_ ?_
        ·intro hc; try simp at hc
         all_goals try (exfalso; omega; done)
         all_goals (
          refine rg [4] ?_
          intro k hk; simp -dsimp [go_sem, -decide_eq_true_eq, -decide_eq_false_iff_not, hx, hwi]
          repeat' first | apply And.intro | refine hk _ ?_ | intro hg | omega | exact True.intro
          all_goals clear hk k
          refine rt ?_
          rw [hxo]
          first | (have hs : stepF ((pars p).take i) x = 1 := (by have := @inR_iff x.kind 1 8; unfold stepF; grind); rw [hs]; simp [go_sem, Tryz.results81]; done) | (have hs : stepF ((pars p).take i) x = 3 := (by have := @inR_iff x.kind 1 8; unfold stepF; grind); rw [hs]; simp [go_sem, Tryz.results81]; done) | (have hs : stepF ((pars p).take i) x = 2 := (by have := @inR_iff x.kind 1 8; unfold stepF; grind); rw [hs]; simp [go_sem, Tryz.results81]; done) | (have hs : stepF ((pars p).take i) x = nameF x.name := (by have := @inR_iff x.kind 1 8; unfold stepF; grind); rw [hs]; simp [go_sem, Tryz.results81]; done) | (have hs : stepF ((pars p).take i) x = exprF x.expr := (by have := @inR_iff x.kind 1 8; unfold stepF; grind); rw [hs]; simp [go_sem, Tryz.results81]; done) | (have hs : stepF ((pars p).take i) x = 0 := (by have := @inR_iff x.kind 1 8; unfold stepF; unfold alien at *; unfold lowA highA at *; grind); rw [hs]; simp [go_sem, Tryz.results81]))
        ·intro hc; try simp at hc
         all_goals try (exfalso; omega; done)
         all_goals (
          refine AW.skipN (fun _ h => h) ?_
          refine AW.seq ?_
          have hz : parF ((pars p).take i) x.par = 0 := by have : parF ((pars p).take i) x.par = 0 ∨ parF ((pars p).take i) x.par = 1 ∨ parF ((pars p).take i) x.par = 3 := (by unfold parF; split; exact Or.inr (Or.inr rfl); split; exact Or.inr (Or.inl rfl); exact Or.inl rfl); grind
          have hpo := parF_ok hz
          have htn := take_next hx
          have hl2 : ParOk ((pars p).take (i + 1)) := by rw [htn]; exact hl.snoc hpo.1 hpo.2.1
          refine rg [5,55] ?_
          intro k hk; simp -dsimp (maxSteps := 2000000) [go_sem, -decide_eq_true_eq, -decide_eq_false_iff_not, hx, hwi, htn]
          repeat' first | apply And.intro | refine hk _ ?_ | intro hg | (refine CallK.intro (dc_spec_l4Deep p hp.2 (i + 1) (by omega) hl2 (i : Int) (by omega)) ?_; simp -dsimp (maxSteps := 2000000) [go_sem, -decide_eq_true_eq, -decide_eq_false_iff_not, hx, hwi, htn]) | omega | exact True.intro
          all_goals clear hk k
          refine AW.cond rfl ?_ ?_
          ·intro hc; try simp at hc
           all_goals try (exfalso; omega; done)
           all_goals (
            refine rg [4] ?_
            intro k hk; simp -dsimp [go_sem, -decide_eq_true_eq, -decide_eq_false_iff_not, hx, hwi]
            repeat' first | apply And.intro | refine hk _ ?_ | intro hg | omega | exact True.intro
            all_goals clear hk k
            refine rt ?_
            rw [hxo]
            first | (have hs : stepF ((pars p).take i) x = 1 := (by have := @inR_iff x.kind 1 8; unfold stepF; grind); rw [hs]; simp [go_sem, Tryz.results81]; done) | (have hs : stepF ((pars p).take i) x = 3 := (by have := @inR_iff x.kind 1 8; unfold stepF; grind); rw [hs]; simp [go_sem, Tryz.results81]; done) | (have hs : stepF ((pars p).take i) x = 2 := (by have := @inR_iff x.kind 1 8; unfold stepF; grind); rw [hs]; simp [go_sem, Tryz.results81]; done) | (have hs : stepF ((pars p).take i) x = nameF x.name := (by have := @inR_iff x.kind 1 8; unfold stepF; grind); rw [hs]; simp [go_sem, Tryz.results81]; done) | (have hs : stepF ((pars p).take i) x = exprF x.expr := (by have := @inR_iff x.kind 1 8; unfold stepF; grind); rw [hs]; simp [go_sem, Tryz.results81]; done) | (have hs : stepF ((pars p).take i) x = 0 := (by have := @inR_iff x.kind 1 8; unfold stepF; unfold alien at *; unfold lowA highA at *; grind); rw [hs]; simp [go_sem, Tryz.results81]))
          ·intro hc; try simp at hc
           all_goals try (exfalso; omega; done)
           all_goals (
            refine AW.skipN (fun _ h => h) ?_
            refine AW.seq ?_
            refine rg [5,60] ?_
            intro k hk; simp -dsimp [go_sem, -decide_eq_true_eq, -decide_eq_false_iff_not, hx, hwi]
            repeat' first | apply And.intro | refine hk _ ?_ | intro hg | omega | exact True.intro
            all_goals clear hk k
            refine AW.cond rfl ?_ ?_
            ·intro hc; try simp at hc
             all_goals try (exfalso; omega; done)
             all_goals (
              refine rg [5,6] ?_
              intro k hk; simp -dsimp (maxSteps := 2000000) [go_sem, -decide_eq_true_eq, -decide_eq_false_iff_not, hx, hwi]
              repeat' first | apply And.intro | refine hk _ ?_ | intro hg | (refine CallK.intro (dc_spec_l1Name x.name g0) ?_; simp -dsimp (maxSteps := 2000000) [go_sem, -decide_eq_true_eq, -decide_eq_false_iff_not, hx, hwi]) | omega | exact True.intro
              all_goals clear hk k
              refine rg [5,6,67] ?_
              intro k hk; simp -dsimp [go_sem, -decide_eq_true_eq, -decide_eq_false_iff_not, hx, hwi]
              repeat' first | apply And.intro | refine hk _ ?_ | intro hg | omega | exact True.intro
              all_goals clear hk k
              refine AW.cond rfl ?_ ?_
              ·intro hc; try simp at hc
               all_goals try (exfalso; omega; done)
               all_goals (
                refine rg [4] ?_
                intro k hk; simp -dsimp [go_sem, -decide_eq_true_eq, -decide_eq_false_iff_not, hx, hwi]
                repeat' first | apply And.intro | refine hk _ ?_ | intro hg | omega | exact True.intro
                all_goals clear hk k
                refine rt ?_
                rw [hxo]
                first | (have hs : stepF ((pars p).take i) x = 1 := (by have := @inR_iff x.kind 1 8; unfold stepF; grind); rw [hs]; simp [go_sem, Tryz.results81]; done) | (have hs : stepF ((pars p).take i) x = 3 := (by have := @inR_iff x.kind 1 8; unfold stepF; grind); rw [hs]; simp [go_sem, Tryz.results81]; done) | (have hs : stepF ((pars p).take i) x = 2 := (by have := @inR_iff x.kind 1 8; unfold stepF; grind); rw [hs]; simp [go_sem, Tryz.results81]; done) | (have hs : stepF ((pars p).take i) x = nameF x.name := (by have := @inR_iff x.kind 1 8; unfold stepF; grind); rw [hs]; simp [go_sem, Tryz.results81]; done) | (have hs : stepF ((pars p).take i) x = exprF x.expr := (by have := @inR_iff x.kind 1 8; unfold stepF; grind); rw [hs]; simp [go_sem, Tryz.results81]; done) | (have hs : stepF ((pars p).take i) x = 0 := (by have := @inR_iff x.kind 1 8; unfold stepF; unfold alien at *; unfold lowA highA at *; grind); rw [hs]; simp [go_sem, Tryz.results81]))
              ·intro hc; try simp at hc
               all_goals try (exfalso; omega; done)
               all_goals (
                refine AW.skipN (fun _ h => h) ?_
                refine AW.seq ?_
                refine rg [5,71] ?_
                intro k hk; simp -dsimp (maxSteps := 2000000) [go_sem, -decide_eq_true_eq, -decide_eq_false_iff_not, hx, hwi]
                repeat' first | apply And.intro | refine hk _ ?_ | intro hg | (refine CallK.intro (dc_spec_l4Arg _) ?_; simp -dsimp (maxSteps := 2000000) [go_sem, -decide_eq_true_eq, -decide_eq_false_iff_not, hx, hwi]) | omega | exact True.intro
                all_goals clear hk k
                refine AW.cond rfl ?_ ?_
                ·intro hc; try simp at hc
                 all_goals try (exfalso; omega; done)
                 all_goals (
                  refine rg [4] ?_
                  intro k hk; simp -dsimp [go_sem, -decide_eq_true_eq, -decide_eq_false_iff_not, hx, hwi]
                  repeat' first | apply And.intro | refine hk _ ?_ | intro hg | omega | exact True.intro
                  all_goals clear hk k
                  refine rt ?_
                  rw [hxo]
                  first | (have hs : stepF ((pars p).take i) x = 1 := (by have := @inR_iff x.kind 1 8; unfold stepF; grind); rw [hs]; simp [go_sem, Tryz.results81]; done) | (have hs : stepF ((pars p).take i) x = 3 := (by have := @inR_iff x.kind 1 8; unfold stepF; grind); rw [hs]; simp [go_sem, Tryz.results81]; done) | (have hs : stepF ((pars p).take i) x = 2 := (by have := @inR_iff x.kind 1 8; unfold stepF; grind); rw [hs]; simp [go_sem, Tryz.results81]; done) | (have hs : stepF ((pars p).take i) x = nameF x.name := (by have := @inR_iff x.kind 1 8; unfold stepF; grind); rw [hs]; simp [go_sem, Tryz.results81]; done) | (have hs : stepF ((pars p).take i) x = exprF x.expr := (by have := @inR_iff x.kind 1 8; unfold stepF; grind); rw [hs]; simp [go_sem, Tryz.results81]; done) | (have hs : stepF ((pars p).take i) x = 0 := (by have := @inR_iff x.kind 1 8; unfold stepF; unfold alien at *; unfold lowA highA at *; grind); rw [hs]; simp [go_sem, Tryz.results81]))
                ·intro hc; try simp at hc
                 all_goals try (exfalso; omega; done)
                 all_goals (
                  refine AW.skipN (fun _ h => h) ?_
                  refine AW.seq ?_
                  refine rg [5,76] ?_
                  intro k hk; simp -dsimp [go_sem, -decide_eq_true_eq, -decide_eq_false_iff_not, hx, hwi]
                  repeat' first | apply And.intro | refine hk _ ?_ | intro hg | omega | exact True.intro
                  all_goals clear hk k
                  refine AW.cond rfl ?_ ?_
                  ·intro hc; try simp at hc
                   all_goals try (exfalso; omega; done)
                   all_goals (
                    refine rg [4] ?_
                    intro k hk; simp -dsimp (maxSteps := 2000000) [go_sem, -decide_eq_true_eq, -decide_eq_false_iff_not, hx, hwi]
                    repeat' first | apply And.intro | refine hk _ ?_ | intro hg | (refine CallK.intro (dc_spec_l3Fault x.expr g2) ?_; simp -dsimp (maxSteps := 2000000) [go_sem, -decide_eq_true_eq, -decide_eq_false_iff_not, hx, hwi]) | omega | exact True.intro
                    all_goals clear hk k
                    refine rt ?_
                    rw [hxo]
                    first | (have hs : stepF ((pars p).take i) x = 1 := (by have := @inR_iff x.kind 1 8; unfold stepF; grind); rw [hs]; simp [go_sem, Tryz.results81]; done) | (have hs : stepF ((pars p).take i) x = 3 := (by have := @inR_iff x.kind 1 8; unfold stepF; grind); rw [hs]; simp [go_sem, Tryz.results81]; done) | (have hs : stepF ((pars p).take i) x = 2 := (by have := @inR_iff x.kind 1 8; unfold stepF; grind); rw [hs]; simp [go_sem, Tryz.results81]; done) | (have hs : stepF ((pars p).take i) x = nameF x.name := (by have := @inR_iff x.kind 1 8; unfold stepF; grind); rw [hs]; simp [go_sem, Tryz.results81]; done) | (have hs : stepF ((pars p).take i) x = exprF x.expr := (by have := @inR_iff x.kind 1 8; unfold stepF; grind); rw [hs]; simp [go_sem, Tryz.results81]; done) | (have hs : stepF ((pars p).take i) x = 0 := (by have := @inR_iff x.kind 1 8; unfold stepF; unfold alien at *; unfold lowA highA at *; grind); rw [hs]; simp [go_sem, Tryz.results81]))
                  ·intro hc; try simp at hc
                   all_goals try (exfalso; omega; done)
                   all_goals (
                    refine AW.skipN (fun _ h => h) ?_
                    refine rg [4] ?_
                    intro k hk; simp -dsimp [go_sem, -decide_eq_true_eq, -decide_eq_false_iff_not, hx, hwi]
                    repeat' first | apply And.intro | refine hk _ ?_ | intro hg | omega | exact True.intro
                    all_goals clear hk k
                    refine rt ?_
                    rw [hxo]
                    first | (have hs : stepF ((pars p).take i) x = 1 := (by have := @inR_iff x.kind 1 8; unfold stepF; grind); rw [hs]; simp [go_sem, Tryz.results81]; done) | (have hs : stepF ((pars p).take i) x = 3 := (by have := @inR_iff x.kind 1 8; unfold stepF; grind); rw [hs]; simp [go_sem, Tryz.results81]; done) | (have hs : stepF ((pars p).take i) x = 2 := (by have := @inR_iff x.kind 1 8; unfold stepF; grind); rw [hs]; simp [go_sem, Tryz.results81]; done) | (have hs : stepF ((pars p).take i) x = nameF x.name := (by have := @inR_iff x.kind 1 8; unfold stepF; grind); rw [hs]; simp [go_sem, Tryz.results81]; done) | (have hs : stepF ((pars p).take i) x = exprF x.expr := (by have := @inR_iff x.kind 1 8; unfold stepF; grind); rw [hs]; simp [go_sem, Tryz.results81]; done) | (have hs : stepF ((pars p).take i) x = 0 := (by have := @inR_iff x.kind 1 8; unfold stepF; unfold alien at *; unfold lowA highA at *; grind); rw [hs]; simp [go_sem, Tryz.results81])))))
            ·intro hc; try simp at hc
             all_goals try (exfalso; omega; done)
             all_goals (
              refine AW.skipN (fun _ h => h) ?_
              refine AW.seq ?_
              refine rg [5,71] ?_
              intro k hk; simp -dsimp (maxSteps := 2000000) [go_sem, -decide_eq_true_eq, -decide_eq_false_iff_not, hx, hwi]
              repeat' first | apply And.intro | refine hk _ ?_ | intro hg | (refine CallK.intro (dc_spec_l4Arg _) ?_; simp -dsimp (maxSteps := 2000000) [go_sem, -decide_eq_true_eq, -decide_eq_false_iff_not, hx, hwi]) | omega | exact True.intro
              all_goals clear hk k
              refine AW.cond rfl ?_ ?_
              ·intro hc; try simp at hc
               all_goals try (exfalso; omega; done)
               all_goals (
                refine rg [4] ?_
                intro k hk; simp -dsimp [go_sem, -decide_eq_true_eq, -decide_eq_false_iff_not, hx, hwi]
                repeat' first | apply And.intro | refine hk _ ?_ | intro hg | omega | exact True.intro
                all_goals clear hk k
                refine rt ?_
                rw [hxo]
                first | (have hs : stepF ((pars p).take i) x = 1 := (by have := @inR_iff x.kind 1 8; unfold stepF; grind); rw [hs]; simp [go_sem, Tryz.results81]; done) | (have hs : stepF ((pars p).take i) x = 3 := (by have := @inR_iff x.kind 1 8; unfold stepF; grind); rw [hs]; simp [go_sem, Tryz.results81]; done) | (have hs : stepF ((pars p).take i) x = 2 := (by have := @inR_iff x.kind 1 8; unfold stepF; grind); rw [hs]; simp [go_sem, Tryz.results81]; done) | (have hs : stepF ((pars p).take i) x = nameF x.name := (by have := @inR_iff x.kind 1 8; unfold stepF; grind); rw [hs]; simp [go_sem, Tryz.results81]; done) | (have hs : stepF ((pars p).take i) x = exprF x.expr := (by have := @inR_iff x.kind 1 8; unfold stepF; grind); rw [hs]; simp [go_sem, Tryz.results81]; done) | (have hs : stepF ((pars p).take i) x = 0 := (by have := @inR_iff x.kind 1 8; unfold stepF; unfold alien at *; unfold lowA highA at *; grind); rw [hs]; simp [go_sem, Tryz.results81]))
              ·intro hc; try simp at hc
               all_goals try (exfalso; omega; done)
               all_goals (
                refine AW.skipN (fun _ h => h) ?_
                refine AW.seq ?_
                refine rg [5,76] ?_
                intro k hk; simp -dsimp [go_sem, -decide_eq_true_eq, -decide_eq_false_iff_not, hx, hwi]
                repeat' first | apply And.intro | refine hk _ ?_ | intro hg | omega | exact True.intro
                all_goals clear hk k
                refine AW.cond rfl ?_ ?_
                ·intro hc; try simp at hc
                 all_goals try (exfalso; omega; done)
                 all_goals (
                  refine rg [4] ?_
                  intro k hk; simp -dsimp (maxSteps := 2000000) [go_sem, -decide_eq_true_eq, -decide_eq_false_iff_not, hx, hwi]
                  repeat' first | apply And.intro | refine hk _ ?_ | intro hg | (refine CallK.intro (dc_spec_l3Fault x.expr g2) ?_; simp -dsimp (maxSteps := 2000000) [go_sem, -decide_eq_true_eq, -decide_eq_false_iff_not, hx, hwi]) | omega | exact True.intro
                  all_goals clear hk k
                  refine rt ?_
                  rw [hxo]
                  first | (have hs : stepF ((pars p).take i) x = 1 := (by have := @inR_iff x.kind 1 8; unfold stepF; grind); rw [hs]; simp [go_sem, Tryz.results81]; done) | (have hs : stepF ((pars p).take i) x = 3 := (by have := @inR_iff x.kind 1 8; unfold stepF; grind); rw [hs]; simp [go_sem, Tryz.results81]; done) | (have hs : stepF ((pars p).take i) x = 2 := (by have := @inR_iff x.kind 1 8; unfold stepF; grind); rw [hs]; simp [go_sem, Tryz.results81]; done) | (have hs : stepF ((pars p).take i) x = nameF x.name := (by have := @inR_iff x.kind 1 8; unfold stepF; grind); rw [hs]; simp [go_sem, Tryz.results81]; done) | (have hs : stepF ((pars p).take i) x = exprF x.expr := (by have := @inR_iff x.kind 1 8; unfold stepF; grind); rw [hs]; simp [go_sem, Tryz.results81]; done) | (have hs : stepF ((pars p).take i) x = 0 := (by have := @inR_iff x.kind 1 8; unfold stepF; unfold alien at *; unfold lowA highA at *; grind); rw [hs]; simp [go_sem, Tryz.results81]))
                ·intro hc; try simp at hc
                 all_goals try (exfalso; omega; done)
                 all_goals (
                  refine AW.skipN (fun _ h => h) ?_
                  refine rg [4] ?_
                  intro k hk; simp -dsimp [go_sem, -decide_eq_true_eq, -decide_eq_false_iff_not, hx, hwi]
                  repeat' first | apply And.intro | refine hk _ ?_ | intro hg | omega | exact True.intro
                  all_goals clear hk k
                  refine rt ?_
                  rw [hxo]
                  first | (have hs : stepF ((pars p).take i) x = 1 := (by have := @inR_iff x.kind 1 8; unfold stepF; grind); rw [hs]; simp [go_sem, Tryz.results81]; done) | (have hs : stepF ((pars p).take i) x = 3 := (by have := @inR_iff x.kind 1 8; unfold stepF; grind); rw [hs]; simp [go_sem, Tryz.results81]; done) | (have hs : stepF ((pars p).take i) x = 2 := (by have := @inR_iff x.kind 1 8; unfold stepF; grind); rw [hs]; simp [go_sem, Tryz.results81]; done) | (have hs : stepF ((pars p).take i) x = nameF x.name := (by have := @inR_iff x.kind 1 8; unfold stepF; grind); rw [hs]; simp [go_sem, Tryz.results81]; done) | (have hs : stepF ((pars p).take i) x = exprF x.expr := (by have := @inR_iff x.kind 1 8; unfold stepF; grind); rw [hs]; simp [go_sem, Tryz.results81]; done) | (have hs : stepF ((pars p).take i) x = 0 := (by have := @inR_iff x.kind 1 8; unfold stepF; unfold alien at *; unfold lowA highA at *; grind); rw [hs]; simp [go_sem, Tryz.results81]))))))))
end Go.AM
namespace Go.AM
open Go.Proofs
theorem dc_spec_l4Shape (p : List TStep) (ho : StepsOk p) (hg : ∀ e ∈ p, e.gok) : DC Tryz.prog 82 [.isl 6 (p.map TStep.ro)] (.int .i64 (sc (shapeF p) p.length 0)) [] := by
 have hlen := ho.len
 refine DC.intro tiOk Tryz.func82 rfl rfl rfl rfl rfl rfl rfl rfl [] ?_
 refine rgA [0] ?_
 refine AW.seq ?_
 refine rgA [0,3] ?_
 refine AW.block ?_
 refine AW.loopI (fun i : Nat => ⟨49, [(0, .isl 6 (p.map TStep.ro)), (3, .int .i64 i)], []⟩) (fun i => i ≤ p.length ∧ ∀ k, k < i → shapeF p k = 0) (fun i => p.length - i) (0) (by simp) (Less.of rfl (by simp [go_sem]) (by simp [go_sem])) ?_
 rintro i ⟨hi, hall⟩
 refine AW.seq ?_
 refine rgA [0,3,8] ?_
 refine AW.cond rfl ?_ ?_
 ·intro hc; try simp at hc
  all_goals (
   have hlt : i < p.length := by assumption
   obtain ⟨x, hx⟩ := at_some hlt
   have hxS := nS_at hx
   obtain ⟨g0, g1, g2⟩ := hg x (List.mem_of_getElem? hx)
   have hkm := kids_len p (i : Int)
   refine AW.skipN (fun _ h => h) ?_
   refine AW.seq ?_
   refine AW.block ?_
   refine AW.seq ?_
   refine rg [0,3,21] ?_
   intro k hk; simp -dsimp (maxSteps := 2000000) [go_sem, -decide_eq_true_eq, -decide_eq_false_iff_not, hx]
   repeat' first | (refine Chk.keys ?_; simp only [go_sem, List.map_cons, List.map_nil, List.flatMap_cons, List.flatMap_nil, List.flatMap_append, List.append_nil, List.nil_append, List.cons_append]; decide +kernel) | apply And.intro | refine hk _ ?_ | intro hg | ((first | refine CallK.intro (dc_spec_l4Kids p (i : Int) (by omega) (by rw [ho.par0]; omega)) ?_ | refine CallK.intro (dc_spec_l4Many x.kind (kids p (i : Int)).length (by omega)) ?_); simp -dsimp (maxSteps := 2000000) [go_sem, -decide_eq_true_eq, -decide_eq_false_iff_not, hx]) | omega | exact True.intro
   all_goals clear hk k
   refine AW.cond rfl ?_ ?_
   ·intro hc; try simp at hc
    all_goals (
     refine rg [2] ?_
     intro k hk; simp -dsimp [go_sem, -decide_eq_true_eq, -decide_eq_false_iff_not, hx]
     repeat' first | apply And.intro | refine hk _ ?_ | intro hg | omega | exact True.intro
     all_goals clear hk k
     refine rt ?_
     first | (rw [sc_none (fun k hk => hall k (by omega))]; simp [go_sem, Tryz.results82]; done) | (have hs : shapeF p i = 1 := (by simp [shapeF, hxS] at * <;> grind); rw [shape_sc hlt hall (by rw [hs]; decide), hs]; simp [go_sem, Tryz.results82]; done) | (have hs : shapeF p i = exprF x.cond := (by simp [shapeF, hxS] at * <;> grind); rw [shape_sc hlt hall (by rw [hs]; first | assumption | simpa using hc), hs]; simp [go_sem, Tryz.results82]))
   ·intro hc; try simp at hc
    all_goals (
     refine AW.skipN (fun _ h => h) ?_
     refine AW.seq ?_
     refine rg [0,3,32] ?_
     intro k hk; simp -dsimp (maxSteps := 2000000) [go_sem, -decide_eq_true_eq, -decide_eq_false_iff_not, hx]
     repeat' first | (refine Chk.keys ?_; simp only [go_sem, List.map_cons, List.map_nil, List.flatMap_cons, List.flatMap_nil, List.flatMap_append, List.append_nil, List.nil_append, List.cons_append]; decide +kernel) | apply And.intro | refine hk _ ?_ | intro hg | (refine CallK.intro (dc_spec_l4Needs p ho i hlt) ?_; simp -dsimp (maxSteps := 2000000) [go_sem, -decide_eq_true_eq, -decide_eq_false_iff_not, hx]) | omega | exact True.intro
     all_goals clear hk k
     refine AW.cond rfl ?_ ?_
     ·intro hc; try simp at hc
      all_goals (
       refine rg [2] ?_
       intro k hk; simp -dsimp [go_sem, -decide_eq_true_eq, -decide_eq_false_iff_not, hx]
       repeat' first | apply And.intro | refine hk _ ?_ | intro hg | omega | exact True.intro
       all_goals clear hk k
       refine rt ?_
       first | (rw [sc_none (fun k hk => hall k (by omega))]; simp [go_sem, Tryz.results82]; done) | (have hs : shapeF p i = 1 := (by simp [shapeF, hxS] at * <;> grind); rw [shape_sc hlt hall (by rw [hs]; decide), hs]; simp [go_sem, Tryz.results82]; done) | (have hs : shapeF p i = exprF x.cond := (by simp [shapeF, hxS] at * <;> grind); rw [shape_sc hlt hall (by rw [hs]; first | assumption | simpa using hc), hs]; simp [go_sem, Tryz.results82]))
     ·intro hc; try simp at hc
      all_goals (
       refine AW.skipN (fun _ h => h) ?_
       refine rg [0,3,39] ?_
       intro k hk; simp -dsimp (maxSteps := 2000000) [go_sem, -decide_eq_true_eq, -decide_eq_false_iff_not, hx]
       repeat' first | apply And.intro | refine hk _ ?_ | intro hg | omega | exact True.intro
       all_goals clear hk k
       refine AW.cond rfl ?_ ?_
       ·intro hc; try simp at hc
        all_goals (
         refine rg [0,3,4] ?_
         intro k hk; simp -dsimp (maxSteps := 2000000) [go_sem, -decide_eq_true_eq, -decide_eq_false_iff_not, hx]
         repeat' first | apply And.intro | refine hk _ ?_ | intro hg | (refine CallK.intro (dc_spec_l3Fault x.cond g1) ?_; simp -dsimp (maxSteps := 2000000) [go_sem, -decide_eq_true_eq, -decide_eq_false_iff_not, hx]) | omega | exact True.intro
         all_goals clear hk k
         refine rg [0,3,4,47] ?_
         intro k hk; simp -dsimp [go_sem, -decide_eq_true_eq, -decide_eq_false_iff_not, hx]
         repeat' first | apply And.intro | refine hk _ ?_ | intro hg | omega | exact True.intro
         all_goals clear hk k
         refine AW.cond rfl ?_ ?_
         ·intro hc; try simp at hc
          all_goals (
           refine rg [2] ?_
           intro k hk; simp -dsimp [go_sem, -decide_eq_true_eq, -decide_eq_false_iff_not, hx]
           repeat' first | apply And.intro | refine hk _ ?_ | intro hg | omega | exact True.intro
           all_goals clear hk k
           refine rt ?_
           first | (rw [sc_none (fun k hk => hall k (by omega))]; simp [go_sem, Tryz.results82]; done) | (have hs : shapeF p i = 1 := (by simp [shapeF, hxS] at * <;> grind); rw [shape_sc hlt hall (by rw [hs]; decide), hs]; simp [go_sem, Tryz.results82]; done) | (have hs : shapeF p i = exprF x.cond := (by simp [shapeF, hxS] at * <;> grind); rw [shape_sc hlt hall (by rw [hs]; first | assumption | simpa using hc), hs]; simp [go_sem, Tryz.results82]))
         ·intro hc; try simp at hc
          all_goals (
           refine AW.skipN (fun _ h => h) ?_
           refine rgK ?_
           intro k hk; simp -dsimp [go_sem, -decide_eq_true_eq, -decide_eq_false_iff_not, hx]
           repeat' first | apply And.intro | refine hk _ ?_ | intro hg | omega | exact True.intro
           all_goals clear hk k
           show ∃ _, _
           have hw := wrapi hlt (by omega)
           refine ⟨i + 1, ⟨by omega, upto hall (by simp [shapeF, hxS] at * <;> grind)⟩, by omega, Less.of rfl (by simp [go_sem, hw]) (by simp [go_sem])⟩))
       ·intro hc; try simp at hc
        all_goals (
         refine AW.skipN (fun _ h => h) ?_
         refine rgK ?_
         intro k hk; simp -dsimp [go_sem, -decide_eq_true_eq, -decide_eq_false_iff_not, hx]
         repeat' first | apply And.intro | refine hk _ ?_ | intro hg | omega | exact True.intro
         all_goals clear hk k
         show ∃ _, _
         have hw := wrapi hlt (by omega)
         refine ⟨i + 1, ⟨by omega, upto hall (by simp [shapeF, hxS] at * <;> grind)⟩, by omega, Less.of rfl (by simp [go_sem, hw]) (by simp [go_sem])⟩))))
 ·intro hc; try simp at hc
  all_goals (
   refine AW.exitN (fun _ h => h) ?_
   refine rgA [2] ?_
   refine rt ?_
   first | (rw [sc_none (fun k hk => hall k (by omega))]; simp [go_sem, Tryz.results82]; done) | (have hs : shapeF p i = 1 := (by simp [shapeF, hxS] at * <;> grind); rw [shape_sc hlt hall (by rw [hs]; decide), hs]; simp [go_sem, Tryz.results82]; done) | (have hs : shapeF p i = exprF x.cond := (by simp [shapeF, hxS] at * <;> grind); rw [shape_sc hlt hall (by rw [hs]; first | assumption | simpa using hc), hs]; simp [go_sem, Tryz.results82]))
end Go.AM
namespace Go.AM
open Go.Proofs
theorem dc_spec_l4Fault (p : List TStep) (hp : p.length ≤ 9223372036854775807) (hg : ∀ e ∈ p, e.gok) : DC Tryz.prog 56 [.isl 6 (p.map TStep.ro)] (.int .i64 (procF p)) [] := by
 refine DC.intro tiOk Tryz.func56 rfl rfl rfl rfl rfl rfl rfl rfl [] ?_
 refine rgA [0] ?_
 refine AW.seq ?_
 refine AW.cut ⟨58, [(0, .isl 6 (p.map TStep.ro)), (16, .bool (decide (p.length < 1 ∨ 24 < p.length)))], []⟩ ?_ ?_
 ·skip
  refine rgK ?_
  intro k hk; simp +contextual -dsimp (maxSteps := 2000000) [go_sem, -decide_eq_true_eq, -decide_eq_false_iff_not]
  repeat' first | apply And.intro | refine hk _ ?_ | (intro hg; try simp only [decide_eq_true_eq, decide_eq_false_iff_not] at hg) | omega | exact True.intro
  all_goals clear hk k
  all_goals (show St.Less _ _; exact Less.of rfl (by simp [go_sem, -Nat.lt_one_iff, -List.length_eq_zero_iff] <;> first | omega | grind) (by simp [go_sem]))
 ·skip
  refine AW.cond rfl ?_ ?_
  ·intro hc; try simp at hc
   all_goals (
    refine rgA [2] ?_
    refine rt ?_
    first | (rw [procF_len' (by simpa using hc)]; simp [go_sem, Tryz.results56]; done) | (rw [procF_ok hR h1 h2 h3]; simp [go_sem, Tryz.results56]; done) | (have hty : tyF p i = typF x.cond 2 := (by rw [hxt]; grind); rw [procF_ty hR h1 h2 hlt hal3 (by rw [hty]; first | assumption | simpa using hc), hty]; simp [go_sem, Tryz.results56]; done) | (have hty : tyF p i = typF x.expr 1 := (by rw [hxt]; grind); rw [procF_ty hR h1 h2 hlt hal3 (by rw [hty]; first | assumption | simpa using hc), hty]; simp [go_sem, Tryz.results56]; done) | (rw [procF_shape' hR h1 (by first | assumption | simpa using hc)]; simp [go_sem, Tryz.results56]; done) | (rw [procF_one hR hlt hall (by first | assumption | simpa using hc)]; simp [go_sem, Tryz.results56]))
  ·intro hc; try simp at hc
   all_goals (
    refine AW.skipN (fun _ h => h) ?_
    refine AW.seq ?_
    have hlen : 1 ≤ p.length ∧ p.length ≤ 24 := by obtain ⟨h8, h9⟩ := hc; have : p.length ≠ 0 := (fun h => h8 (List.length_eq_zero_iff.1 h)); omega
    have hR : inR p.length 1 24 = true := inR_iff.2 (by omega)
    refine rgA [0,3] ?_
    refine AW.block ?_
    refine AW.loopI (fun i : Nat => ⟨58, [(0, .isl 6 (p.map TStep.ro)), (3, .int .i64 i)], []⟩) (fun i => i ≤ p.length ∧ ∀ k, k < i → oneF p k = 0) (fun i => p.length - i) (0) (by simp) (Less.of rfl (by simp [go_sem]) (by simp [go_sem])) ?_
    rintro i ⟨hi, hall⟩
    refine AW.seq ?_
    refine rgA [0,3,20] ?_
    refine AW.cond rfl ?_ ?_
    ·intro hc; try simp at hc
     all_goals (
      have hlt : i < p.length := by assumption
      refine AW.skipN (fun _ h => h) ?_
      refine AW.seq ?_
      refine AW.block ?_
      refine rg [0,3,4] ?_
      intro k hk; simp -dsimp (maxSteps := 2000000) [go_sem, -decide_eq_true_eq, -decide_eq_false_iff_not]
      repeat' first | apply And.intro | refine hk _ ?_ | intro hg | (refine CallK.intro (dc_spec_l4One p (by omega) hg i hlt hall) ?_; simp -dsimp (maxSteps := 2000000) [go_sem, -decide_eq_true_eq, -decide_eq_false_iff_not]) | omega | exact True.intro
      all_goals clear hk k
      refine rgA [0,3,4,27] ?_
      refine AW.cond rfl ?_ ?_
      ·intro hc; try simp at hc
       all_goals (
        refine rgA [2] ?_
        refine rt ?_
        first | (rw [procF_len' (by simpa using hc)]; simp [go_sem, Tryz.results56]; done) | (rw [procF_ok hR h1 h2 h3]; simp [go_sem, Tryz.results56]; done) | (have hty : tyF p i = typF x.cond 2 := (by rw [hxt]; grind); rw [procF_ty hR h1 h2 hlt hal3 (by rw [hty]; first | assumption | simpa using hc), hty]; simp [go_sem, Tryz.results56]; done) | (have hty : tyF p i = typF x.expr 1 := (by rw [hxt]; grind); rw [procF_ty hR h1 h2 hlt hal3 (by rw [hty]; first | assumption | simpa using hc), hty]; simp [go_sem, Tryz.results56]; done) | (rw [procF_shape' hR h1 (by first | assumption | simpa using hc)]; simp [go_sem, Tryz.results56]; done) | (rw [procF_one hR hlt hall (by first | assumption | simpa using hc)]; simp [go_sem, Tryz.results56]))
      ·intro hc; try simp at hc
       all_goals (
        refine AW.skipN (fun _ h => h) ?_
        refine rgKA ?_
        show ∃ _, _
        have hw := wrapi hlt (by omega)
        refine ⟨i + 1, ⟨by omega, upto hall (by first | assumption | simpa using hc)⟩, by omega, Less.of rfl (by simp [go_sem, hw]) (by simp [go_sem])⟩))
    ·intro hc; try simp at hc
     all_goals (
      refine AW.exitN (fun _ h => h) ?_
      refine AW.seq ?_
      have h1 : ∀ k, k < p.length → oneF p k = 0 := fun k hk => hall k (by omega)
      have ho : StepsOk p := ⟨by omega, h1⟩
      refine rg [0,5] ?_
      intro k hk; simp -dsimp (maxSteps := 2000000) [go_sem, -decide_eq_true_eq, -decide_eq_false_iff_not]
      repeat' first | apply And.intro | refine hk _ ?_ | intro hg | (refine CallK.intro (dc_spec_l4Shape p ho hg) ?_; simp -dsimp (maxSteps := 2000000) [go_sem, -decide_eq_true_eq, -decide_eq_false_iff_not]) | omega | exact True.intro
      all_goals clear hk k
      refine rgA [0,5,32] ?_
      refine AW.cond rfl ?_ ?_
      ·intro hc; try simp at hc
       all_goals (
        refine rgA [2] ?_
        refine rt ?_
        first | (rw [procF_len' (by simpa using hc)]; simp [go_sem, Tryz.results56]; done) | (rw [procF_ok hR h1 h2 h3]; simp [go_sem, Tryz.results56]; done) | (have hty : tyF p i = typF x.cond 2 := (by rw [hxt]; grind); rw [procF_ty hR h1 h2 hlt hal3 (by rw [hty]; first | assumption | simpa using hc), hty]; simp [go_sem, Tryz.results56]; done) | (have hty : tyF p i = typF x.expr 1 := (by rw [hxt]; grind); rw [procF_ty hR h1 h2 hlt hal3 (by rw [hty]; first | assumption | simpa using hc), hty]; simp [go_sem, Tryz.results56]; done) | (rw [procF_shape' hR h1 (by first | assumption | simpa using hc)]; simp [go_sem, Tryz.results56]; done) | (rw [procF_one hR hlt hall (by first | assumption | simpa using hc)]; simp [go_sem, Tryz.results56]))
      ·intro hc; try simp at hc
       all_goals (
        refine AW.skipN (fun _ h => h) ?_
        refine AW.seq ?_
        have h2 : ∀ k, k < p.length → shapeF p k = 0 := sc_all (by first | assumption | simpa using hc)
        refine rgA [0,6] ?_
        refine AW.block ?_
        refine AW.loopI (fun i : Nat => ⟨58, [(0, .isl 6 (p.map TStep.ro)), (6, .int .i64 i)], []⟩) (fun i => i ≤ p.length ∧ ∀ k, k < i → tyF p k = 0) (fun i => p.length - i) (0) (by simp) (Less.of rfl (by simp [go_sem]) (by simp [go_sem])) ?_
        rintro i ⟨hi, hal3⟩
        refine AW.seq ?_
        refine rgA [0,6,37] ?_
        refine AW.cond rfl ?_ ?_
        ·intro hc; try simp at hc
         all_goals (
          have hlt : i < p.length := by assumption
          obtain ⟨x, hx⟩ := at_some hlt
          have hxt := tyF_at hx
          obtain ⟨g0, g1, g2⟩ := hg x (List.mem_of_getElem? hx)
          refine AW.skipN (fun _ h => h) ?_
          refine AW.seq ?_
          refine AW.block ?_
          refine AW.seq ?_
          refine rg [0,6,7] ?_
          intro k hk; simp -dsimp (maxSteps := 2000000) [go_sem, -decide_eq_true_eq, -decide_eq_false_iff_not, hx]
          repeat' first | apply And.intro | refine hk _ ?_ | intro hg | ((first | refine CallK.intro (dc_spec_l4Typed x.cond 2 g1) ?_ | refine CallK.intro (dc_spec_l4Typed x.expr 1 g2) ?_); simp -dsimp (maxSteps := 2000000) [go_sem, -decide_eq_true_eq, -decide_eq_false_iff_not, hx]) | omega | exact True.intro
          all_goals clear hk k
          refine rg [0,6,7,47] ?_
          intro k hk; simp -dsimp [go_sem, -decide_eq_true_eq, -decide_eq_false_iff_not, hx]
          repeat' first | apply And.intro | refine hk _ ?_ | intro hg | omega | exact True.intro
          all_goals clear hk k
          refine AW.cond rfl ?_ ?_
          ·intro hc; try simp at hc
           all_goals (
            refine rg [2] ?_
            intro k hk; simp -dsimp [go_sem, -decide_eq_true_eq, -decide_eq_false_iff_not, hx]
            repeat' first | apply And.intro | refine hk _ ?_ | intro hg | omega | exact True.intro
            all_goals clear hk k
            refine rt ?_
            first | (rw [procF_len' (by simpa using hc)]; simp [go_sem, Tryz.results56]; done) | (rw [procF_ok hR h1 h2 h3]; simp [go_sem, Tryz.results56]; done) | (have hty : tyF p i = typF x.cond 2 := (by rw [hxt]; grind); rw [procF_ty hR h1 h2 hlt hal3 (by rw [hty]; first | assumption | simpa using hc), hty]; simp [go_sem, Tryz.results56]; done) | (have hty : tyF p i = typF x.expr 1 := (by rw [hxt]; grind); rw [procF_ty hR h1 h2 hlt hal3 (by rw [hty]; first | assumption | simpa using hc), hty]; simp [go_sem, Tryz.results56]; done) | (rw [procF_shape' hR h1 (by first | assumption | simpa using hc)]; simp [go_sem, Tryz.results56]; done) | (rw [procF_one hR hlt hall (by first | assumption | simpa using hc)]; simp [go_sem, Tryz.results56]))
          ·intro hc; try simp at hc
           all_goals (
            refine AW.skipN (fun _ h => h) ?_
            refine rg [0,6,8] ?_
            intro k hk; simp -dsimp (maxSteps := 2000000) [go_sem, -decide_eq_true_eq, -decide_eq_false_iff_not, hx]
            repeat' first | apply And.intro | refine hk _ ?_ | intro hg | ((first | refine CallK.intro (dc_spec_l4Typed x.cond 2 g1) ?_ | refine CallK.intro (dc_spec_l4Typed x.expr 1 g2) ?_); simp -dsimp (maxSteps := 2000000) [go_sem, -decide_eq_true_eq, -decide_eq_false_iff_not, hx]) | omega | exact True.intro
            all_goals clear hk k
            refine rg [0,6,8,56] ?_
            intro k hk; simp -dsimp [go_sem, -decide_eq_true_eq, -decide_eq_false_iff_not, hx]
            repeat' first | apply And.intro | refine hk _ ?_ | intro hg | omega | exact True.intro
            all_goals clear hk k
            refine AW.cond rfl ?_ ?_
            ·intro hc; try simp at hc
             all_goals (
              refine rg [2] ?_
              intro k hk; simp -dsimp [go_sem, -decide_eq_true_eq, -decide_eq_false_iff_not, hx]
              repeat' first | apply And.intro | refine hk _ ?_ | intro hg | omega | exact True.intro
              all_goals clear hk k
              refine rt ?_
              first | (rw [procF_len' (by simpa using hc)]; simp [go_sem, Tryz.results56]; done) | (rw [procF_ok hR h1 h2 h3]; simp [go_sem, Tryz.results56]; done) | (have hty : tyF p i = typF x.cond 2 := (by rw [hxt]; grind); rw [procF_ty hR h1 h2 hlt hal3 (by rw [hty]; first | assumption | simpa using hc), hty]; simp [go_sem, Tryz.results56]; done) | (have hty : tyF p i = typF x.expr 1 := (by rw [hxt]; grind); rw [procF_ty hR h1 h2 hlt hal3 (by rw [hty]; first | assumption | simpa using hc), hty]; simp [go_sem, Tryz.results56]; done) | (rw [procF_shape' hR h1 (by first | assumption | simpa using hc)]; simp [go_sem, Tryz.results56]; done) | (rw [procF_one hR hlt hall (by first | assumption | simpa using hc)]; simp [go_sem, Tryz.results56]))
            ·intro hc; try simp at hc
             all_goals (
              refine AW.skipN (fun _ h => h) ?_
              refine rgK ?_
              intro k hk; simp -dsimp [go_sem, -decide_eq_true_eq, -decide_eq_false_iff_not, hx]
              repeat' first | apply And.intro | refine hk _ ?_ | intro hg | omega | exact True.intro
              all_goals clear hk k
              show ∃ _, _
              have hw := wrapi hlt (by omega)
              have htz : tyF p i = 0 := by rw [hxt]; grind
              refine ⟨i + 1, ⟨by omega, upto hal3 htz⟩, by omega, Less.of rfl (by simp [go_sem, hw]) (by simp [go_sem])⟩)))
        ·intro hc; try simp at hc
         all_goals (
          refine AW.exitN (fun _ h => h) ?_
          have h3 : ∀ k, k < p.length → tyF p k = 0 := fun k hk => hal3 k (by omega)
          refine rgA [2] ?_
          refine rt ?_
          first | (rw [procF_len' (by simpa using hc)]; simp [go_sem, Tryz.results56]; done) | (rw [procF_ok hR h1 h2 h3]; simp [go_sem, Tryz.results56]; done) | (have hty : tyF p i = typF x.cond 2 := (by rw [hxt]; grind); rw [procF_ty hR h1 h2 hlt hal3 (by rw [hty]; first | assumption | simpa using hc), hty]; simp [go_sem, Tryz.results56]; done) | (have hty : tyF p i = typF x.expr 1 := (by rw [hxt]; grind); rw [procF_ty hR h1 h2 hlt hal3 (by rw [hty]; first | assumption | simpa using hc), hty]; simp [go_sem, Tryz.results56]; done) | (rw [procF_shape' hR h1 (by first | assumption | simpa using hc)]; simp [go_sem, Tryz.results56]; done) | (rw [procF_one hR hlt hall (by first | assumption | simpa using hc)]; simp [go_sem, Tryz.results56])))))
end Go.AM
namespace Go.AM
open Go.Proofs
set_option maxHeartbeats 4000000 in
theorem dc_spec_l9Wrong (p : List TStep) (c : TChart) (ho : StepsOk p) (hla : c.acts.length = p.length) (hld : c.dues.length = p.length) (i : Nat) (hi : i < p.length) : DC Tryz.prog 57 [.isl 6 (p.map TStep.ro), .ip c.ro, .int .i64 (i : Nat)] (.bool (wrong9 p c (i : Int))) [] := by
 have hlen := ho.len
 obtain ⟨x, hx⟩ := at_some hi
 have hxS := nS_at hx
 have haa := actN_at (c := c) (show i < c.acts.length by omega)
 have hdd := dueN_at (c := c) (show i < c.dues.length by omega)
 have hkl := kids_len p (i : Int)
 have hkb : ∀ k ∈ (kids p (i : Int)), 0 ≤ k ∧ k.toNat < c.acts.length := fun k hk => by have := kids_bd hk; omega
 have hc1 := cnt_le c 1 (kids p (i : Int))
 have hc2 := cnt_le c 2 (kids p (i : Int))
 have hwn : IntKind.wrap .i64 (cnt c 1 (kids p (i : Int)) + cnt c 2 (kids p (i : Int))) = cnt c 1 (kids p (i : Int)) + cnt c 2 (kids p (i : Int)) := wrap64 (by omega) (by omega)
 refine DC.intro tiOk Tryz.func57 rfl rfl rfl rfl rfl rfl rfl rfl [] ?_
 refine rg [0,1,2] ?_
 intro k hk; simp -dsimp [go_sem, -decide_eq_true_eq, -decide_eq_false_iff_not, hx, haa, hdd]
 repeat' first | apply And.intro | refine hk _ ?_ | intro hg | omega | exact True.intro | (refine And.elim (fun h8 h9 => ?_) (hho ?_) <;> first | assumption | omega) | fail
 all_goals clear hk k
 refine rg [0,1,2,7] ?_
 intro k hk; simp -dsimp (maxSteps := 2000000) [go_sem, -decide_eq_true_eq, -decide_eq_false_iff_not, hx, haa, hdd]
 repeat' first | apply And.intro | refine hk _ ?_ | intro hg | (refine CallK.intro (dc_spec_l4Kids p (i : Int) (by omega) (by rw [ho.par0]; omega)) ?_; simp -dsimp (maxSteps := 2000000) [go_sem, -decide_eq_true_eq, -decide_eq_false_iff_not, hx, haa, hdd]) | omega | exact True.intro | (refine And.elim (fun h8 h9 => ?_) (hho ?_) <;> first | assumption | omega) | fail
 all_goals clear hk k
 refine rg [0,1,2,7,8] ?_
 intro k hk; simp -dsimp [go_sem, -decide_eq_true_eq, -decide_eq_false_iff_not, hx, haa, hdd]
 repeat' first | apply And.intro | refine hk _ ?_ | intro hg | omega | exact True.intro | (refine And.elim (fun h8 h9 => ?_) (hho ?_) <;> first | assumption | omega) | fail
 all_goals clear hk k
 refine rg [0,1,2,7,8,9] ?_
 intro k hk; simp -dsimp [go_sem, -decide_eq_true_eq, -decide_eq_false_iff_not, hx, haa, hdd]
 repeat' first | apply And.intro | refine hk _ ?_ | intro hg | omega | exact True.intro | (refine And.elim (fun h8 h9 => ?_) (hho ?_) <;> first | assumption | omega) | fail
 all_goals clear hk k
 refine AW.seq ?_
 refine rg [0,1,2,7,8,9,10] ?_
 intro k hk; simp -dsimp [go_sem, -decide_eq_true_eq, -decide_eq_false_iff_not, hx, haa, hdd]
 repeat' first | apply And.intro | refine hk _ ?_ | intro hg | omega | exact True.intro | (refine And.elim (fun h8 h9 => ?_) (hho ?_) <;> first | assumption | omega) | fail
 all_goals clear hk k
 refine AW.block ?_
 refine AW.loopI (fun j : Nat => ⟨130, [(0, .isl 6 (p.map TStep.ro)), (1, .ip c.ro), (2, .int .i64 (i : Nat)), (7, .sl 1014 1 0 (kids p (i : Int)).length), (8, .int .i64 (cnt c 1 ((kids p (i : Int)).take j))), (9, .int .i64 (cnt c 2 ((kids p (i : Int)).take j))), (10, .int .i64 j)], [(1014, some ⟨1, (kids p (i : Int)).map I1⟩)]⟩) (fun j => j ≤ (kids p (i : Int)).length) (fun j => (kids p (i : Int)).length - j) (0) (by simp) (Less.of rfl (by simp [go_sem, cnt]) (by simp [go_sem])) ?_
 rintro j hj
 refine AW.seq ?_
 refine rg [0,1,2,7,8,9,10,18] ?_
 intro k hk; simp -dsimp [go_sem, -decide_eq_true_eq, -decide_eq_false_iff_not, hx, haa, hdd]
 repeat' first | apply And.intro | refine hk _ ?_ | intro hg | omega | exact True.intro | (refine And.elim (fun h8 h9 => ?_) (hho ?_) <;> first | assumption | omega) | fail
 all_goals clear hk k
 refine AW.cond rfl ?_ ?_
 ·intro hc; try simp at hc
  all_goals try (exfalso; omega; done)
  all_goals (
   have hlt : j < (kids p (i : Int)).length := by assumption
   obtain ⟨y, hy⟩ := at_some hlt
   obtain ⟨hy0, hy1⟩ := hkb y (List.mem_of_getElem? hy)
   have hya := actA_at hy1
   have hs1 := cnt_step (c := c) (a := 1) hy
   have hs2 := cnt_step (c := c) (a := 2) hy
   have hcl1 := cnt_le c 1 ((kids p (i : Int)).take j)
   have hcl2 := cnt_le c 2 ((kids p (i : Int)).take j)
   have hcl3 : ((kids p (i : Int)).take j).length ≤ 24 := by rw [List.length_take]; omega
   have hwc1 : IntKind.wrap .i64 (cnt c 1 ((kids p (i : Int)).take j) + 1) = cnt c 1 ((kids p (i : Int)).take j) + 1 := wrap64 (by omega) (by omega)
   have hwc2 : IntKind.wrap .i64 (cnt c 2 ((kids p (i : Int)).take j) + 1) = cnt c 2 ((kids p (i : Int)).take j) + 1 := wrap64 (by omega) (by omega)
   refine AW.skipN (fun _ h => h) ?_
   refine AW.seq ?_
   refine AW.block ?_
   refine rg [0,1,2,7,8,9,10,30] ?_
   intro k hk; simp -dsimp (maxSteps := 2000000) [go_sem, -decide_eq_true_eq, -decide_eq_false_iff_not, hx, haa, hdd, hy, hya, hwc1, hwc2]
   repeat' first | (refine Chk.keys ?_; simp only [go_sem, List.map_cons, List.map_nil, List.flatMap_cons, List.flatMap_nil, List.flatMap_append, List.append_nil, List.nil_append, List.cons_append]; decide +kernel) | apply And.intro | refine hk _ ?_ | intro hg | omega | exact True.intro | (refine And.elim (fun h8 h9 => ?_) (hho ?_) <;> first | assumption | omega) | fail
   all_goals clear hk k
   refine AW.block ?_
   refine rg [0,1,2,7,8,9,10,30,31] ?_
   intro k hk; simp -dsimp [go_sem, -decide_eq_true_eq, -decide_eq_false_iff_not, hx, haa, hdd, hy, hya, hwc1, hwc2]
   repeat' first | apply And.intro | refine hk _ ?_ | intro hg | omega | exact True.intro | (refine And.elim (fun h8 h9 => ?_) (hho ?_) <;> first | assumption | omega) | fail
   all_goals clear hk k
   refine AW.cond rfl ?_ ?_
   ·intro hc; try simp at hc
    all_goals try (exfalso; omega; done)
    all_goals (
     refine rgN [0,1,2,7,8,9,10] (fun _ h => h) ?_
     intro k hk; simp -dsimp [go_sem, -decide_eq_true_eq, -decide_eq_false_iff_not, hx, haa, hdd, hy, hya, hwc1, hwc2]
     repeat' first | apply And.intro | refine hk _ ?_ | intro hg | omega | exact True.intro | (refine And.elim (fun h8 h9 => ?_) (hho ?_) <;> first | assumption | omega) | fail
     all_goals clear hk k
     refine rgK ?_
     intro k hk; simp -dsimp [go_sem, -decide_eq_true_eq, -decide_eq_false_iff_not, hx, haa, hdd, hy, hya, hwc1, hwc2]
     repeat' first | apply And.intro | refine hk _ ?_ | intro hg | omega | exact True.intro | (refine And.elim (fun h8 h9 => ?_) (hho ?_) <;> first | assumption | omega) | fail
     all_goals clear hk k
     show ∃ _, _
     have hw := wrapi hlt (by omega)
     refine ⟨j + 1, by omega, by omega, Less.of rfl (by simp [go_sem, hw, hs1, hs2] <;> grind) (by simp [go_sem])⟩)
   ·intro hc; try simp at hc
    all_goals try (exfalso; omega; done)
    all_goals (
     refine rg [0,1,2,7,8,9,10,35] ?_
     intro k hk; simp -dsimp [go_sem, -decide_eq_true_eq, -decide_eq_false_iff_not, hx, haa, hdd, hy, hya, hwc1, hwc2]
     repeat' first | apply And.intro | refine hk _ ?_ | intro hg | omega | exact True.intro | (refine And.elim (fun h8 h9 => ?_) (hho ?_) <;> first | assumption | omega) | fail
     all_goals clear hk k
     refine AW.cond rfl ?_ ?_
     ·intro hc; try simp at hc
      all_goals try (exfalso; omega; done)
      all_goals (
       refine rgN [0,1,2,7,8,9,10] (fun _ h => h) ?_
       intro k hk; simp -dsimp [go_sem, -decide_eq_true_eq, -decide_eq_false_iff_not, hx, haa, hdd, hy, hya, hwc1, hwc2]
       repeat' first | apply And.intro | refine hk _ ?_ | intro hg | omega | exact True.intro | (refine And.elim (fun h8 h9 => ?_) (hho ?_) <;> first | assumption | omega) | fail
       all_goals clear hk k
       refine rgK ?_
       intro k hk; simp -dsimp [go_sem, -decide_eq_true_eq, -decide_eq_false_iff_not, hx, haa, hdd, hy, hya, hwc1, hwc2]
       repeat' first | apply And.intro | refine hk _ ?_ | intro hg | omega | exact True.intro | (refine And.elim (fun h8 h9 => ?_) (hho ?_) <;> first | assumption | omega) | fail
       all_goals clear hk k
       show ∃ _, _
       have hw := wrapi hlt (by omega)
       refine ⟨j + 1, by omega, by omega, Less.of rfl (by simp [go_sem, hw, hs1, hs2] <;> grind) (by simp [go_sem])⟩)
     ·intro hc; try simp at hc
      all_goals try (exfalso; omega; done)
      all_goals (
       refine AW.skipN (fun _ h => h) ?_
       refine rgK ?_
       intro k hk; simp -dsimp [go_sem, -decide_eq_true_eq, -decide_eq_false_iff_not, hx, haa, hdd, hy, hya, hwc1, hwc2]
       repeat' first | apply And.intro | refine hk _ ?_ | intro hg | omega | exact True.intro | (refine And.elim (fun h8 h9 => ?_) (hho ?_) <;> first | assumption | omega) | fail
       all_goals clear hk k
       show ∃ _, _
       have hw := wrapi hlt (by omega)
       refine ⟨j + 1, by omega, by omega, Less.of rfl (by simp [go_sem, hw, hs1, hs2] <;> grind) (by simp [go_sem])⟩)))
 ·intro hc; try simp at hc
  all_goals try (exfalso; omega; done)
  all_goals (
   refine AW.exitN (fun _ h => h) ?_
   refine AW.seq ?_
   have htk : ((kids p (i : Int)).take j) = (kids p (i : Int)) := List.take_of_length_le (by omega)
   rw [htk]
   refine rg [0,1,2,7,8,9,46] ?_
   intro k hk; simp -dsimp (maxSteps := 2000000) [go_sem, -decide_eq_true_eq, -decide_eq_false_iff_not, hx, haa, hdd]
   repeat' first | apply And.intro | refine hk _ ?_ | intro hg | omega | exact True.intro | (refine And.elim (fun h8 h9 => ?_) (hho ?_) <;> first | assumption | omega) | fail
   all_goals clear hk k
   refine AW.cond rfl ?_ ?_
   ·intro hc; try simp at hc
    all_goals try (exfalso; omega; done)
    all_goals (
     refine rg [6] ?_
     intro k hk; simp +contextual -dsimp (maxSteps := 2000000) [go_sem, -decide_eq_true_eq, -decide_eq_false_iff_not, hx, haa, hdd, hwn]
     repeat' first | apply And.intro | refine hk _ ?_ | (intro hg; try simp only [decide_eq_true_eq, decide_eq_false_iff_not] at hg) | omega | exact True.intro | (refine And.elim (fun h8 h9 => ?_) (hho ?_) <;> first | assumption | omega) | fail
     all_goals clear hk k
     all_goals (
      refine rt ?_
      rw [wrong9_at hx]
      simp [go_sem, Tryz.results57] at * <;> grind))
   ·intro hc; try simp at hc
    all_goals try (exfalso; omega; done)
    all_goals (
     refine AW.skipN (fun _ h => h) ?_
     refine rg [0,1,2,7,8,9,11] ?_
     intro k hk; simp -dsimp (maxSteps := 2000000) [go_sem, -decide_eq_true_eq, -decide_eq_false_iff_not, hx, haa, hdd]
     repeat' first | apply And.intro | refine hk _ ?_ | intro hg | omega | exact True.intro | (refine And.elim (fun h8 h9 => ?_) (hho ?_) <;> first | assumption | omega) | fail
     all_goals clear hk k
     refine AW.seq ?_
     refine rg [1,7,8,9,11,73] ?_
     intro k hk; simp -dsimp [go_sem, -decide_eq_true_eq, -decide_eq_false_iff_not, hx, haa, hdd]
     repeat' first | apply And.intro | refine hk _ ?_ | intro hg | omega | exact True.intro | (refine And.elim (fun h8 h9 => ?_) (hho ?_) <;> first | assumption | omega) | fail
     all_goals clear hk k
     refine AW.block ?_
     refine AW.seq ?_
     refine rg [1,7,8,9,11,73,74] ?_
     intro k hk; simp -dsimp [go_sem, -decide_eq_true_eq, -decide_eq_false_iff_not, hx, haa, hdd]
     repeat' first | apply And.intro | refine hk _ ?_ | intro hg | omega | exact True.intro | (refine And.elim (fun h8 h9 => ?_) (hho ?_) <;> first | assumption | omega) | fail
     all_goals clear hk k
     refine AW.cond rfl ?_ ?_
     ·intro hc; try simp at hc
      all_goals try (exfalso; omega; done)
      all_goals (
       refine AW.skipN (fun _ h => h) ?_
       refine AW.cond rfl ?_ ?_
       ·intro hc; try simp at hc
        all_goals try (exfalso; omega; done)
        all_goals (
         refine rg [6] ?_
         intro k hk; simp +contextual -dsimp (maxSteps := 2000000) [go_sem, -decide_eq_true_eq, -decide_eq_false_iff_not, hx, haa, hdd]
         repeat' first | apply And.intro | refine hk _ ?_ | (intro hg; try simp only [decide_eq_true_eq, decide_eq_false_iff_not] at hg) | omega | exact True.intro | (refine And.elim (fun h8 h9 => ?_) (hho ?_) <;> first | assumption | omega) | fail
         all_goals clear hk k
         all_goals (
          refine rt ?_
          rw [wrong9_at hx]
          simp [go_sem, Tryz.results57] at * <;> grind))
       ·intro hc; try simp at hc
        all_goals try (exfalso; omega; done)
        all_goals (
         refine rg [1,7,8,9,11,73,86] ?_
         intro k hk; simp -dsimp [go_sem, -decide_eq_true_eq, -decide_eq_false_iff_not, hx, haa, hdd]
         repeat' first | apply And.intro | refine hk _ ?_ | intro hg | omega | exact True.intro | (refine And.elim (fun h8 h9 => ?_) (hho ?_) <;> first | assumption | omega) | fail
         all_goals clear hk k
         refine AW.cond rfl ?_ ?_
         ·intro hc; try simp at hc
          all_goals try (exfalso; omega; done)
          all_goals (
           refine rg [6] ?_
           intro k hk; simp +contextual -dsimp (maxSteps := 2000000) [go_sem, -decide_eq_true_eq, -decide_eq_false_iff_not, hx, haa, hdd, hwn]
           repeat' first | apply And.intro | refine hk _ ?_ | (intro hg; try simp only [decide_eq_true_eq, decide_eq_false_iff_not] at hg) | omega | exact True.intro | (refine And.elim (fun h8 h9 => ?_) (hho ?_) <;> first | assumption | omega) | fail
           all_goals clear hk k
           all_goals (
            refine rt ?_
            rw [wrong9_at hx]
            simp [go_sem, Tryz.results57] at * <;> grind))
         ·intro hc; try simp at hc
          all_goals try (exfalso; omega; done)
          all_goals (
           refine rg [1,7,8,9,11,73,101] ?_
           intro k hk; simp -dsimp [go_sem, -decide_eq_true_eq, -decide_eq_false_iff_not, hx, haa, hdd]
           repeat' first | apply And.intro | refine hk _ ?_ | intro hg | omega | exact True.intro | (refine And.elim (fun h8 h9 => ?_) (hho ?_) <;> first | assumption | omega) | fail
           all_goals clear hk k
           refine AW.cond rfl ?_ ?_
           ·intro hc; try simp at hc
            all_goals try (exfalso; omega; done)
            all_goals (
             have hh0 : cnt c 1 (kids p (i : Int)) = 1 → (kids p (i : Int)) ≠ [] := fun h => cnt_kids (show 0 < cnt c 1 (kids p (i : Int)) by omega)
             have hho : cnt c 1 (kids p (i : Int)) = 1 → 0 ≤ headI (kids p (i : Int)) ∧ (headI (kids p (i : Int))).toNat < c.acts.length := fun h => hkb _ (List.mem_of_getElem? (head_at (hh0 h)))
             have hhd : decide (cnt c 1 (kids p (i : Int)) = 1) = true → (kids p (i : Int))[0]? = some (headI (kids p (i : Int))) := fun h => head_at (hh0 (by simpa using h))
             have hha : decide (cnt c 1 (kids p (i : Int)) = 1) = true → c.acts[(headI (kids p (i : Int))).toNat]? = some (actA c (headI (kids p (i : Int)))) := fun h => actA_at (hho (by simpa using h)).2
             refine rg [6] ?_
             intro k hk; simp +contextual -dsimp (maxSteps := 2000000) [go_sem, -decide_eq_true_eq, -decide_eq_false_iff_not, hx, haa, hdd, hhd, hha]
             repeat' first | (refine Chk.keys ?_; simp only [go_sem, List.map_cons, List.map_nil, List.flatMap_cons, List.flatMap_nil, List.flatMap_append, List.append_nil, List.nil_append, List.cons_append]; decide +kernel) | apply And.intro | refine hk _ ?_ | (intro hg; try simp only [decide_eq_true_eq, decide_eq_false_iff_not] at hg) | omega | exact True.intro | (refine And.elim (fun h8 h9 => ?_) (hho ?_) <;> first | assumption | omega) | fail
             all_goals clear hk k
             all_goals (
              refine rt ?_
              rw [wrong9_at hx]
              simp [go_sem, Tryz.results57] at * <;> grind))
           ·intro hc; try simp at hc
            all_goals try (exfalso; omega; done)
            all_goals (
             refine rg [11,73,123] ?_
             intro k hk; simp -dsimp [go_sem, -decide_eq_true_eq, -decide_eq_false_iff_not, hx, haa, hdd]
             repeat' first | apply And.intro | refine hk _ ?_ | intro hg | omega | exact True.intro | (refine And.elim (fun h8 h9 => ?_) (hho ?_) <;> first | assumption | omega) | fail
             all_goals clear hk k
             refine AW.cond rfl ?_ ?_
             ·intro hc; try simp at hc
              all_goals try (exfalso; omega; done)
              all_goals (
               refine rg [6] ?_
               intro k hk; simp -dsimp [go_sem, -decide_eq_true_eq, -decide_eq_false_iff_not, hx, haa, hdd]
               repeat' first | apply And.intro | refine hk _ ?_ | intro hg | omega | exact True.intro | (refine And.elim (fun h8 h9 => ?_) (hho ?_) <;> first | assumption | omega) | fail
               all_goals clear hk k
               refine rt ?_
               rw [wrong9_at hx]
               simp [go_sem, Tryz.results57] at * <;> grind)
             ·intro hc; try simp at hc
              all_goals try (exfalso; omega; done)
              all_goals (
               refine rg [11,127] ?_
               intro k hk; simp -dsimp [go_sem, -decide_eq_true_eq, -decide_eq_false_iff_not, hx, haa, hdd]
               repeat' first | apply And.intro | refine hk _ ?_ | intro hg | omega | exact True.intro | (refine And.elim (fun h8 h9 => ?_) (hho ?_) <;> first | assumption | omega) | fail
               all_goals clear hk k
               refine AW.cond rfl ?_ ?_
               ·intro hc; try simp at hc
                all_goals try (exfalso; omega; done)
                all_goals (
                 refine rg [6] ?_
                 intro k hk; simp -dsimp [go_sem, -decide_eq_true_eq, -decide_eq_false_iff_not, hx, haa, hdd]
                 repeat' first | apply And.intro | refine hk _ ?_ | intro hg | omega | exact True.intro | (refine And.elim (fun h8 h9 => ?_) (hho ?_) <;> first | assumption | omega) | fail
                 all_goals clear hk k
                 refine rt ?_
                 rw [wrong9_at hx]
                 simp [go_sem, Tryz.results57] at * <;> grind)
               ·intro hc; try simp at hc
                all_goals try (exfalso; omega; done)
                all_goals (
                 refine AW.skipN (fun _ h => h) ?_
                 refine rg [6] ?_
                 intro k hk; simp -dsimp [go_sem, -decide_eq_true_eq, -decide_eq_false_iff_not, hx, haa, hdd]
                 repeat' first | apply And.intro | refine hk _ ?_ | intro hg | omega | exact True.intro | (refine And.elim (fun h8 h9 => ?_) (hho ?_) <;> first | assumption | omega) | fail
                 all_goals clear hk k
                 refine rt ?_
                 rw [wrong9_at hx]
                 simp [go_sem, Tryz.results57] at * <;> grind))))))
     ·intro hc; try simp at hc
      all_goals try (exfalso; omega; done)
      all_goals (
       refine rgN [1,7,8,9,11,73,74] (fun _ h => h) ?_
       intro k hk; simp -dsimp [go_sem, -decide_eq_true_eq, -decide_eq_false_iff_not, hx, haa, hdd]
       repeat' first | apply And.intro | refine hk _ ?_ | intro hg | omega | exact True.intro | (refine And.elim (fun h8 h9 => ?_) (hho ?_) <;> first | assumption | omega) | fail
       all_goals clear hk k
       refine AW.cond rfl ?_ ?_
       ·intro hc; try simp at hc
        all_goals try (exfalso; omega; done)
        all_goals (
         refine rg [6] ?_
         intro k hk; simp +contextual -dsimp (maxSteps := 2000000) [go_sem, -decide_eq_true_eq, -decide_eq_false_iff_not, hx, haa, hdd]
         repeat' first | apply And.intro | refine hk _ ?_ | (intro hg; try simp only [decide_eq_true_eq, decide_eq_false_iff_not] at hg) | omega | exact True.intro | (refine And.elim (fun h8 h9 => ?_) (hho ?_) <;> first | assumption | omega) | fail
         all_goals clear hk k
         all_goals (
          refine rt ?_
          rw [wrong9_at hx]
          simp [go_sem, Tryz.results57] at * <;> grind))
       ·intro hc; try simp at hc
        all_goals try (exfalso; omega; done)
        all_goals (
         refine rg [1,7,8,9,11,73,86] ?_
         intro k hk; simp -dsimp [go_sem, -decide_eq_true_eq, -decide_eq_false_iff_not, hx, haa, hdd]
         repeat' first | apply And.intro | refine hk _ ?_ | intro hg | omega | exact True.intro | (refine And.elim (fun h8 h9 => ?_) (hho ?_) <;> first | assumption | omega) | fail
         all_goals clear hk k
         refine AW.cond rfl ?_ ?_
         ·intro hc; try simp at hc
          all_goals try (exfalso; omega; done)
          all_goals (
           refine rg [6] ?_
           intro k hk; simp +contextual -dsimp (maxSteps := 2000000) [go_sem, -decide_eq_true_eq, -decide_eq_false_iff_not, hx, haa, hdd, hwn]
           repeat' first | apply And.intro | refine hk _ ?_ | (intro hg; try simp only [decide_eq_true_eq, decide_eq_false_iff_not] at hg) | omega | exact True.intro | (refine And.elim (fun h8 h9 => ?_) (hho ?_) <;> first | assumption | omega) | fail
           all_goals clear hk k
           all_goals (
            refine rt ?_
            rw [wrong9_at hx]
            simp [go_sem, Tryz.results57] at * <;> grind))
         ·intro hc; try simp at hc
          all_goals try (exfalso; omega; done)
          all_goals (
           refine rg [1,7,8,9,11,73,101] ?_
           intro k hk; simp -dsimp [go_sem, -decide_eq_true_eq, -decide_eq_false_iff_not, hx, haa, hdd]
           repeat' first | apply And.intro | refine hk _ ?_ | intro hg | omega | exact True.intro | (refine And.elim (fun h8 h9 => ?_) (hho ?_) <;> first | assumption | omega) | fail
           all_goals clear hk k
           refine AW.cond rfl ?_ ?_
           ·intro hc; try simp at hc
            all_goals try (exfalso; omega; done)
            all_goals (
             have hh0 : cnt c 1 (kids p (i : Int)) = 1 → (kids p (i : Int)) ≠ [] := fun h => cnt_kids (show 0 < cnt c 1 (kids p (i : Int)) by omega)
             have hho : cnt c 1 (kids p (i : Int)) = 1 → 0 ≤ headI (kids p (i : Int)) ∧ (headI (kids p (i : Int))).toNat < c.acts.length := fun h => hkb _ (List.mem_of_getElem? (head_at (hh0 h)))
             have hhd : decide (cnt c 1 (kids p (i : Int)) = 1) = true → (kids p (i : Int))[0]? = some (headI (kids p (i : Int))) := fun h => head_at (hh0 (by simpa using h))
             have hha : decide (cnt c 1 (kids p (i : Int)) = 1) = true → c.acts[(headI (kids p (i : Int))).toNat]? = some (actA c (headI (kids p (i : Int)))) := fun h => actA_at (hho (by simpa using h)).2
             refine rg [6] ?_
             intro k hk; simp +contextual -dsimp (maxSteps := 2000000) [go_sem, -decide_eq_true_eq, -decide_eq_false_iff_not, hx, haa, hdd, hhd, hha]
             repeat' first | (refine Chk.keys ?_; simp only [go_sem, List.map_cons, List.map_nil, List.flatMap_cons, List.flatMap_nil, List.flatMap_append, List.append_nil, List.nil_append, List.cons_append]; decide +kernel) | apply And.intro | refine hk _ ?_ | (intro hg; try simp only [decide_eq_true_eq, decide_eq_false_iff_not] at hg) | omega | exact True.intro | (refine And.elim (fun h8 h9 => ?_) (hho ?_) <;> first | assumption | omega) | fail
             all_goals clear hk k
             all_goals (
              refine rt ?_
              rw [wrong9_at hx]
              simp [go_sem, Tryz.results57] at * <;> grind))
           ·intro hc; try simp at hc
            all_goals try (exfalso; omega; done)
            all_goals (
             refine rg [11,73,123] ?_
             intro k hk; simp -dsimp [go_sem, -decide_eq_true_eq, -decide_eq_false_iff_not, hx, haa, hdd]
             repeat' first | apply And.intro | refine hk _ ?_ | intro hg | omega | exact True.intro | (refine And.elim (fun h8 h9 => ?_) (hho ?_) <;> first | assumption | omega) | fail
             all_goals clear hk k
             refine AW.cond rfl ?_ ?_
             ·intro hc; try simp at hc
              all_goals try (exfalso; omega; done)
              all_goals (
               refine rg [6] ?_
               intro k hk; simp -dsimp [go_sem, -decide_eq_true_eq, -decide_eq_false_iff_not, hx, haa, hdd]
               repeat' first | apply And.intro | refine hk _ ?_ | intro hg | omega | exact True.intro | (refine And.elim (fun h8 h9 => ?_) (hho ?_) <;> first | assumption | omega) | fail
               all_goals clear hk k
               refine rt ?_
               rw [wrong9_at hx]
               simp [go_sem, Tryz.results57] at * <;> grind)
             ·intro hc; try simp at hc
              all_goals try (exfalso; omega; done)
              all_goals (
               refine rg [11,127] ?_
               intro k hk; simp -dsimp [go_sem, -decide_eq_true_eq, -decide_eq_false_iff_not, hx, haa, hdd]
               repeat' first | apply And.intro | refine hk _ ?_ | intro hg | omega | exact True.intro | (refine And.elim (fun h8 h9 => ?_) (hho ?_) <;> first | assumption | omega) | fail
               all_goals clear hk k
               refine AW.cond rfl ?_ ?_
               ·intro hc; try simp at hc
                all_goals try (exfalso; omega; done)
                all_goals (
                 refine rg [6] ?_
                 intro k hk; simp -dsimp [go_sem, -decide_eq_true_eq, -decide_eq_false_iff_not, hx, haa, hdd]
                 repeat' first | apply And.intro | refine hk _ ?_ | intro hg | omega | exact True.intro | (refine And.elim (fun h8 h9 => ?_) (hho ?_) <;> first | assumption | omega) | fail
                 all_goals clear hk k
                 refine rt ?_
                 rw [wrong9_at hx]
                 simp [go_sem, Tryz.results57] at * <;> grind)
               ·intro hc; try simp at hc
                all_goals try (exfalso; omega; done)
                all_goals (
                 refine AW.skipN (fun _ h => h) ?_
                 refine rg [6] ?_
                 intro k hk; simp -dsimp [go_sem, -decide_eq_true_eq, -decide_eq_false_iff_not, hx, haa, hdd]
                 repeat' first | apply And.intro | refine hk _ ?_ | intro hg | omega | exact True.intro | (refine And.elim (fun h8 h9 => ?_) (hho ?_) <;> first | assumption | omega) | fail
                 all_goals clear hk k
                 refine rt ?_
                 rw [wrong9_at hx]
                 simp [go_sem, Tryz.results57] at * <;> grind))))))))
end Go.AM
namespace Go.AM
open Go.Proofs
theorem dc_spec_l9Fault (p : List TStep) (c : TChart) (hp : p.length ≤ 9223372036854775807) (hg : ∀ e ∈ p, e.gok) (hc0 : c.gok) : DC Tryz.prog 28 [.isl 6 (p.map TStep.ro), .ip c.ro] (.int .i64 (chartF p c)) [] := by
 obtain ⟨g0, g1, g2⟩ := hc0
 refine DC.intro tiOk Tryz.func28 rfl rfl rfl rfl rfl rfl rfl rfl [] ?_
 refine rgA [0,1] ?_
 refine AW.seq ?_
 refine rg [0,1,5] ?_
 intro k hk; simp -dsimp (maxSteps := 2000000) [go_sem, -decide_eq_true_eq, -decide_eq_false_iff_not]
 repeat' first | apply And.intro | refine hk _ ?_ | intro hg | (refine CallK.intro (dc_spec_l4Fault p hp hg) ?_; simp -dsimp (maxSteps := 2000000) [go_sem, -decide_eq_true_eq, -decide_eq_false_iff_not]) | omega | exact True.intro
 all_goals clear hk k
 refine rgA [0,1,5,13] ?_
 refine AW.cond rfl ?_ ?_
 ·intro hc; try simp at hc
  all_goals (
   refine rgA [4] ?_
   refine rt ?_
   first | (rw [chartF_2 h0, if_neg hs, if_neg (by simp [hst]), if_neg (fun h8 => by have h9 := someWrong_hit hlt (show wrong9 p c (i : Int) = true by first | assumption | simpa using hc); rw [h8.2] at h9; cases h9)]; simp [go_sem, Tryz.results28]; done) | (have hie2 : i = p.length := (by omega); rw [hie2] at hwr; rw [chartF_2 h0, if_neg hs, if_neg (by simp [hst]), if_pos ⟨hon, hwr⟩]; simp [go_sem, Tryz.results28]; done) | (rw [chartF_2 h0, if_neg hs, if_neg (by simp [hst]), if_neg (fun h8 => absurd h8.1 (by first | assumption | simpa using hc))]; simp [go_sem, Tryz.results28]; done) | (rw [chartF_2 h0, if_neg hs, if_pos (by assumption), if_pos (hz.1 (by first | assumption | simpa using hc))]; simp [go_sem, Tryz.results28]; done) | (rw [chartF_2 h0, if_neg hs, if_pos (by assumption), if_neg (fun h8 => by have h9 := hz.2 h8; simp_all)]; simp [go_sem, Tryz.results28]; done) | (rw [chartF_2 h0, if_pos (by have h9 := @smallB_miss c.acts 2 i (by omega); have h8 := @smallB_miss c.dues (c.now + 99) i (by omega); rw [← actA_nat] at h9; rw [← dueA_nat] at h8; grind)]; simp [go_sem, Tryz.results28]; done) | (simp [go_sem, Tryz.results28]; unfold chartF; grind))
 ·intro hc; try simp at hc
  all_goals (
   refine AW.skipN (fun _ h => h) ?_
   refine AW.seq ?_
   refine AW.cut ⟨130, [(0, .isl 6 (p.map TStep.ro)), (1, .ip c.ro), (28, .bool (decide (inR c.status 1 3 = false ∨ inR c.now 0 1000000 = false)))], []⟩ ?_ ?_
   ·skip
    refine rgK ?_
    intro k hk; simp +contextual -dsimp (maxSteps := 2000000) [go_sem, -decide_eq_true_eq, -decide_eq_false_iff_not]
    repeat' first | apply And.intro | refine hk _ ?_ | (intro hg; try simp only [decide_eq_true_eq, decide_eq_false_iff_not] at hg) | ((first | refine CallK.intro (dc_spec_l1In _ _ _) ?_ | refine CallK.intro (dc_spec_l8Time _) ?_); simp +contextual -dsimp (maxSteps := 2000000) [go_sem, -decide_eq_true_eq, -decide_eq_false_iff_not]) | omega | exact True.intro
    all_goals clear hk k
    all_goals (show St.Less _ _; exact Less.of rfl (by simp [go_sem] <;> first | omega | grind) (by simp [go_sem]))
   ·skip
    refine AW.cond rfl ?_ ?_
    ·intro hc; try simp at hc
     all_goals (
      refine rgA [4] ?_
      refine rt ?_
      first | (rw [chartF_2 h0, if_neg hs, if_neg (by simp [hst]), if_neg (fun h8 => by have h9 := someWrong_hit hlt (show wrong9 p c (i : Int) = true by first | assumption | simpa using hc); rw [h8.2] at h9; cases h9)]; simp [go_sem, Tryz.results28]; done) | (have hie2 : i = p.length := (by omega); rw [hie2] at hwr; rw [chartF_2 h0, if_neg hs, if_neg (by simp [hst]), if_pos ⟨hon, hwr⟩]; simp [go_sem, Tryz.results28]; done) | (rw [chartF_2 h0, if_neg hs, if_neg (by simp [hst]), if_neg (fun h8 => absurd h8.1 (by first | assumption | simpa using hc))]; simp [go_sem, Tryz.results28]; done) | (rw [chartF_2 h0, if_neg hs, if_pos (by assumption), if_pos (hz.1 (by first | assumption | simpa using hc))]; simp [go_sem, Tryz.results28]; done) | (rw [chartF_2 h0, if_neg hs, if_pos (by assumption), if_neg (fun h8 => by have h9 := hz.2 h8; simp_all)]; simp [go_sem, Tryz.results28]; done) | (rw [chartF_2 h0, if_pos (by have h9 := @smallB_miss c.acts 2 i (by omega); have h8 := @smallB_miss c.dues (c.now + 99) i (by omega); rw [← actA_nat] at h9; rw [← dueA_nat] at h8; grind)]; simp [go_sem, Tryz.results28]; done) | (simp [go_sem, Tryz.results28]; unfold chartF; grind))
    ·intro hc; try simp at hc
     all_goals (
      refine AW.skipN (fun _ h => h) ?_
      refine AW.seq ?_
      have q2 : ¬ (inR c.status 1 3 = false ∨ inR c.now 0 1000000 = false) := by first | assumption | simpa using hc
      refine rg [0,1,6] ?_
      intro k hk; simp -dsimp (maxSteps := 2000000) [go_sem, -decide_eq_true_eq, -decide_eq_false_iff_not]
      repeat' first | apply And.intro | refine hk _ ?_ | intro hg | (refine CallK.intro (dc_spec_VarsFault c.vars g0) ?_; simp -dsimp (maxSteps := 2000000) [go_sem, -decide_eq_true_eq, -decide_eq_false_iff_not]) | omega | exact True.intro
      all_goals clear hk k
      refine rgA [0,1,6,35] ?_
      refine AW.cond rfl ?_ ?_
      ·intro hc; try simp at hc
       all_goals (
        refine rgA [4] ?_
        refine rt ?_
        first | (rw [chartF_2 h0, if_neg hs, if_neg (by simp [hst]), if_neg (fun h8 => by have h9 := someWrong_hit hlt (show wrong9 p c (i : Int) = true by first | assumption | simpa using hc); rw [h8.2] at h9; cases h9)]; simp [go_sem, Tryz.results28]; done) | (have hie2 : i = p.length := (by omega); rw [hie2] at hwr; rw [chartF_2 h0, if_neg hs, if_neg (by simp [hst]), if_pos ⟨hon, hwr⟩]; simp [go_sem, Tryz.results28]; done) | (rw [chartF_2 h0, if_neg hs, if_neg (by simp [hst]), if_neg (fun h8 => absurd h8.1 (by first | assumption | simpa using hc))]; simp [go_sem, Tryz.results28]; done) | (rw [chartF_2 h0, if_neg hs, if_pos (by assumption), if_pos (hz.1 (by first | assumption | simpa using hc))]; simp [go_sem, Tryz.results28]; done) | (rw [chartF_2 h0, if_neg hs, if_pos (by assumption), if_neg (fun h8 => by have h9 := hz.2 h8; simp_all)]; simp [go_sem, Tryz.results28]; done) | (rw [chartF_2 h0, if_pos (by have h9 := @smallB_miss c.acts 2 i (by omega); have h8 := @smallB_miss c.dues (c.now + 99) i (by omega); rw [← actA_nat] at h9; rw [← dueA_nat] at h8; grind)]; simp [go_sem, Tryz.results28]; done) | (simp [go_sem, Tryz.results28]; unfold chartF; grind))
      ·intro hc; try simp at hc
       all_goals (
        refine AW.skipN (fun _ h => h) ?_
        refine AW.seq ?_
        refine AW.cut ⟨130, [(0, .isl 6 (p.map TStep.ro)), (1, .ip c.ro), (54, .bool (decide (c.acts.length ≠ p.length ∨ c.dues.length ≠ p.length)))], []⟩ ?_ ?_
        ·skip
         refine rgK ?_
         intro k hk; simp +contextual -dsimp (maxSteps := 2000000) [go_sem, -decide_eq_true_eq, -decide_eq_false_iff_not]
         repeat' first | apply And.intro | refine hk _ ?_ | (intro hg; try simp only [decide_eq_true_eq, decide_eq_false_iff_not] at hg) | omega | exact True.intro
         all_goals clear hk k
         all_goals (show St.Less _ _; exact Less.of rfl (by simp [go_sem] <;> first | omega | grind) (by simp [go_sem]))
        ·skip
         refine AW.cond rfl ?_ ?_
         ·intro hc; try simp at hc
          all_goals (
           refine rgA [4] ?_
           refine rt ?_
           first | (rw [chartF_2 h0, if_neg hs, if_neg (by simp [hst]), if_neg (fun h8 => by have h9 := someWrong_hit hlt (show wrong9 p c (i : Int) = true by first | assumption | simpa using hc); rw [h8.2] at h9; cases h9)]; simp [go_sem, Tryz.results28]; done) | (have hie2 : i = p.length := (by omega); rw [hie2] at hwr; rw [chartF_2 h0, if_neg hs, if_neg (by simp [hst]), if_pos ⟨hon, hwr⟩]; simp [go_sem, Tryz.results28]; done) | (rw [chartF_2 h0, if_neg hs, if_neg (by simp [hst]), if_neg (fun h8 => absurd h8.1 (by first | assumption | simpa using hc))]; simp [go_sem, Tryz.results28]; done) | (rw [chartF_2 h0, if_neg hs, if_pos (by assumption), if_pos (hz.1 (by first | assumption | simpa using hc))]; simp [go_sem, Tryz.results28]; done) | (rw [chartF_2 h0, if_neg hs, if_pos (by assumption), if_neg (fun h8 => by have h9 := hz.2 h8; simp_all)]; simp [go_sem, Tryz.results28]; done) | (rw [chartF_2 h0, if_pos (by have h9 := @smallB_miss c.acts 2 i (by omega); have h8 := @smallB_miss c.dues (c.now + 99) i (by omega); rw [← actA_nat] at h9; rw [← dueA_nat] at h8; grind)]; simp [go_sem, Tryz.results28]; done) | (simp [go_sem, Tryz.results28]; unfold chartF; grind))
         ·intro hc; try simp at hc
          all_goals (
           refine AW.skipN (fun _ h => h) ?_
           have q1 : procF p = 0 := by assumption
           have q3 : varsF c.vars = 0 := by assumption
           have q4 : ¬ (c.acts.length ≠ p.length ∨ c.dues.length ≠ p.length) := by first | assumption | simpa using hc
           have h0 : chart1 p c = 0 := by rw [chart1, if_neg (by simp [q1]), if_neg q2, if_neg (by simp [q3]), if_neg q4]
           obtain ⟨k1, k2, k3, k4, k5, k6⟩ := chart1_ok h0
           have ho := (procOk k1).steps
           have hlen := ho.len
           have k3' := inR_iff.1 k3
           have hwn : IntKind.wrap .i64 (c.now + 99) = c.now + 99 := wrap64 (by omega) (by omega)
           refine rgA [0,1,7] ?_
           refine AW.seq ?_
           refine rgA [0,1,7,8] ?_
           refine AW.block ?_
           refine AW.loopI (fun i : Nat => ⟨130, [(0, .isl 6 (p.map TStep.ro)), (1, .ip c.ro), (7, .bool (someNZ c i)), (8, .int .i64 i)], []⟩) (fun i => i ≤ p.length ∧ ∀ k : Nat, k < i → inR (actA c k) 0 2 = true ∧ inR (dueA c k) 0 (c.now + 99) = true) (fun i => p.length - i) (0) (by simp) (Less.of rfl (by simp [go_sem, someNZ]) (by simp [go_sem])) ?_
           rintro i ⟨hi, hall⟩
           refine AW.seq ?_
           refine rgA [0,1,7,8,58] ?_
           refine AW.cond rfl ?_ ?_
           ·intro hc; try simp at hc
            all_goals (
             have hlt : i < p.length := by assumption
             have haa := actN_at (c := c) (show i < c.acts.length by omega)
             have hdd := dueN_at (c := c) (show i < c.dues.length by omega)
             have hnz := someNZ_step c i
             refine AW.skipN (fun _ h => h) ?_
             refine AW.seq ?_
             refine AW.block ?_
             refine AW.seq ?_
             refine AW.cut ⟨130, [(0, .isl 6 (p.map TStep.ro)), (1, .ip c.ro), (7, .bool (someNZ c i)), (8, .int .i64 i), (85, .bool (decide (inR (actA c i) 0 2 = false ∨ inR (dueA c i) 0 (c.now + 99) = false)))], []⟩ ?_ ?_
             ·skip
              refine rgK ?_
              intro k hk; simp +contextual -dsimp (maxSteps := 2000000) [go_sem, -decide_eq_true_eq, -decide_eq_false_iff_not, haa, hdd, hwn]
              repeat' first | (refine Chk.keys ?_; simp only [go_sem, List.map_cons, List.map_nil, List.flatMap_cons, List.flatMap_nil, List.flatMap_append, List.append_nil, List.nil_append, List.cons_append]; decide +kernel) | apply And.intro | refine hk _ ?_ | (intro hg; try simp only [decide_eq_true_eq, decide_eq_false_iff_not] at hg) | (refine CallK.intro (dc_spec_l1In _ _ _) ?_; simp +contextual -dsimp (maxSteps := 2000000) [go_sem, -decide_eq_true_eq, -decide_eq_false_iff_not, haa, hdd, hwn]) | omega | exact True.intro
              all_goals clear hk k
              all_goals (show St.Less _ _; exact Less.of rfl (by simp [go_sem] <;> first | omega | grind) (by simp [go_sem]))
             ·skip
              refine AW.cond rfl ?_ ?_
              ·intro hc; try simp at hc
               all_goals (
                refine rg [4] ?_
                intro k hk; simp -dsimp [go_sem, -decide_eq_true_eq, -decide_eq_false_iff_not, haa, hdd]
                repeat' first | apply And.intro | refine hk _ ?_ | intro hg | omega | exact True.intro
                all_goals clear hk k
                refine rt ?_
                first | (rw [chartF_2 h0, if_neg hs, if_neg (by simp [hst]), if_neg (fun h8 => by have h9 := someWrong_hit hlt (show wrong9 p c (i : Int) = true by first | assumption | simpa using hc); rw [h8.2] at h9; cases h9)]; simp [go_sem, Tryz.results28]; done) | (have hie2 : i = p.length := (by omega); rw [hie2] at hwr; rw [chartF_2 h0, if_neg hs, if_neg (by simp [hst]), if_pos ⟨hon, hwr⟩]; simp [go_sem, Tryz.results28]; done) | (rw [chartF_2 h0, if_neg hs, if_neg (by simp [hst]), if_neg (fun h8 => absurd h8.1 (by first | assumption | simpa using hc))]; simp [go_sem, Tryz.results28]; done) | (rw [chartF_2 h0, if_neg hs, if_pos (by assumption), if_pos (hz.1 (by first | assumption | simpa using hc))]; simp [go_sem, Tryz.results28]; done) | (rw [chartF_2 h0, if_neg hs, if_pos (by assumption), if_neg (fun h8 => by have h9 := hz.2 h8; simp_all)]; simp [go_sem, Tryz.results28]; done) | (rw [chartF_2 h0, if_pos (by have h9 := @smallB_miss c.acts 2 i (by omega); have h8 := @smallB_miss c.dues (c.now + 99) i (by omega); rw [← actA_nat] at h9; rw [← dueA_nat] at h8; grind)]; simp [go_sem, Tryz.results28]; done) | (simp [go_sem, Tryz.results28]; unfold chartF; grind))
              ·intro hc; try simp at hc
               all_goals (
                refine AW.skipN (fun _ h => h) ?_
                refine rgN [0,1,7,8] (fun _ h => h) ?_
                intro k hk; simp +contextual -dsimp (maxSteps := 2000000) [go_sem, -decide_eq_true_eq, -decide_eq_false_iff_not, haa, hdd]
                repeat' first | apply And.intro | refine hk _ ?_ | (intro hg; try simp only [decide_eq_true_eq, decide_eq_false_iff_not] at hg) | omega | exact True.intro
                all_goals clear hk k
                all_goals (
                 refine rgK ?_
                 intro k hk; simp -dsimp [go_sem, -decide_eq_true_eq, -decide_eq_false_iff_not, haa, hdd]
                 repeat' first | apply And.intro | refine hk _ ?_ | intro hg | omega | exact True.intro
                 all_goals clear hk k
                 show ∃ _, _
                 have hw := wrapi hlt (by omega)
                 have hb2 : inR (actA c i) 0 2 = true ∧ inR (dueA c i) 0 (c.now + 99) = true := by grind
                 refine ⟨i + 1, ⟨by omega, ?_⟩, by omega, Less.of rfl (by simp [go_sem, hw, hnz] <;> grind) (by simp [go_sem])⟩
                 intro k hk; rcases Nat.eq_or_lt_of_le (Nat.le_of_lt_succ hk) with h9 | h9; (subst h9; exact hb2); exact hall k h9)))
           ·intro hc; try simp at hc
            all_goals (
             refine AW.exitN (fun _ h => h) ?_
             refine AW.seq ?_
             have hie : i = p.length := by omega
             rw [hie] at hall
             rw [hie]
             have hs : ¬ (smallB c.acts 2 = false ∨ smallB c.dues (c.now + 99) = false) := by have e1 : smallB c.acts 2 = true := smallB_iff.2 (fun k hk => by rw [← actA_nat]; exact (hall k (by omega)).1); have e2 : smallB c.dues (c.now + 99) = true := smallB_iff.2 (fun k hk => by rw [← dueA_nat]; exact (hall k (by omega)).2); rw [e1, e2]; simp
             have hz := someNZ_zeros k5 k6
             refine rgA [0,1,7,111] ?_
             refine AW.cond rfl ?_ ?_
             ·intro hc; try simp at hc
              all_goals (
               refine AW.seq ?_
               refine rgA [112] ?_
               refine AW.cond rfl ?_ ?_
               ·intro hc; try simp at hc
                all_goals (
                 refine rgA [4] ?_
                 refine rt ?_
                 first | (rw [chartF_2 h0, if_neg hs, if_neg (by simp [hst]), if_neg (fun h8 => by have h9 := someWrong_hit hlt (show wrong9 p c (i : Int) = true by first | assumption | simpa using hc); rw [h8.2] at h9; cases h9)]; simp [go_sem, Tryz.results28]; done) | (have hie2 : i = p.length := (by omega); rw [hie2] at hwr; rw [chartF_2 h0, if_neg hs, if_neg (by simp [hst]), if_pos ⟨hon, hwr⟩]; simp [go_sem, Tryz.results28]; done) | (rw [chartF_2 h0, if_neg hs, if_neg (by simp [hst]), if_neg (fun h8 => absurd h8.1 (by first | assumption | simpa using hc))]; simp [go_sem, Tryz.results28]; done) | (rw [chartF_2 h0, if_neg hs, if_pos (by assumption), if_pos (hz.1 (by first | assumption | simpa using hc))]; simp [go_sem, Tryz.results28]; done) | (rw [chartF_2 h0, if_neg hs, if_pos (by assumption), if_neg (fun h8 => by have h9 := hz.2 h8; simp_all)]; simp [go_sem, Tryz.results28]; done) | (rw [chartF_2 h0, if_pos (by have h9 := @smallB_miss c.acts 2 i (by omega); have h8 := @smallB_miss c.dues (c.now + 99) i (by omega); rw [← actA_nat] at h9; rw [← dueA_nat] at h8; grind)]; simp [go_sem, Tryz.results28]; done) | (simp [go_sem, Tryz.results28]; unfold chartF; grind))
               ·intro hc; try simp at hc
                all_goals (
                 refine AW.skipN (fun _ h => h) ?_
                 refine rgA [4] ?_
                 refine rt ?_
                 first | (rw [chartF_2 h0, if_neg hs, if_neg (by simp [hst]), if_neg (fun h8 => by have h9 := someWrong_hit hlt (show wrong9 p c (i : Int) = true by first | assumption | simpa using hc); rw [h8.2] at h9; cases h9)]; simp [go_sem, Tryz.results28]; done) | (have hie2 : i = p.length := (by omega); rw [hie2] at hwr; rw [chartF_2 h0, if_neg hs, if_neg (by simp [hst]), if_pos ⟨hon, hwr⟩]; simp [go_sem, Tryz.results28]; done) | (rw [chartF_2 h0, if_neg hs, if_neg (by simp [hst]), if_neg (fun h8 => absurd h8.1 (by first | assumption | simpa using hc))]; simp [go_sem, Tryz.results28]; done) | (rw [chartF_2 h0, if_neg hs, if_pos (by assumption), if_pos (hz.1 (by first | assumption | simpa using hc))]; simp [go_sem, Tryz.results28]; done) | (rw [chartF_2 h0, if_neg hs, if_pos (by assumption), if_neg (fun h8 => by have h9 := hz.2 h8; simp_all)]; simp [go_sem, Tryz.results28]; done) | (rw [chartF_2 h0, if_pos (by have h9 := @smallB_miss c.acts 2 i (by omega); have h8 := @smallB_miss c.dues (c.now + 99) i (by omega); rw [← actA_nat] at h9; rw [← dueA_nat] at h8; grind)]; simp [go_sem, Tryz.results28]; done) | (simp [go_sem, Tryz.results28]; unfold chartF; grind)))
             ·intro hc; try simp at hc
              all_goals (
               refine AW.skipN (fun _ h => h) ?_
               refine AW.seq ?_
               have hst : c.status = 1 := by first | assumption | simpa using hc
               have ha0 := actN_at (c := c) (k := 0) (by omega)
               refine rg [0,1,119] ?_
               intro k hk; simp -dsimp (maxSteps := 2000000) [go_sem, -decide_eq_true_eq, -decide_eq_false_iff_not, ha0]
               repeat' first | apply And.intro | refine hk _ ?_ | intro hg | omega | exact True.intro
               all_goals clear hk k
               refine AW.cond rfl ?_ ?_
               ·intro hc; try simp at hc
                all_goals (
                 refine rgA [4] ?_
                 refine rt ?_
                 first | (rw [chartF_2 h0, if_neg hs, if_neg (by simp [hst]), if_neg (fun h8 => by have h9 := someWrong_hit hlt (show wrong9 p c (i : Int) = true by first | assumption | simpa using hc); rw [h8.2] at h9; cases h9)]; simp [go_sem, Tryz.results28]; done) | (have hie2 : i = p.length := (by omega); rw [hie2] at hwr; rw [chartF_2 h0, if_neg hs, if_neg (by simp [hst]), if_pos ⟨hon, hwr⟩]; simp [go_sem, Tryz.results28]; done) | (rw [chartF_2 h0, if_neg hs, if_neg (by simp [hst]), if_neg (fun h8 => absurd h8.1 (by first | assumption | simpa using hc))]; simp [go_sem, Tryz.results28]; done) | (rw [chartF_2 h0, if_neg hs, if_pos (by assumption), if_pos (hz.1 (by first | assumption | simpa using hc))]; simp [go_sem, Tryz.results28]; done) | (rw [chartF_2 h0, if_neg hs, if_pos (by assumption), if_neg (fun h8 => by have h9 := hz.2 h8; simp_all)]; simp [go_sem, Tryz.results28]; done) | (rw [chartF_2 h0, if_pos (by have h9 := @smallB_miss c.acts 2 i (by omega); have h8 := @smallB_miss c.dues (c.now + 99) i (by omega); rw [← actA_nat] at h9; rw [← dueA_nat] at h8; grind)]; simp [go_sem, Tryz.results28]; done) | (simp [go_sem, Tryz.results28]; unfold chartF; grind))
               ·intro hc; try simp at hc
                all_goals (
                 refine AW.skipN (fun _ h => h) ?_
                 refine AW.seq ?_
                 have hon : actA c 0 = 1 := by first | assumption | simpa using hc
                 refine rgA [0,1,9] ?_
                 refine AW.block ?_
                 refine AW.loopI (fun i : Nat => ⟨130, [(0, .isl 6 (p.map TStep.ro)), (1, .ip c.ro), (9, .int .i64 i)], []⟩) (fun i => i ≤ p.length ∧ someWrong p c i = false) (fun i => p.length - i) (0) (by simp [someWrong]) (Less.of rfl (by simp [go_sem]) (by simp [go_sem])) ?_
                 rintro i ⟨hi, hwr⟩
                 refine AW.seq ?_
                 refine rgA [0,1,9,123] ?_
                 refine AW.cond rfl ?_ ?_
                 ·intro hc; try simp at hc
                  all_goals (
                   have hlt : i < p.length := by assumption
                   refine AW.skipN (fun _ h => h) ?_
                   refine AW.seq ?_
                   refine AW.block ?_
                   refine rg [0,1,9,129] ?_
                   intro k hk; simp -dsimp (maxSteps := 2000000) [go_sem, -decide_eq_true_eq, -decide_eq_false_iff_not]
                   repeat' first | apply And.intro | refine hk _ ?_ | intro hg | (refine CallK.intro (dc_spec_l9Wrong p c ho k5 k6 i hlt) ?_; simp -dsimp (maxSteps := 2000000) [go_sem, -decide_eq_true_eq, -decide_eq_false_iff_not]) | omega | exact True.intro
                   all_goals clear hk k
                   refine AW.cond rfl ?_ ?_
                   ·intro hc; try simp at hc
                    all_goals (
                     refine rgA [4] ?_
                     refine rt ?_
                     first | (rw [chartF_2 h0, if_neg hs, if_neg (by simp [hst]), if_neg (fun h8 => by have h9 := someWrong_hit hlt (show wrong9 p c (i : Int) = true by first | assumption | simpa using hc); rw [h8.2] at h9; cases h9)]; simp [go_sem, Tryz.results28]; done) | (have hie2 : i = p.length := (by omega); rw [hie2] at hwr; rw [chartF_2 h0, if_neg hs, if_neg (by simp [hst]), if_pos ⟨hon, hwr⟩]; simp [go_sem, Tryz.results28]; done) | (rw [chartF_2 h0, if_neg hs, if_neg (by simp [hst]), if_neg (fun h8 => absurd h8.1 (by first | assumption | simpa using hc))]; simp [go_sem, Tryz.results28]; done) | (rw [chartF_2 h0, if_neg hs, if_pos (by assumption), if_pos (hz.1 (by first | assumption | simpa using hc))]; simp [go_sem, Tryz.results28]; done) | (rw [chartF_2 h0, if_neg hs, if_pos (by assumption), if_neg (fun h8 => by have h9 := hz.2 h8; simp_all)]; simp [go_sem, Tryz.results28]; done) | (rw [chartF_2 h0, if_pos (by have h9 := @smallB_miss c.acts 2 i (by omega); have h8 := @smallB_miss c.dues (c.now + 99) i (by omega); rw [← actA_nat] at h9; rw [← dueA_nat] at h8; grind)]; simp [go_sem, Tryz.results28]; done) | (simp [go_sem, Tryz.results28]; unfold chartF; grind))
                   ·intro hc; try simp at hc
                    all_goals (
                     refine AW.skipN (fun _ h => h) ?_
                     refine rgKA ?_
                     show ∃ _, _
                     have hw := wrapi hlt (by omega)
                     have hb2 : wrong9 p c (i : Int) = false := by first | assumption | simpa using hc
                     refine ⟨i + 1, ⟨by omega, by rw [someWrong_step, hwr, hb2]; rfl⟩, by omega, Less.of rfl (by simp [go_sem, hw]) (by simp [go_sem])⟩))
                 ·intro hc; try simp at hc
                  all_goals (
                   refine AW.exitN (fun _ h => h) ?_
                   refine rgA [4] ?_
                   refine rt ?_
                   first | (rw [chartF_2 h0, if_neg hs, if_neg (by simp [hst]), if_neg (fun h8 => by have h9 := someWrong_hit hlt (show wrong9 p c (i : Int) = true by first | assumption | simpa using hc); rw [h8.2] at h9; cases h9)]; simp [go_sem, Tryz.results28]; done) | (have hie2 : i = p.length := (by omega); rw [hie2] at hwr; rw [chartF_2 h0, if_neg hs, if_neg (by simp [hst]), if_pos ⟨hon, hwr⟩]; simp [go_sem, Tryz.results28]; done) | (rw [chartF_2 h0, if_neg hs, if_neg (by simp [hst]), if_neg (fun h8 => absurd h8.1 (by first | assumption | simpa using hc))]; simp [go_sem, Tryz.results28]; done) | (rw [chartF_2 h0, if_neg hs, if_pos (by assumption), if_pos (hz.1 (by first | assumption | simpa using hc))]; simp [go_sem, Tryz.results28]; done) | (rw [chartF_2 h0, if_neg hs, if_pos (by assumption), if_neg (fun h8 => by have h9 := hz.2 h8; simp_all)]; simp [go_sem, Tryz.results28]; done) | (rw [chartF_2 h0, if_pos (by have h9 := @smallB_miss c.acts 2 i (by omega); have h8 := @smallB_miss c.dues (c.now + 99) i (by omega); rw [← actA_nat] at h9; rw [← dueA_nat] at h8; grind)]; simp [go_sem, Tryz.results28]; done) | (simp [go_sem, Tryz.results28]; unfold chartF; grind)))))))))
end Go.AM
