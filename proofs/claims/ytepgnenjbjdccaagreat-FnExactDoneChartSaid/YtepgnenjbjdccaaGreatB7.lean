/- Joined texts: Zi M1 Po O3 Pp O4 Pj Q1 Q5c T3 T4 Ps Pq L22. -/
import Derived.Test.YtepgnenjbjdccaaGreatB1
import Derived.Test.YtepgnenjbjdccaaGreatB2
import Derived.Test.YtepgnenjbjdccaaGreatB3
import Derived.Test.YtepgnenjbjdccaaGreatB4
import Derived.Test.YtepgnenjbjdccaaGreatB5
import Derived.Test.YtepgnenjbjdccaaGreatB6
set_option linter.unusedVariables false
set_option linter.unusedSimpArgs false
set_option maxHeartbeats 600000
set_option maxRecDepth 100000
namespace Go.AM
open Go.Proofs
theorem dc_spec_l9Bad (k : Int) : DC Tryz.prog 29 [.int .i64 k] (.agg [.int .i64 k, .int .i64 0, .int .i64 0, .isl 1 [], .isl 1 [], .isl 1 []]) [] := by
 refine DC.intro tiOk Tryz.func29 rfl rfl rfl rfl rfl rfl rfl rfl [1000] ?_
 refine rgA [0,2] ?_
 refine rgA [2] ?_
 refine rt ?_
 simp [go_sem, Tryz.results29]
set_option maxHeartbeats 4000000 in
theorem dc_spec_DoneChart_bad1 (p : List TStep) (c : TChart) (hp : p.length ≤ 9223372036854775807) (hg : ∀ e ∈ p, e.gok) (hc0 : c.gok) (v : List Int) (gv : v.length ≤ 9223372036854775807) (st : Int) (h1 : chartF p c ≠ 0) : DC Tryz.prog 19 [.isl 6 (p.map TStep.ro), .agg c.ro, .int .i64 st, .isl 1 (v.map I1)] (.agg [.int .i64 (chartF p c), .int .i64 0, .int .i64 0, .isl 1 [], .isl 1 [], .isl 1 []]) [] := by
 have g0 := hc0.1
 have hwl : IntKind.wrap .i64 ((p.length : Int) - 1) = (p.length : Int) - 1 := wrap64 (by omega) (by omega)
 refine DC.intro tiOk Tryz.func19 rfl rfl rfl rfl rfl rfl rfl rfl [1000] ?_
 refine rg [0,2,3,5,8] ?_
 intro k hk; simp -dsimp [go_sem, -decide_eq_true_eq, -decide_eq_false_iff_not, h1, hwl]
 repeat' first | apply And.intro | refine hk _ ?_ | intro hg | omega | exact True.intro
 all_goals clear hk k
 refine AW.seq ?_
 refine rg [0,2,3,5,8,9] ?_
 intro k hk; simp -dsimp (maxSteps := 2000000) [go_sem, -decide_eq_true_eq, -decide_eq_false_iff_not, h1, hwl]
 repeat' first | apply And.intro | refine hk _ ?_ | intro hg | (refine CallK.intro (dc_spec_l9Fault p c hp hg hc0) ?_; simp -dsimp (maxSteps := 2000000) [go_sem, -decide_eq_true_eq, -decide_eq_false_iff_not, h1, hwl]) | omega | exact True.intro
 all_goals clear hk k
 refine rg [0,2,3,5,8,9,15] ?_
 intro k hk; simp -dsimp [go_sem, -decide_eq_true_eq, -decide_eq_false_iff_not, h1, hwl]
 repeat' first | apply And.intro | refine hk _ ?_ | intro hg | omega | exact True.intro
 all_goals clear hk k
 refine AW.cond rfl ?_ ?_
 ·intro hc; try simp [h1] at hc
  all_goals try (exfalso; first | omega | contradiction | (simp_all; done); done)
  all_goals (
   refine rg [8] ?_
   intro k hk; simp -dsimp (maxSteps := 2000000) [go_sem, -decide_eq_true_eq, -decide_eq_false_iff_not, h1, hwl]
   repeat' first | apply And.intro | refine hk _ ?_ | intro hg | (refine CallK.intro (dc_spec_l9Bad _) ?_; simp -dsimp (maxSteps := 2000000) [go_sem, -decide_eq_true_eq, -decide_eq_false_iff_not, h1, hwl]) | omega | exact True.intro
   all_goals clear hk k
   refine rt ?_
   simp [go_sem, Tryz.results19, h1])
 ·intro hc; try simp [h1] at hc
  all_goals try (exfalso; first | omega | contradiction | (simp_all; done); done)
  all_goals (
   refine AW.skipN (fun _ h => h) ?_
   refine AW.seq ?_
   skip)
set_option maxHeartbeats 4000000 in
theorem dc_spec_DoneChart_bad2 (p : List TStep) (c : TChart) (hp : p.length ≤ 9223372036854775807) (hg : ∀ e ∈ p, e.gok) (hc0 : c.gok) (v : List Int) (gv : v.length ≤ 9223372036854775807) (st : Int) (h1 : chartF p c = 0) (h2 : varsF v ≠ 0) : DC Tryz.prog 19 [.isl 6 (p.map TStep.ro), .agg c.ro, .int .i64 st, .isl 1 (v.map I1)] (.agg [.int .i64 (varsF v), .int .i64 0, .int .i64 0, .isl 1 [], .isl 1 [], .isl 1 []]) [] := by
 have g0 := hc0.1
 have hwl : IntKind.wrap .i64 ((p.length : Int) - 1) = (p.length : Int) - 1 := wrap64 (by omega) (by omega)
 refine DC.intro tiOk Tryz.func19 rfl rfl rfl rfl rfl rfl rfl rfl [1000] ?_
 refine rg [0,2,3,5,8] ?_
 intro k hk; simp -dsimp [go_sem, -decide_eq_true_eq, -decide_eq_false_iff_not, h1, h2, hwl]
 repeat' first | apply And.intro | refine hk _ ?_ | intro hg | omega | exact True.intro
 all_goals clear hk k
 refine AW.seq ?_
 refine rg [0,2,3,5,8,9] ?_
 intro k hk; simp -dsimp (maxSteps := 2000000) [go_sem, -decide_eq_true_eq, -decide_eq_false_iff_not, h1, h2, hwl]
 repeat' first | apply And.intro | refine hk _ ?_ | intro hg | (refine CallK.intro (dc_spec_l9Fault p c hp hg hc0) ?_; simp -dsimp (maxSteps := 2000000) [go_sem, -decide_eq_true_eq, -decide_eq_false_iff_not, h1, h2, hwl]) | omega | exact True.intro
 all_goals clear hk k
 refine rg [0,2,3,5,8,9,15] ?_
 intro k hk; simp -dsimp [go_sem, -decide_eq_true_eq, -decide_eq_false_iff_not, h1, h2, hwl]
 repeat' first | apply And.intro | refine hk _ ?_ | intro hg | omega | exact True.intro
 all_goals clear hk k
 refine AW.cond rfl ?_ ?_
 ·intro hc; try simp [h1, h2] at hc
  all_goals try (exfalso; first | omega | contradiction | (simp_all; done); done)
  all_goals (
   skip)
 ·intro hc; try simp [h1, h2] at hc
  all_goals try (exfalso; first | omega | contradiction | (simp_all; done); done)
  all_goals (
   refine AW.skipN (fun _ h => h) ?_
   refine AW.seq ?_
   refine rg [0,2,3,5,8,10] ?_
   intro k hk; simp -dsimp (maxSteps := 2000000) [go_sem, -decide_eq_true_eq, -decide_eq_false_iff_not, h1, h2, hwl]
   repeat' first | apply And.intro | refine hk _ ?_ | intro hg | (refine CallK.intro (dc_spec_VarsFault v gv) ?_; simp -dsimp (maxSteps := 2000000) [go_sem, -decide_eq_true_eq, -decide_eq_false_iff_not, h1, h2, hwl]) | omega | exact True.intro
   all_goals clear hk k
   refine rg [0,2,3,5,8,10,21] ?_
   intro k hk; simp -dsimp [go_sem, -decide_eq_true_eq, -decide_eq_false_iff_not, h1, h2, hwl]
   repeat' first | apply And.intro | refine hk _ ?_ | intro hg | omega | exact True.intro
   all_goals clear hk k
   refine AW.cond rfl ?_ ?_
   ·intro hc; try simp [h1, h2] at hc
    all_goals try (exfalso; first | omega | contradiction | (simp_all; done); done)
    all_goals (
     refine rg [8] ?_
     intro k hk; simp -dsimp (maxSteps := 2000000) [go_sem, -decide_eq_true_eq, -decide_eq_false_iff_not, h1, h2, hwl]
     repeat' first | apply And.intro | refine hk _ ?_ | intro hg | (refine CallK.intro (dc_spec_l9Bad _) ?_; simp -dsimp (maxSteps := 2000000) [go_sem, -decide_eq_true_eq, -decide_eq_false_iff_not, h1, h2, hwl]) | omega | exact True.intro
     all_goals clear hk k
     refine rt ?_
     simp [go_sem, Tryz.results19, h1, h2])
   ·intro hc; try simp [h1, h2] at hc
    all_goals try (exfalso; first | omega | contradiction | (simp_all; done); done)
    all_goals (
     refine AW.skipN (fun _ h => h) ?_
     refine AW.seq ?_
     skip))
set_option maxHeartbeats 4000000 in
theorem dc_spec_DoneChart_n1 (p : List TStep) (c : TChart) (hp : p.length ≤ 9223372036854775807) (hg : ∀ e ∈ p, e.gok) (hc0 : c.gok) (v : List Int) (gv : v.length ≤ 9223372036854775807) (st : Int) (h1 : chartF p c = 0) (h2 : varsF v = 0) (hr : inR st 0 ((p.length : Int) - 1) = false) : DC Tryz.prog 19 [.isl 6 (p.map TStep.ro), .agg c.ro, .int .i64 st, .isl 1 (v.map I1)] (.agg [.int .i64 4, .int .i64 0, .int .i64 0, .isl 1 [], .isl 1 [], .isl 1 []]) [] := by
 have g0 := hc0.1
 have h0 := chart1_of h1
 have hP := procOk (chart1_ok h0).1
 have hw := wfC_of h0
 have hlen := hP.len
 have g0 := hc0.1
 have hwl : IntKind.wrap .i64 ((p.length : Int) - 1) = (p.length : Int) - 1 := wrap64 (by omega) (by omega)
 refine DC.intro tiOk Tryz.func19 rfl rfl rfl rfl rfl rfl rfl rfl [1000] ?_
 refine rg [0,2,3,5,8] ?_
 intro k hk; simp -dsimp [go_sem, -decide_eq_true_eq, -decide_eq_false_iff_not, h1, h2, hr, hwl]
 repeat' first | apply And.intro | refine hk _ ?_ | intro hg | omega | exact True.intro
 all_goals clear hk k
 refine AW.seq ?_
 refine rg [0,2,3,5,8,9] ?_
 intro k hk; simp -dsimp (maxSteps := 2000000) [go_sem, -decide_eq_true_eq, -decide_eq_false_iff_not, h1, h2, hr, hwl]
 repeat' first | apply And.intro | refine hk _ ?_ | intro hg | (refine CallK.intro (dc_spec_l9Fault p c hp hg hc0) ?_; simp -dsimp (maxSteps := 2000000) [go_sem, -decide_eq_true_eq, -decide_eq_false_iff_not, h1, h2, hr, hwl]) | omega | exact True.intro
 all_goals clear hk k
 refine rg [0,2,3,5,8,9,15] ?_
 intro k hk; simp -dsimp [go_sem, -decide_eq_true_eq, -decide_eq_false_iff_not, h1, h2, hr, hwl]
 repeat' first | apply And.intro | refine hk _ ?_ | intro hg | omega | exact True.intro
 all_goals clear hk k
 refine AW.cond rfl ?_ ?_
 ·intro hc; try simp [h1, h2, hr] at hc
  all_goals try (exfalso; first | omega | contradiction | (simp_all; done); done)
  all_goals (
   skip)
 ·intro hc; try simp [h1, h2, hr] at hc
  all_goals try (exfalso; first | omega | contradiction | (simp_all; done); done)
  all_goals (
   refine AW.skipN (fun _ h => h) ?_
   refine AW.seq ?_
   refine rg [0,2,3,5,8,10] ?_
   intro k hk; simp -dsimp (maxSteps := 2000000) [go_sem, -decide_eq_true_eq, -decide_eq_false_iff_not, h1, h2, hr, hwl]
   repeat' first | apply And.intro | refine hk _ ?_ | intro hg | (refine CallK.intro (dc_spec_VarsFault v gv) ?_; simp -dsimp (maxSteps := 2000000) [go_sem, -decide_eq_true_eq, -decide_eq_false_iff_not, h1, h2, hr, hwl]) | omega | exact True.intro
   all_goals clear hk k
   refine rg [0,2,3,5,8,10,21] ?_
   intro k hk; simp -dsimp [go_sem, -decide_eq_true_eq, -decide_eq_false_iff_not, h1, h2, hr, hwl]
   repeat' first | apply And.intro | refine hk _ ?_ | intro hg | omega | exact True.intro
   all_goals clear hk k
   refine AW.cond rfl ?_ ?_
   ·intro hc; try simp [h1, h2, hr] at hc
    all_goals try (exfalso; first | omega | contradiction | (simp_all; done); done)
    all_goals (
     skip)
   ·intro hc; try simp [h1, h2, hr] at hc
    all_goals try (exfalso; first | omega | contradiction | (simp_all; done); done)
    all_goals (
     refine AW.skipN (fun _ h => h) ?_
     refine AW.seq ?_
     refine rg [0,2,3,5,8,45] ?_
     intro k hk; simp +contextual -dsimp (maxSteps := 2000000) [go_sem, -decide_eq_true_eq, -decide_eq_false_iff_not, h1, h2, hr, hwl]
     repeat' first | apply And.intro | refine hk _ ?_ | (intro hg; try simp only [decide_eq_true_eq, decide_eq_false_iff_not] at hg) | (refine CallK.intro (dc_spec_l1In _ _ _) ?_; simp +contextual -dsimp (maxSteps := 2000000) [go_sem, -decide_eq_true_eq, -decide_eq_false_iff_not, h1, h2, hr, hwl]) | omega | exact True.intro
     all_goals clear hk k
     all_goals (
      refine AW.cond rfl ?_ ?_
      ·intro hc; try simp [h1, h2, hr] at hc
       all_goals try (exfalso; first | omega | contradiction | (simp_all; done); done)
       all_goals (
        refine rg [8] ?_
        intro k hk; simp -dsimp (maxSteps := 2000000) [go_sem, -decide_eq_true_eq, -decide_eq_false_iff_not, h1, h2, hr, hwl]
        repeat' first | apply And.intro | refine hk _ ?_ | intro hg | (refine CallK.intro (dc_spec_l9Bad _) ?_; simp -dsimp (maxSteps := 2000000) [go_sem, -decide_eq_true_eq, -decide_eq_false_iff_not, h1, h2, hr, hwl]) | omega | exact True.intro
        all_goals clear hk k
        refine rt ?_
        simp [go_sem, Tryz.results19, h1, h2, hr])
      ·intro hc; try simp [h1, h2, hr] at hc
       all_goals try (exfalso; first | omega | contradiction | (simp_all; done); done)
       all_goals (
        refine AW.skipN (fun _ h => h) ?_
        skip))))
set_option maxHeartbeats 4000000 in
theorem dc_spec_DoneChart_n2 (p : List TStep) (c : TChart) (hp : p.length ≤ 9223372036854775807) (hg : ∀ e ∈ p, e.gok) (hc0 : c.gok) (v : List Int) (gv : v.length ≤ 9223372036854775807) (a : Nat) (h1 : chartF p c = 0) (h2 : varsF v = 0) (ha : a < p.length) (hk : (decide ((nS p a).kind = 2) && decide (actA c a = 1)) = false) : DC Tryz.prog 19 [.isl 6 (p.map TStep.ro), .agg c.ro, .int .i64 (a : Nat), .isl 1 (v.map I1)] (.agg [.int .i64 4, .int .i64 0, .int .i64 0, .isl 1 [], .isl 1 [], .isl 1 []]) [] := by
 have g0 := hc0.1
 have h0 := chart1_of h1
 have hP := procOk (chart1_ok h0).1
 have hw := wfC_of h0
 have hlen := hP.len
 have g0 := hc0.1
 obtain ⟨x, hx⟩ := at_some ha
 have hxn := nS_at hx
 have hx3 : ∀ h, p[a]'h = x := fun h => by have h9 := hx; rw [List.getElem?_eq_getElem h] at h9; exact Option.some.inj h9
 have haa := actN_at (c := c) (show a < c.acts.length by rw [hw.acts]; exact ha)
 have hr : inR (a : Int) 0 ((p.length : Int) - 1) = true := inR_iff.2 (by omega)
 have hac := hw.acts
 have hwl : IntKind.wrap .i64 ((p.length : Int) - 1) = (p.length : Int) - 1 := wrap64 (by omega) (by omega)
 refine DC.intro tiOk Tryz.func19 rfl rfl rfl rfl rfl rfl rfl rfl [1000] ?_
 refine rg [0,2,3,5,8] ?_
 intro k hk; simp -dsimp [go_sem, -decide_eq_true_eq, -decide_eq_false_iff_not, h1, h2, hk, hwl, hr, hx, hx3, haa, hac]
 repeat' first | apply And.intro | refine hk _ ?_ | intro hg | omega | exact True.intro
 all_goals clear hk k
 refine AW.seq ?_
 refine rg [0,2,3,5,8,9] ?_
 intro k hk; simp -dsimp (maxSteps := 2000000) [go_sem, -decide_eq_true_eq, -decide_eq_false_iff_not, h1, h2, hk, hwl, hr, hx, hx3, haa, hac]
 repeat' first | apply And.intro | refine hk _ ?_ | intro hg | (refine CallK.intro (dc_spec_l9Fault p c hp hg hc0) ?_; simp -dsimp (maxSteps := 2000000) [go_sem, -decide_eq_true_eq, -decide_eq_false_iff_not, h1, h2, hk, hwl, hr, hx, hx3, haa, hac]) | omega | exact True.intro
 all_goals clear hk k
 refine rg [0,2,3,5,8,9,15] ?_
 intro k hk; simp -dsimp [go_sem, -decide_eq_true_eq, -decide_eq_false_iff_not, h1, h2, hk, hwl, hr, hx, hx3, haa, hac]
 repeat' first | apply And.intro | refine hk _ ?_ | intro hg | omega | exact True.intro
 all_goals clear hk k
 refine AW.cond rfl ?_ ?_
 ·intro hc; try simp [h1, h2, hk] at hc
  all_goals try (exfalso; first | omega | contradiction | (simp_all; done); done)
  all_goals (
   skip)
 ·intro hc; try simp [h1, h2, hk] at hc
  all_goals try (exfalso; first | omega | contradiction | (simp_all; done); done)
  all_goals (
   refine AW.skipN (fun _ h => h) ?_
   refine AW.seq ?_
   refine rg [0,2,3,5,8,10] ?_
   intro k hk; simp -dsimp (maxSteps := 2000000) [go_sem, -decide_eq_true_eq, -decide_eq_false_iff_not, h1, h2, hk, hwl, hr, hx, hx3, haa, hac]
   repeat' first | apply And.intro | refine hk _ ?_ | intro hg | (refine CallK.intro (dc_spec_VarsFault v gv) ?_; simp -dsimp (maxSteps := 2000000) [go_sem, -decide_eq_true_eq, -decide_eq_false_iff_not, h1, h2, hk, hwl, hr, hx, hx3, haa, hac]) | omega | exact True.intro
   all_goals clear hk k
   refine rg [0,2,3,5,8,10,21] ?_
   intro k hk; simp -dsimp [go_sem, -decide_eq_true_eq, -decide_eq_false_iff_not, h1, h2, hk, hwl, hr, hx, hx3, haa, hac]
   repeat' first | apply And.intro | refine hk _ ?_ | intro hg | omega | exact True.intro
   all_goals clear hk k
   refine AW.cond rfl ?_ ?_
   ·intro hc; try simp [h1, h2, hk] at hc
    all_goals try (exfalso; first | omega | contradiction | (simp_all; done); done)
    all_goals (
     skip)
   ·intro hc; try simp [h1, h2, hk] at hc
    all_goals try (exfalso; first | omega | contradiction | (simp_all; done); done)
    all_goals (
     refine AW.skipN (fun _ h => h) ?_
     refine AW.seq ?_
     obtain ⟨b1, e1⟩ : ∃ b, decide (x.kind = 2) = b := ⟨_, rfl⟩
     cases b1
     all_goals (
      refine rg [0,2,3,5,8,45] ?_
      intro k hk; simp -dsimp (maxSteps := 2000000) [go_sem, -decide_eq_true_eq, -decide_eq_false_iff_not, h1, h2, hk, hwl, hr, hx, hx3, haa, hac, e1]
      repeat' first | apply And.intro | refine hk _ ?_ | (intro hg; try simp only [decide_eq_true_eq, decide_eq_false_iff_not] at hg) | (refine CallK.intro (dc_spec_l1In _ _ _) ?_; simp -dsimp (maxSteps := 2000000) [go_sem, -decide_eq_true_eq, -decide_eq_false_iff_not, h1, h2, hk, hwl, hr, hx, hx3, haa, hac, e1]) | omega | exact True.intro
      all_goals clear hk k
      all_goals (
       refine AW.cond rfl ?_ ?_
       ·intro hc; try simp [h1, h2, hk] at hc
        all_goals try (exfalso; first | omega | contradiction | (simp_all; done); done)
        all_goals (
         refine rg [8] ?_
         intro k hk; simp -dsimp (maxSteps := 2000000) [go_sem, -decide_eq_true_eq, -decide_eq_false_iff_not, h1, h2, hk, hwl, hr, hx, hx3, haa, hac]
         repeat' first | apply And.intro | refine hk _ ?_ | intro hg | (refine CallK.intro (dc_spec_l9Bad _) ?_; simp -dsimp (maxSteps := 2000000) [go_sem, -decide_eq_true_eq, -decide_eq_false_iff_not, h1, h2, hk, hwl, hr, hx, hx3, haa, hac]) | omega | exact True.intro
         all_goals clear hk k
         refine rt ?_
         simp [go_sem, Tryz.results19, h1, h2, hk])
       ·intro hc; try simp [h1, h2, hk] at hc
        all_goals try (exfalso; first | omega | contradiction | (simp_all; done); done)
        all_goals (
         refine AW.skipN (fun _ h => h) ?_
         skip)))))
set_option maxHeartbeats 4000000 in
theorem dc_spec_DoneChart_ok (p : List TStep) (c : TChart) (hp : p.length ≤ 9223372036854775807) (hg : ∀ e ∈ p, e.gok) (hc0 : c.gok) (v : List Int) (gv : v.length ≤ 9223372036854775807) (a : Nat) (h1 : chartF p c = 0) (h2 : varsF v = 0) (ha : a < p.length) (hk : (decide ((nS p a).kind = 2) && decide (actA c a = 1)) = true) (X : TChart) (hX : goF p 800 false a (⟨c.status, c.now, v, c.acts, c.dues⟩ : TChart) = X) : DC Tryz.prog 19 [.isl 6 (p.map TStep.ro), .agg c.ro, .int .i64 (a : Nat), .isl 1 (v.map I1)] (.agg [.int .i64 0, .int .i64 X.status, .int .i64 X.now, .osl 1 (X.vars.map I1), .osl 1 (X.acts.map I1), .osl 1 (X.dues.map I1)]) [] := by
 have g0 := hc0.1
 have h0 := chart1_of h1
 have hP := procOk (chart1_ok h0).1
 have hw := wfC_of h0
 have hlen := hP.len
 have g0 := hc0.1
 obtain ⟨x, hx⟩ := at_some ha
 have hxn := nS_at hx
 have hx3 : ∀ h, p[a]'h = x := fun h => by have h9 := hx; rw [List.getElem?_eq_getElem h] at h9; exact Option.some.inj h9
 have haa := actN_at (c := c) (show a < c.acts.length by rw [hw.acts]; exact ha)
 have hr : inR (a : Int) 0 ((p.length : Int) - 1) = true := inR_iff.2 (by omega)
 have hac := hw.acts
 have hwv := wf_vars hw h2
 have hv4 := (varsOk h2).1
 have nv : v ≠ [] := by intro e; rw [e] at hv4; simp at hv4
 rw [Bool.and_eq_true, hxn] at hk
 have e1 := hk.1
 have e2 := hk.2
 have hk2 : (decide ((nS p a).kind = 2) && decide (actA c a = 1)) = true := by rw [hxn, e1, e2]; rfl
 have hwl : IntKind.wrap .i64 ((p.length : Int) - 1) = (p.length : Int) - 1 := wrap64 (by omega) (by omega)
 refine DC.intro tiOk Tryz.func19 rfl rfl rfl rfl rfl rfl rfl rfl [1000] ?_
 refine rg [0,2,3,5,8] ?_
 intro k hk; simp -dsimp [go_sem, -decide_eq_true_eq, -decide_eq_false_iff_not, h1, h2, hwl, hr, hx, hx3, haa, hac, e1, e2]
 repeat' first | apply And.intro | refine hk _ ?_ | intro hg | omega | exact True.intro
 all_goals clear hk k
 refine AW.seq ?_
 refine rg [0,2,3,5,8,9] ?_
 intro k hk; simp -dsimp (maxSteps := 2000000) [go_sem, -decide_eq_true_eq, -decide_eq_false_iff_not, h1, h2, hwl, hr, hx, hx3, haa, hac, e1, e2]
 repeat' first | apply And.intro | refine hk _ ?_ | intro hg | (refine CallK.intro (dc_spec_l9Fault p c hp hg hc0) ?_; simp -dsimp (maxSteps := 2000000) [go_sem, -decide_eq_true_eq, -decide_eq_false_iff_not, h1, h2, hwl, hr, hx, hx3, haa, hac, e1, e2]) | omega | exact True.intro
 all_goals clear hk k
 refine rg [0,2,3,5,8,9,15] ?_
 intro k hk; simp -dsimp [go_sem, -decide_eq_true_eq, -decide_eq_false_iff_not, h1, h2, hwl, hr, hx, hx3, haa, hac, e1, e2]
 repeat' first | apply And.intro | refine hk _ ?_ | intro hg | omega | exact True.intro
 all_goals clear hk k
 refine AW.cond rfl ?_ ?_
 ·intro hc; try simp [h1, h2] at hc
  all_goals try (exfalso; first | omega | contradiction | (simp_all; done); done)
  all_goals (
   skip)
 ·intro hc; try simp [h1, h2] at hc
  all_goals try (exfalso; first | omega | contradiction | (simp_all; done); done)
  all_goals (
   refine AW.skipN (fun _ h => h) ?_
   refine AW.seq ?_
   refine rg [0,2,3,5,8,10] ?_
   intro k hk; simp -dsimp (maxSteps := 2000000) [go_sem, -decide_eq_true_eq, -decide_eq_false_iff_not, h1, h2, hwl, hr, hx, hx3, haa, hac, e1, e2]
   repeat' first | apply And.intro | refine hk _ ?_ | intro hg | (refine CallK.intro (dc_spec_VarsFault v gv) ?_; simp -dsimp (maxSteps := 2000000) [go_sem, -decide_eq_true_eq, -decide_eq_false_iff_not, h1, h2, hwl, hr, hx, hx3, haa, hac, e1, e2]) | omega | exact True.intro
   all_goals clear hk k
   refine rg [0,2,3,5,8,10,21] ?_
   intro k hk; simp -dsimp [go_sem, -decide_eq_true_eq, -decide_eq_false_iff_not, h1, h2, hwl, hr, hx, hx3, haa, hac, e1, e2]
   repeat' first | apply And.intro | refine hk _ ?_ | intro hg | omega | exact True.intro
   all_goals clear hk k
   refine AW.cond rfl ?_ ?_
   ·intro hc; try simp [h1, h2] at hc
    all_goals try (exfalso; first | omega | contradiction | (simp_all; done); done)
    all_goals (
     skip)
   ·intro hc; try simp [h1, h2] at hc
    all_goals try (exfalso; first | omega | contradiction | (simp_all; done); done)
    all_goals (
     refine AW.skipN (fun _ h => h) ?_
     refine AW.seq ?_
     refine rg [0,2,3,5,8,45] ?_
     intro k hk; simp -dsimp (maxSteps := 2000000) [go_sem, -decide_eq_true_eq, -decide_eq_false_iff_not, h1, h2, hwl, hr, hx, hx3, haa, hac, e1, e2]
     repeat' first | apply And.intro | refine hk _ ?_ | (intro hg; try simp only [decide_eq_true_eq, decide_eq_false_iff_not] at hg) | (refine CallK.intro (dc_spec_l1In _ _ _) ?_; simp -dsimp (maxSteps := 2000000) [go_sem, -decide_eq_true_eq, -decide_eq_false_iff_not, h1, h2, hwl, hr, hx, hx3, haa, hac, e1, e2]) | omega | exact True.intro
     all_goals clear hk k
     all_goals (
      refine AW.cond rfl ?_ ?_
      ·intro hc; try simp [h1, h2] at hc
       all_goals try (exfalso; first | omega | contradiction | (simp_all; done); done)
       all_goals (
        skip)
      ·intro hc; try simp [h1, h2] at hc
       all_goals try (exfalso; first | omega | contradiction | (simp_all; done); done)
       all_goals (
        refine AW.skipN (fun _ h => h) ?_
        refine rg [0,2,3,8,11] ?_
        intro k hk; simp -dsimp (maxSteps := 2000000) [go_sem, -decide_eq_true_eq, -decide_eq_false_iff_not, h1, h2, hwl, hr, hx, hx3, haa, hac, e1, e2]
        repeat' first | apply And.intro | refine hk _ ?_ | intro hg | (refine CallK.intro (dc_spec_l9Copy p hP c hw) ?_; simp -dsimp (maxSteps := 2000000) [go_sem, -decide_eq_true_eq, -decide_eq_false_iff_not, h1, h2, hwl, hr, hx, hx3, haa, hac, e1, e2]) | omega | exact True.intro
        all_goals clear hk k
        refine rg [0,2,8,11] ?_
        intro k hk; simp -dsimp (maxSteps := 2000000) [go_sem, -decide_eq_true_eq, -decide_eq_false_iff_not, h1, h2, hwl, hr, hx, hx3, haa, hac, e1, e2]
        repeat' first | apply And.intro | refine hk _ ?_ | intro hg | (refine CallK.intro (dc_l8I v nv (by omega)) ?_; simp -dsimp (maxSteps := 2000000) [go_sem, -decide_eq_true_eq, -decide_eq_false_iff_not, h1, h2, hwl, hr, hx, hx3, haa, hac, e1, e2]) | omega | exact True.intro
        all_goals clear hk k
        refine AW.fold (nd := ?nd_1) (c := ?c_1) (l := ?l_1) (es := ?es_1) (n := ?n_1) 11 0 2 1050 ?h1_1 ?h2_1 ?h4_1 ?h3_1 ?hn_1 (by decide) ?h6_1 ?kk_1
        (case h1_1 => exact rfl)
        (case h2_1 => exact rfl)
        (case h4_1 => exact rfl)
        (case h3_1 => exact rfl)
        (case hn_1 => simp [hac])
        (case h6_1 => simp [go_sem, hac])
        refine AW.fold (nd := ?nd_2) (c := ?c_2) (l := ?l_2) (es := ?es_2) (n := ?n_2) 11 0 3 2048 ?h1_2 ?h2_2 ?h4_2 ?h3_2 ?hn_2 (by decide) ?h6_2 ?kk_2
        (case h1_2 => exact rfl)
        (case h2_2 => exact rfl)
        (case h4_2 => exact rfl)
        (case h3_2 => exact rfl)
        (case hn_2 => simp [hac])
        (case h6_2 => simp [go_sem, hac])
        refine AW.fold (nd := ?nd_3) (c := ?c_3) (l := ?l_3) (es := ?es_3) (n := ?n_3) 11 0 4 3048 ?h1_3 ?h2_3 ?h4_3 ?h3_3 ?hn_3 (by decide) ?h6_3 ?kk_3
        (case h1_3 => exact rfl)
        (case h2_3 => exact rfl)
        (case h4_3 => exact rfl)
        (case h3_3 => exact rfl)
        (case hn_3 => simp [hac])
        (case h6_3 => simp [go_sem, hac])
        refine AW.reg tiOk (fun _ => [1]) [8,11] ?_
        intro k hk; simp -dsimp (maxSteps := 2000000) [go_sem, -decide_eq_true_eq, -decide_eq_false_iff_not, h1, h2, hwl, hr, hx, hx3, haa, hac, e1, e2]
        repeat' first | apply And.intro | refine hk _ ?_ | intro hg | (refine CallK.intro (dc_over_spec p hP (a : Int) (⟨c.status, c.now, v, c.acts, c.dues⟩ : TChart) (by omega) (by omega) hwv) ?_; simp -dsimp (maxSteps := 2000000) [go_sem, -decide_eq_true_eq, -decide_eq_false_iff_not, h1, h2, hwl, hr, hx, hx3, haa, hac, e1, e2]) | omega | exact True.intro
        all_goals clear hk k
        refine AW.thaw (nd := ?nd_4) (c := ?c_4) (l := ?l_4) (es := ?es_4) 11 0 2 7001 ?h1_4 ?h2_4 ?h3_4 ?h45_4 ?kk_4
        (case h1_4 => exact rfl)
        (case h2_4 => exact rfl)
        (case h3_4 => exact rfl)
        (case h45_4 => simp [go_sem])
        refine AW.thaw (nd := ?nd_5) (c := ?c_5) (l := ?l_5) (es := ?es_5) 11 0 3 7002 ?h1_5 ?h2_5 ?h3_5 ?h45_5 ?kk_5
        (case h1_5 => exact rfl)
        (case h2_5 => exact rfl)
        (case h3_5 => exact rfl)
        (case h45_5 => simp [go_sem])
        refine AW.thaw (nd := ?nd_6) (c := ?c_6) (l := ?l_6) (es := ?es_6) 11 0 4 7003 ?h1_6 ?h2_6 ?h3_6 ?h45_6 ?kk_6
        (case h1_6 => exact rfl)
        (case h2_6 => exact rfl)
        (case h3_6 => exact rfl)
        (case h45_6 => simp [go_sem])
        refine rg [8] ?_
        intro k hk; simp -dsimp [go_sem, -decide_eq_true_eq, -decide_eq_false_iff_not, h1, h2, hwl, hr, hx, hx3, haa, hac, e1, e2]
        repeat' first | apply And.intro | refine hk _ ?_ | intro hg | omega | exact True.intro
        all_goals clear hk k
        refine rt ?_
        simp [go_sem, Tryz.results19, h1, h2, hX]))))
end Go.AM
namespace Go.AM
open Go.Proofs
theorem dc_laws_markText (k : Int) (hk : k ≤ 4611686018427387904) : DC Tryz.prog 41 [.int .i64 k] (.str (mt k)) [] := by
 refine DC.intro tiOk Tryz.func41 rfl rfl rfl rfl rfl rfl rfl rfl [] ?_
 refine rgA [0] ?_
 refine AW.seq ?_
 refine rgA [0,5] ?_
 refine AW.cond rfl ?_ ?_
 ·intro hc; try simp at hc
  all_goals (
   refine rgA [2] ?_
   refine rt ?_
   first | (simp [go_sem, Tryz.results41, mt, *]; done) | (have hz := digs_zero (n := k'.toNat) (k := k') (acc := acc) (by simpa using hc); have hk0 : ¬ k ≤ 0 := (by omega); simp [go_sem, Tryz.results41, mt, hk0, h4, hz]))
 ·intro hc; try simp at hc
  all_goals (
   refine AW.skipN (fun _ h => h) ?_
   refine rgA [0,3] ?_
   refine AW.seq ?_
   refine AW.block ?_
   refine AW.loopI (fun i : Int × List UInt8 => ⟨20, [(0, .int .i64 i.1), (3, .str i.2)], []⟩) (fun i => 0 ≤ i.1 ∧ i.1 * 10 ^ i.2.length ≤ 4611686018427387904 ∧ i.2.length ≤ 19 ∧ digs k.toNat k [] = digs i.1.toNat i.1 i.2) (fun i => i.1.toNat) ((k, [])) (by refine ⟨by omega, by simp; omega, by simp, rfl⟩) (Less.of rfl (by simp [go_sem]) (by simp [go_sem])) ?_
   rintro ⟨k', acc⟩ ⟨h1, h2, h3, h4⟩
   simp only at h1 h2 h3 h4
   refine AW.seq ?_
   refine rgA [0,3,7] ?_
   refine AW.cond rfl ?_ ?_
   ·intro hc; try simp at hc
    all_goals (
     have hlt : 0 < k' := by simpa using hc
     have htm : k'.tmod 10 = k' % 10 := Int.tmod_eq_emod_of_nonneg h1
     have htd : k'.tdiv 10 = k' / 10 := Int.tdiv_eq_ediv_of_nonneg h1
     have hkb := mt_big hlt h2
     have hw1 : IntKind.wrap .i64 (48 + k' % 10) = 48 + k' % 10 := wrap64 (by omega) (by omega)
     have hw2 : IntKind.wrap .i64 (k' / 10) = k' / 10 := wrap64 (by omega) (by omega)
     obtain ⟨hs1, hs2⟩ := mt_step hlt h2
     refine AW.skipN (fun _ h => h) ?_
     refine AW.block ?_
     refine rg [0,3] ?_
     intro k hk; simp -dsimp (maxSteps := 2000000) [go_sem, -decide_eq_true_eq, -decide_eq_false_iff_not, htm, htd, hw1, hw2]
     repeat' first | apply And.intro | refine hk _ ?_ | intro hg | omega | exact True.intro
     all_goals clear hk k
     refine rgK ?_
     intro k hk; simp -dsimp [go_sem, -decide_eq_true_eq, -decide_eq_false_iff_not, htm, htd, hw1, hw2]
     repeat' first | apply And.intro | refine hk _ ?_ | intro hg | omega | exact True.intro
     all_goals clear hk k
     show ∃ _, _
     refine ⟨(k' / 10, b8 (48 + k' % 10) :: acc), ⟨by simp only; omega, by simpa using hs2, by simp; omega, ?_⟩, by simp only; omega, Less.of rfl (by simp [go_sem, hw2]) (by simp [go_sem])⟩
     rw [h4, digs_step hlt])
   ·intro hc; try simp at hc
    all_goals (
     refine AW.exitN (fun _ h => h) ?_
     refine rgA [2] ?_
     refine rt ?_
     first | (simp [go_sem, Tryz.results41, mt, *]; done) | (have hz := digs_zero (n := k'.toNat) (k := k') (acc := acc) (by simpa using hc); have hk0 : ¬ k ≤ 0 := (by omega); simp [go_sem, Tryz.results41, mt, hk0, h4, hz])))
end Go.AM
namespace Go.AM
theorem owc_cases (es : Nat) (l : List (List AV)) : (owc es l = .isl es [] ∧ l = []) ∨ (owc es l = .osl es l ∧ l ≠ []) := by
 cases l with
 | nil => exact Or.inl ⟨rfl, rfl⟩
 | cons x r => exact Or.inr ⟨rfl, by simp⟩
def fN (k : Int) (x : Int) : List AV := [.int .i64 (k + 4 * x), .int .i64 (k + 4 * x + 1), .int .i64 (k + 4 * x + 2), .int .i64 (k + 4 * x + 3)]
theorem fN_eq (k : Int) (i : Nat) : fN k (0 + i) = [.int .i64 (k + 4 * (i : Int)), .int .i64 (k + 4 * (i : Int) + 1), .int .i64 (k + 4 * (i : Int) + 2), .int .i64 (k + 4 * (i : Int) + 3)] := by simp [fN]
def U6 (_ : Int) : List AV := List.replicate 6 .undef
theorem U6_eq (k : Int) : U6 k = [.undef, .undef, .undef, .undef, .undef, .undef] := rfl
def TStep.mn (x : TStep) : Nat := 4 + 4 * x.cond.length + 4 * x.expr.length
def mkS (l : List TStep) : Nat := (l.map TStep.mn).sum
theorem mkS_take {l : List TStep} {i : Nat} {x : TStep} (h : l[i]? = some x) : mkS (l.take (i + 1)) = mkS (l.take i) + x.mn := by
 unfold mkS; rw [List.map_take, List.map_take]; exact sum_take h
theorem mkS_le (l : List TStep) (i : Nat) : mkS (l.take i) ≤ mkS l := by
 unfold mkS; rw [List.map_take]; exact sum_le
theorem mkS_end {l : List TStep} {i : Nat} (h : l.length ≤ i) : mkS (l.take i) = mkS l := by rw [List.take_of_length_le h]
theorem mkS_len (l : List TStep) : l.length ≤ mkS l := by
 unfold mkS
 induction l with
 | nil => simp
 | cons x l ih => simp only [List.map_cons, List.sum_cons, List.length_cons, TStep.mn] at *; omega
theorem mkS_sz (l : List TStep) : mkS l ≤ 4 * (l.length + (l.map TStep.sz).sum) := by
 unfold mkS
 induction l with
 | nil => simp
 | cons x l ih => simp only [List.map_cons, List.sum_cons, List.length_cons, TStep.mn, TStep.sz] at *; omega
theorem mkP_ids {f : Int → List AV} {l : List (List AV)} {k : Int} {i : Nat} (hf : ∀ x, idsL (f x) = []) (hl : l.flatMap idsL = []) : (mkP f l k i).flatMap idsL = [] := by
 unfold mkP
 rw [List.flatMap_append, flatids (f := fun (j : Nat) => f (k + j)) (fun j => hf _)]
 simp only [List.nil_append, List.flatMap_eq_nil_iff] at *
 exact fun x hx => hl x (List.mem_of_mem_drop hx)
end Go.AM
namespace Go.AM
open Go.Proofs
theorem dc_laws_markNodeS_nil (k : Int) : DC Tryz.prog 42 [.isl 4 [], .int .i64 k] (.int .i64 k) [] := by
 refine DC.intro tiOk Tryz.func42 rfl rfl rfl rfl rfl rfl rfl rfl [] ?_
 refine rgA [0,1] ?_
 refine AW.seq ?_
 refine rgA [0,1,5] ?_
 refine AW.block ?_
 refine AW.loopI (fun _ : Nat => ⟨41, [(0, .isl 4 []), (1, .int .i64 k), (5, .int .i64 0)], []⟩) (fun _ => True) (fun _ => 0) (0) (trivial) (Less.of rfl (by simp [go_sem]) (by simp [go_sem])) ?_
 rintro i _
 refine AW.seq ?_
 refine rgA [0,1,5,9] ?_
 refine AW.cond rfl ?_ ?_
 ·intro hc; try simp at hc
  all_goals try (exfalso; first | omega | (simp at hc; done); done)
  all_goals (
   refine AW.skipN (fun _ h => h) ?_
   refine AW.seq ?_
   refine AW.block ?_
   refine rgA [0,1,5] ?_
   refine rgA [0,1,5] ?_
   refine rgA [0,1,5] ?_
   refine rgA [0,1,5] ?_
   refine rgA [0,1,5] ?_
   refine rgA [0,1,5] ?_
   refine rgA [0,1,5] ?_
   refine rgNA [0,1,5] (fun _ h => h) ?_
   refine rgKA ?_
   show ∃ _, _
   exact absurd hc (by simp))
 ·intro hc; try simp at hc
  all_goals try (exfalso; first | omega | (simp at hc; done); done)
  all_goals (
   refine AW.exitN (fun _ h => h) ?_
   refine rgA [4] ?_
   refine rt ?_
   simp [go_sem, Tryz.results42])
theorem dc_laws_markNodeS (l : List TNode) (k : Int) (hk : 0 ≤ k ∧ k + 4 * l.length ≤ 4611686018427387904) : DC Tryz.prog 42 [.osl 4 (l.map TNode.ro), .int .i64 k] (.int .i64 (k + 4 * (l.length : Int))) [] := by
 refine DC.intro tiOk Tryz.func42 rfl rfl rfl rfl rfl rfl rfl rfl [] ?_
 refine rgA [0,1] ?_
 refine AW.seq ?_
 refine rgA [0,1,5] ?_
 refine AW.block ?_
 refine AW.loopI (fun i : Nat => ⟨41, [(0, .sl 1900 4 0 l.length), (1, .int .i64 (k + 4 * (i : Int))), (5, .int .i64 i)], [(1900, some ⟨4, mkP (fN k) (l.map TNode.ro) 0 i⟩)]⟩) (fun i => i ≤ l.length) (fun i => l.length - i) (0) (by simp) (Less.of rfl (by simp [go_sem]) (by simp [go_sem, mkP_zero])) ?_
 rintro i hi
 refine AW.seq ?_
 refine rgA [0,1,5,9] ?_
 refine AW.cond rfl ?_ ?_
 ·intro hc; try simp at hc
  all_goals (
   have hlt : i < l.length := by assumption
   obtain ⟨x, hx⟩ := at_some hlt
   have hp : (mkP (fN k) (l.map TNode.ro) 0 i).length = l.length := by rw [mkP_len (by simpa using hi)]; simp
   have hp2 : (mkP (fN k) (l.map TNode.ro) 0 i)[i]? = some x.ro := mkP_at (by simp [hx])
   have hp3 : ∀ h, (mkP (fN k) (l.map TNode.ro) 0 i)[i]'h = x.ro := fun h => by have h9 := hp2; rw [List.getElem?_eq_getElem h] at h9; exact Option.some.inj h9
   have hwk0 : IntKind.wrap .i64 (k + 4 * (i : Int) + 1) = k + 4 * (i : Int) + 1 := (wrap64 (by omega) (by omega)).trans (by omega)
   have hwk1 : IntKind.wrap .i64 (k + 4 * (i : Int) + 1 + 1) = k + 4 * (i : Int) + 2 := (wrap64 (by omega) (by omega)).trans (by omega)
   have hwk2 : IntKind.wrap .i64 (k + 4 * (i : Int) + 2 + 1) = k + 4 * (i : Int) + 3 := (wrap64 (by omega) (by omega)).trans (by omega)
   have hwk3 : IntKind.wrap .i64 (k + 4 * (i : Int) + 3 + 1) = k + 4 * (i : Int) + 4 := (wrap64 (by omega) (by omega)).trans (by omega)
   have hwv0 : IntKind.wrap .i64 (k + 4 * (i : Int)) = k + 4 * (i : Int) := wrap64 (by omega) (by omega)
   have hwv1 : IntKind.wrap .i64 (k + 4 * (i : Int) + 1) = k + 4 * (i : Int) + 1 := wrap64 (by omega) (by omega)
   have hwv2 : IntKind.wrap .i64 (k + 4 * (i : Int) + 2) = k + 4 * (i : Int) + 2 := wrap64 (by omega) (by omega)
   have hwv3 : IntKind.wrap .i64 (k + 4 * (i : Int) + 3) = k + 4 * (i : Int) + 3 := wrap64 (by omega) (by omega)
   have hwv4 : IntKind.wrap .i64 (k + 4 * (i : Int) + 4) = k + 4 * (i : Int) + 4 := wrap64 (by omega) (by omega)
   refine AW.skipN (fun _ h => h) ?_
   refine AW.seq ?_
   refine AW.block ?_
   refine rg [0,1,5] ?_
   intro k hk; simp -dsimp [go_sem, -decide_eq_true_eq, -decide_eq_false_iff_not, hp, hp2, hp3, hlt, hwk0, hwk1, hwk2, hwk3, hwv0, hwv1, hwv2, hwv3, hwv4]
   repeat' first | apply And.intro | refine hk _ ?_ | intro hg | omega | exact True.intro
   all_goals clear hk k
   refine rg [0,1,5] ?_
   intro k hk; simp -dsimp [go_sem, -decide_eq_true_eq, -decide_eq_false_iff_not, hp, hp2, hp3, hlt, hwk0, hwk1, hwk2, hwk3, hwv0, hwv1, hwv2, hwv3, hwv4]
   repeat' first | apply And.intro | refine hk _ ?_ | intro hg | omega | exact True.intro
   all_goals clear hk k
   refine rg [0,1,5] ?_
   intro k hk; simp -dsimp [go_sem, -decide_eq_true_eq, -decide_eq_false_iff_not, hp, hp2, hp3, hlt, hwk0, hwk1, hwk2, hwk3, hwv0, hwv1, hwv2, hwv3, hwv4]
   repeat' first | apply And.intro | refine hk _ ?_ | intro hg | omega | exact True.intro
   all_goals clear hk k
   refine rg [0,1,5] ?_
   intro k hk; simp -dsimp [go_sem, -decide_eq_true_eq, -decide_eq_false_iff_not, hp, hp2, hp3, hlt, hwk0, hwk1, hwk2, hwk3, hwv0, hwv1, hwv2, hwv3, hwv4]
   repeat' first | apply And.intro | refine hk _ ?_ | intro hg | omega | exact True.intro
   all_goals clear hk k
   refine rg [0,1,5] ?_
   intro k hk; simp -dsimp [go_sem, -decide_eq_true_eq, -decide_eq_false_iff_not, hp, hp2, hp3, hlt, hwk0, hwk1, hwk2, hwk3, hwv0, hwv1, hwv2, hwv3, hwv4]
   repeat' first | apply And.intro | refine hk _ ?_ | intro hg | omega | exact True.intro
   all_goals clear hk k
   refine rg [0,1,5] ?_
   intro k hk; simp -dsimp [go_sem, -decide_eq_true_eq, -decide_eq_false_iff_not, hp, hp2, hp3, hlt, hwk0, hwk1, hwk2, hwk3, hwv0, hwv1, hwv2, hwv3, hwv4]
   repeat' first | apply And.intro | refine hk _ ?_ | intro hg | omega | exact True.intro
   all_goals clear hk k
   refine rg [0,1,5] ?_
   intro k hk; simp -dsimp [go_sem, -decide_eq_true_eq, -decide_eq_false_iff_not, hp, hp2, hp3, hlt, hwk0, hwk1, hwk2, hwk3, hwv0, hwv1, hwv2, hwv3, hwv4]
   repeat' first | apply And.intro | refine hk _ ?_ | intro hg | omega | exact True.intro
   all_goals clear hk k
   refine rgN [0,1,5] (fun _ h => h) ?_
   intro k hk; simp -dsimp [go_sem, -decide_eq_true_eq, -decide_eq_false_iff_not, hp, hp2, hp3, hlt, hwk0, hwk1, hwk2, hwk3, hwv0, hwv1, hwv2, hwv3, hwv4]
   repeat' first | apply And.intro | refine hk _ ?_ | intro hg | omega | exact True.intro
   all_goals clear hk k
   refine rgK ?_
   intro k hk; simp -dsimp [go_sem, -decide_eq_true_eq, -decide_eq_false_iff_not, hp, hp2, hp3, hlt, hwk0, hwk1, hwk2, hwk3, hwv0, hwv1, hwv2, hwv3, hwv4]
   repeat' first | apply And.intro | refine hk _ ?_ | intro hg | omega | exact True.intro
   all_goals clear hk k
   show ∃ _, _
   have hw := wrapi hlt (by omega)
   have hs := mkP_set (f := fN k) (l := l.map TNode.ro) (k := 0) (i := i) (by simpa using hlt)
   rw [fN_eq] at hs
   refine ⟨i + 1, by omega, by omega, Less.of rfl (by simp [go_sem, hw]; omega) (by simp [go_sem, ← hs])⟩)
 ·intro hc; try simp at hc
  all_goals (
   refine AW.exitN (fun _ h => h) ?_
   refine rgA [4] ?_
   refine rt ?_
   obtain rfl : i = l.length := (by omega)
   simp [go_sem, Tryz.results42])
end Go.AM
namespace Go.AM
theorem not_ids_set {l : List (List AV)} {i : Nat} {c : List AV} {n : Nat} (h : l.flatMap idsL = []) (hc : ¬ n ∈ idsL c) : (∀ x, x ∈ l.set i c → ¬ n ∈ idsL x) ↔ True := by
 have h' : ∀ x ∈ l, idsL x = [] := List.flatMap_eq_nil_iff.1 h
 refine ⟨fun _ => True.intro, fun _ x hx => ?_⟩
 cases List.mem_or_eq_of_mem_set hx with
 | inl hx => rw [h' x hx]; simp
 | inr e => rw [e]; exact hc
end Go.AM
namespace Go.AM
open Go.Proofs
set_option maxHeartbeats 4000000 in
theorem dc_laws_markStepS (l : List TStep) (k : Int) (hk : 0 ≤ k ∧ k + (mkS l : Int) ≤ 4611686018427387904) : DC Tryz.prog 15 [.osl 6 (l.map TStep.oc), .int .i64 k] (.int .i64 (k + (mkS l : Int))) [] := by
 have hlk := mkS_len l
 refine DC.intro tiOk Tryz.func15 rfl rfl rfl rfl rfl rfl rfl rfl [] ?_
 refine rgA [0,1] ?_
 refine AW.seq ?_
 refine rgA [0,1,5] ?_
 refine AW.block ?_
 refine AW.loopI (fun i : Nat => ⟨56, [(0, .sl 1900 6 0 l.length), (1, .int .i64 (k + (mkS (l.take i) : Int))), (5, .int .i64 i)], [(1900, some ⟨6, mkP U6 (l.map TStep.oc) 0 i⟩)]⟩) (fun i => i ≤ l.length) (fun i => l.length - i) (0) (by simp) (Less.of rfl (by simp [go_sem, mkS]) (by simp [go_sem, mkP_zero])) ?_
 rintro i hi
 refine AW.seq ?_
 refine rgA [0,1,5,9] ?_
 refine AW.cond rfl ?_ ?_
 ·intro hc; try simp at hc
  all_goals (
   have hlt : i < l.length := by assumption
   obtain ⟨x, hx⟩ := at_some hlt
   have hp : (mkP U6 (l.map TStep.oc) 0 i).length = l.length := by rw [mkP_len (by simpa using hi)]; simp
   have hp2 : (mkP U6 (l.map TStep.oc) 0 i)[i]? = some x.oc := mkP_at (by simp [hx])
   have hp3 : ∀ h, (mkP U6 (l.map TStep.oc) 0 i)[i]'h = x.oc := fun h => by have h9 := hp2; rw [List.getElem?_eq_getElem h] at h9; exact Option.some.inj h9
   have idm : (mkP U6 (l.map TStep.oc) 0 i).flatMap idsL = [] := mkP_ids (by intro x; simp [U6_eq, go_sem]) (by simp [go_sem])
   have hmt := mkS_take hx
   have hml := mkS_le l i
   have hml2 := mkS_le l (i + 1)
   unfold TStep.mn at hmt
   have hwk0 : IntKind.wrap .i64 ((k + (mkS (l.take i) : Int)) + 1) = (k + (mkS (l.take i) : Int)) + 1 := (wrap64 (by omega) (by omega)).trans (by omega)
   have hwk1 : IntKind.wrap .i64 ((k + (mkS (l.take i) : Int)) + 1 + 1) = (k + (mkS (l.take i) : Int)) + 2 := (wrap64 (by omega) (by omega)).trans (by omega)
   have hwk2 : IntKind.wrap .i64 ((k + (mkS (l.take i) : Int)) + 2 + 1) = (k + (mkS (l.take i) : Int)) + 3 := (wrap64 (by omega) (by omega)).trans (by omega)
   have hwk3 : IntKind.wrap .i64 ((k + (mkS (l.take i) : Int)) + 3 + 1) = (k + (mkS (l.take i) : Int)) + 4 := (wrap64 (by omega) (by omega)).trans (by omega)
   have hwv0 : IntKind.wrap .i64 ((k + (mkS (l.take i) : Int))) = (k + (mkS (l.take i) : Int)) := wrap64 (by omega) (by omega)
   have hwv1 : IntKind.wrap .i64 ((k + (mkS (l.take i) : Int)) + 1) = (k + (mkS (l.take i) : Int)) + 1 := wrap64 (by omega) (by omega)
   have hwv2 : IntKind.wrap .i64 ((k + (mkS (l.take i) : Int)) + 2) = (k + (mkS (l.take i) : Int)) + 2 := wrap64 (by omega) (by omega)
   have hwv3 : IntKind.wrap .i64 ((k + (mkS (l.take i) : Int)) + 3) = (k + (mkS (l.take i) : Int)) + 3 := wrap64 (by omega) (by omega)
   refine AW.skipN (fun _ h => h) ?_
   refine AW.seq ?_
   refine AW.block ?_
   rcases owc_cases 4 (x.cond.map TNode.ro) with ⟨hoc, hcn⟩ | ⟨hoc, hcn⟩ <;> rcases owc_cases 4 (x.expr.map TNode.ro) with ⟨hoe, hen⟩ | ⟨hoe, hen⟩
   all_goals (
    refine rg [0,1,5] ?_
    intro k hk; simp -dsimp [go_sem, -decide_eq_true_eq, -decide_eq_false_iff_not, hp, hp2, hp3, hlt, idm, hwk0, hwk1, hwk2, hwk3, hwv0, hwv1, hwv2, hwv3, hoc, hoe]
    repeat' first | apply And.intro | refine hk _ ?_ | intro hg | omega | exact True.intro
    all_goals clear hk k
    refine rg [0,1,5] ?_
    intro k hk; simp -dsimp [go_sem, -decide_eq_true_eq, -decide_eq_false_iff_not, hp, hp2, hp3, hlt, idm, hwk0, hwk1, hwk2, hwk3, hwv0, hwv1, hwv2, hwv3, hoc, hoe]
    repeat' first | apply And.intro | refine hk _ ?_ | intro hg | omega | exact True.intro
    all_goals clear hk k
    refine rg [0,1,5] ?_
    intro k hk; simp -dsimp [go_sem, -decide_eq_true_eq, -decide_eq_false_iff_not, hp, hp2, hp3, hlt, idm, hwk0, hwk1, hwk2, hwk3, hwv0, hwv1, hwv2, hwv3, hoc, hoe]
    repeat' first | apply And.intro | refine hk _ ?_ | intro hg | omega | exact True.intro
    all_goals clear hk k
    refine rg [0,1,5] ?_
    intro k hk; simp -dsimp [go_sem, -decide_eq_true_eq, -decide_eq_false_iff_not, hp, hp2, hp3, hlt, idm, hwk0, hwk1, hwk2, hwk3, hwv0, hwv1, hwv2, hwv3, hoc, hoe]
    repeat' first | apply And.intro | refine hk _ ?_ | intro hg | omega | exact True.intro
    all_goals clear hk k
    refine rg [0,1,5] ?_
    intro k hk; simp -dsimp (maxSteps := 2000000) [go_sem, -decide_eq_true_eq, -decide_eq_false_iff_not, hp, hp2, hp3, hlt, idm, hwk0, hwk1, hwk2, hwk3, hwv0, hwv1, hwv2, hwv3, hoc, hoe]
    repeat' first | apply And.intro | refine hk _ ?_ | intro hg | (refine CallK.intro (dc_laws_markText _ (by omega)) ?_; simp -dsimp (maxSteps := 2000000) [go_sem, -decide_eq_true_eq, -decide_eq_false_iff_not, hp, hp2, hp3, hlt, idm, hwk0, hwk1, hwk2, hwk3, hwv0, hwv1, hwv2, hwv3, hoc, hoe]) | omega | exact True.intro
    all_goals clear hk k
    refine rg [0,1,5] ?_
    intro k hk; simp -dsimp [go_sem, -decide_eq_true_eq, -decide_eq_false_iff_not, hp, hp2, hp3, hlt, idm, hwk0, hwk1, hwk2, hwk3, hwv0, hwv1, hwv2, hwv3, hoc, hoe]
    repeat' first | apply And.intro | refine hk _ ?_ | intro hg | omega | exact True.intro
    all_goals clear hk k
    refine rg [0,1,5] ?_
    intro k hk; simp -dsimp [go_sem, -decide_eq_true_eq, -decide_eq_false_iff_not, hp, hp2, hp3, hlt, idm, hwk0, hwk1, hwk2, hwk3, hwv0, hwv1, hwv2, hwv3, hoc, hoe]
    repeat' first | apply And.intro | refine hk _ ?_ | intro hg | omega | exact True.intro
    all_goals clear hk k
    refine rg [0,1,5] ?_
    intro k hk; simp -dsimp [go_sem, -decide_eq_true_eq, -decide_eq_false_iff_not, hp, hp2, hp3, hlt, idm, hwk0, hwk1, hwk2, hwk3, hwv0, hwv1, hwv2, hwv3, hoc, hoe]
    repeat' first | apply And.intro | refine hk _ ?_ | intro hg | omega | exact True.intro
    all_goals clear hk k
    try refine AW.thaw 1900 i 4 7004 rfl (node_here (by (repeat rw [List.length_set]); omega)) rfl (by simp [go_sem, idm, not_ids_set]) ?_
    refine AW.reg tiOk (fun i => if i = 6 then [0] else []) [0,1,5] ?_
    intro k hk; simp -dsimp (maxSteps := 2000000) [go_sem, -decide_eq_true_eq, -decide_eq_false_iff_not, hp, hp2, hp3, hlt, idm, hwk0, hwk1, hwk2, hwk3, hwv0, hwv1, hwv2, hwv3, hoc, hoe]
    repeat' first | apply And.intro | refine hk _ ?_ | intro hg | ((first | refine CallK.intro (dc_laws_markNodeS x.cond _ (by constructor <;> omega)) ?_ | refine CallK.intro (dc_laws_markNodeS x.expr _ (by constructor <;> omega)) ?_ | refine CallK.intro (dc_laws_markNodeS_nil _) ?_); simp -dsimp (maxSteps := 2000000) [go_sem, -decide_eq_true_eq, -decide_eq_false_iff_not, hp, hp2, hp3, hlt, idm, hwk0, hwk1, hwk2, hwk3, hwv0, hwv1, hwv2, hwv3, hoc, hoe]) | omega | exact True.intro
    all_goals clear hk k
    refine AW.cellUndef 1900 i 4 rfl (node_here (by (repeat rw [List.length_set]); omega)) ?_
    try refine AW.thaw 1900 i 5 7005 rfl (node_here (by (repeat rw [List.length_set]); omega)) rfl (by simp [go_sem, idm, not_ids_set]) ?_
    refine AW.regN tiOk (fun i => if i = 6 then [0] else []) [0,1,5] (fun _ h => h) ?_
    intro k hk; simp -dsimp (maxSteps := 2000000) [go_sem, -decide_eq_true_eq, -decide_eq_false_iff_not, hp, hp2, hp3, hlt, idm, hwk0, hwk1, hwk2, hwk3, hwv0, hwv1, hwv2, hwv3, hoc, hoe]
    repeat' first | apply And.intro | refine hk _ ?_ | intro hg | ((first | refine CallK.intro (dc_laws_markNodeS x.cond _ (by constructor <;> omega)) ?_ | refine CallK.intro (dc_laws_markNodeS x.expr _ (by constructor <;> omega)) ?_ | refine CallK.intro (dc_laws_markNodeS_nil _) ?_); simp -dsimp (maxSteps := 2000000) [go_sem, -decide_eq_true_eq, -decide_eq_false_iff_not, hp, hp2, hp3, hlt, idm, hwk0, hwk1, hwk2, hwk3, hwv0, hwv1, hwv2, hwv3, hoc, hoe]) | omega | exact True.intro
    all_goals clear hk k
    refine AW.rowUndef 1900 i rfl (node_here (by (repeat rw [List.length_set]); omega)) ?_
    refine rgK ?_
    intro k hk; simp -dsimp [go_sem, -decide_eq_true_eq, -decide_eq_false_iff_not, hp, hp2, hp3, hlt, idm, hwk0, hwk1, hwk2, hwk3, hwv0, hwv1, hwv2, hwv3, hoc, hoe]
    repeat' first | apply And.intro | refine hk _ ?_ | intro hg | omega | exact True.intro
    all_goals clear hk k
    show ∃ _, _
    have hw := wrapi hlt (by omega)
    have hs := mkP_set (f := U6) (l := l.map TStep.oc) (k := 0) (i := i) (by simpa using hlt)
    rw [U6_eq] at hs
    have hcl : x.cond = [] ∨ x.cond ≠ [] := Classical.em _
    refine ⟨i + 1, by omega, by omega, Less.of rfl (by simp [go_sem, hw, hmt] <;> first | omega | (simp_all; omega)) (by simp [go_sem, ← hs])⟩))
 ·intro hc; try simp at hc
  all_goals (
   refine AW.exitN (fun _ h => h) ?_
   refine rgA [4] ?_
   refine rt ?_
   rw [mkS_end (by omega)]; simp [go_sem, Tryz.results15])
end Go.AM
namespace Go.AM
attribute [go_sem] renS AV.ren renL
@[go_sem ↓ high] theorem tree_app (a b : List (List AV)) : (∀ c ∈ a ++ b, ∀ x ∈ c, AV.tree x = true) ↔ (∀ c ∈ a, ∀ x ∈ c, AV.tree x = true) ∧ (∀ c ∈ b, ∀ x ∈ c, AV.tree x = true) := List.forall_mem_append
attribute [go_sem ↓ high] I1_treeL B1_treeL S1_treeL
theorem tree_sub {α : Type} {f : α → List AV} {l : List α} (h : (∀ c ∈ l.map f, ∀ x ∈ c, AV.tree x = true) ↔ True) {m : List (List AV)} (hm : ∀ c ∈ m, c ∈ l.map f) : (∀ c ∈ m, ∀ x ∈ c, AV.tree x = true) ↔ True :=
 ⟨fun _ => trivial, fun _ c hc => h.2 trivial c (hm c hc)⟩
@[go_sem ↓ high] theorem B1_treeT (l : List UInt8) (n : Nat) : (∀ c ∈ List.take n (l.map B1), ∀ x ∈ c, AV.tree x = true) ↔ True := tree_sub (B1_treeL l) fun _ => List.mem_of_mem_take
@[go_sem ↓ high] theorem I1_treeT (l : List Int) (n : Nat) : (∀ c ∈ List.take n (l.map I1), ∀ x ∈ c, AV.tree x = true) ↔ True := tree_sub (I1_treeL l) fun _ => List.mem_of_mem_take
@[go_sem ↓ high] theorem S1_treeT (l : List (List UInt8)) (n : Nat) : (∀ c ∈ List.take n (l.map S1), ∀ x ∈ c, AV.tree x = true) ↔ True := tree_sub (S1_treeL l) fun _ => List.mem_of_mem_take
@[go_sem high] theorem B1_comp : (fun x => List.map unown x) ∘ B1 = B1 := rfl
@[go_sem high] theorem I1_comp : (fun x => List.map unown x) ∘ I1 = I1 := rfl
@[go_sem high] theorem S1_comp : (fun x => List.map unown x) ∘ S1 = S1 := rfl
attribute [go_sem] mkL_len
@[go_sem] theorem take_dropl {α β : Type} (f : α → β) (l : List α) (k : Nat) : List.take (l.length - k) (List.drop k (l.map f)) = List.drop k (l.map f) := List.take_of_length_le (by simp)
@[go_sem] theorem take_mkL {α : Type} (g : α → List AV) (f : Int → α) (n : Nat) (k : Int) : List.take n ((mkL f n k).map g) = (mkL f n k).map g := List.take_of_length_le (by simp [mkL])
@[go_sem ↓ high] theorem decB_td (s : List UInt8) (a b : Nat) : decB (List.take a (List.drop b (s.map B1))) = some (List.take a (List.drop b s)) := by rw [← List.map_drop, ← List.map_take]; exact decB_B1 _
@[go_sem ↓ high] theorem decB_dt (s : List UInt8) (a b : Nat) : decB (List.drop a (List.take b (s.map B1))) = some (List.drop a (List.take b s)) := by rw [← List.map_take, ← List.map_drop]; exact decB_B1 _
@[go_sem ↓ high] theorem decB_t (s : List UInt8) (a : Nat) : decB (List.take a (s.map B1)) = some (List.take a s) := by rw [← List.map_take]; exact decB_B1 _
@[go_sem ↓ high] theorem decB_d (s : List UInt8) (a : Nat) : decB (List.drop a (s.map B1)) = some (List.drop a s) := by rw [← List.map_drop]; exact decB_B1 _
@[go_sem] theorem wrap_i64_byte (b : UInt8) : IntKind.wrap .i64 (b.toNat : Int) = (b.toNat : Int) := by have := b.toNat_lt; exact wrap64 (by omega) (by omega)
def sumB (l : List UInt8) (s : Int) : Int := l.foldl (fun s b => (s * 251 + b.toNat) % 65521) s
def pkH (s : List UInt8) : List UInt8 := b8 s.length :: s
def pk (s : List UInt8) : List UInt8 := pkH s ++ [b8 (sumB (pkH s) 1 / 256), b8 (sumB (pkH s) 1)]
def n0 (d : List UInt8) : Nat := (d.headD 0).toNat
def lnT (d : List UInt8) : List UInt8 := (d.take (n0 d + 1)).drop 1
def isL (d : List UInt8) : Bool := decide (n0 d + 3 ≤ d.length) && decide (lineF (lnT d) = 0) && decide (d.take (n0 d + 3) = pk (lnT d))
def rdL : Nat → List UInt8 → List (List UInt8) × Nat
 | 0, _ => ([], 0)
 | f + 1, d => if isL d = true then (lnT d :: (rdL f (d.drop (n0 d + 3))).1, n0 d + 3 + (rdL f (d.drop (n0 d + 3))).2) else ([], 0)
def rd (d : List UInt8) : List (List UInt8) × Nat := rdL d.length d
def whole (d : List UInt8) : Bool := decide ((rd d).2 = d.length)
@[go_sem] theorem mapM_B1 (s : List UInt8) : List.mapM byteOfCell (s.map B1) = some s := decB_B1 s
@[go_sem] theorem mapM_B1_t (s : List UInt8) (a : Nat) : List.mapM byteOfCell (List.take a (s.map B1)) = some (List.take a s) := decB_t s a
@[go_sem] theorem mapM_B1_d (s : List UInt8) (a : Nat) : List.mapM byteOfCell (List.drop a (s.map B1)) = some (List.drop a s) := decB_d s a
@[go_sem high] theorem mapM_comp (s : List UInt8) : List.mapM (byteOfCell ∘ B1) s = some s := by rw [← List.mapM_map]; exact decB_B1 s
end Go.AM
namespace Go.AM
open Go.Proofs
theorem dc_laws_markInt64S (l : List Int) (k : Int) (hk : 0 ≤ k ∧ k + l.length ≤ 4611686018427387904) : DC Tryz.prog 23 [.osl 1 (l.map I1), .int .i64 k] (.int .i64 (k + l.length)) [(0, .osl 1 ((mkL (fun n : Int => n) l.length k).map I1))] := by
 refine DC.intro tiOk Tryz.func23 rfl rfl rfl rfl rfl rfl rfl (by simp [noW, noWo]) [] ?_
 refine rgA [0,1] ?_
 refine AW.seq ?_
 refine rgA [0,1,5] ?_
 refine AW.block ?_
 refine AW.loopI (fun i : Nat => ⟨19, [(0, .sl 1900 1 0 l.length), (1, .int .i64 (k + i)), (5, .int .i64 i)], [(1900, some ⟨1, (mkP (fun n : Int => n) l k i).map I1⟩)]⟩) (fun i => i ≤ l.length) (fun i => l.length - i) (0) (by simp) (Less.of rfl (by simp [go_sem]) (by simp [go_sem, mkP_zero])) ?_
 rintro i hi
 refine AW.seq ?_
 refine rgA [0,1,5,9] ?_
 refine AW.cond rfl ?_ ?_
 ·intro hc; try simp at hc
  all_goals (
   have hlt : i < l.length := by assumption
   obtain ⟨x, hx⟩ := at_some hlt
   have hp := mkP_len (f := (fun n : Int => n)) (k := k) hi
   have hp2 := mkP_at (f := (fun n : Int => n)) (k := k) hx
   have hwk : IntKind.wrap .i64 (k + (i : Int) + 1) = k + (i : Int) + 1 := wrap64 (by omega) (by omega)
   have hwk2 : IntKind.wrap .i64 (k + (i : Int)) = k + (i : Int) := wrap64 (by omega) (by omega)
   refine AW.skipN (fun _ h => h) ?_
   refine AW.seq ?_
   refine AW.block ?_
   refine rg [0,1,5] ?_
   intro k hk; simp -dsimp [go_sem, -decide_eq_true_eq, -decide_eq_false_iff_not, hp, hp2, hwk, hwk2]
   repeat' first | apply And.intro | refine hk _ ?_ | intro hg | omega | exact True.intro
   all_goals clear hk k
   refine rgN [0,1,5] (fun _ h => h) ?_
   intro k hk; simp -dsimp [go_sem, -decide_eq_true_eq, -decide_eq_false_iff_not, hp, hp2, hwk, hwk2]
   repeat' first | apply And.intro | refine hk _ ?_ | intro hg | omega | exact True.intro
   all_goals clear hk k
   refine rgK ?_
   intro k hk; simp -dsimp [go_sem, -decide_eq_true_eq, -decide_eq_false_iff_not, hp, hp2, hwk, hwk2]
   repeat' first | apply And.intro | refine hk _ ?_ | intro hg | omega | exact True.intro
   all_goals clear hk k
   show ∃ _, _
   have hw := wrapi hlt (by omega)
   have hs := mkP_set (f := (fun n : Int => n)) (k := k) hlt
   refine ⟨i + 1, by omega, by omega, Less.of rfl (by simp [go_sem, hw]; omega) (by simp [go_sem, ← hs, List.map_set])⟩)
 ·intro hc; try simp at hc
  all_goals (
   refine AW.exitN (fun _ h => h) ?_
   refine rgA [0,4] ?_
   refine rt ?_
   obtain rfl : i = l.length := by omega
   simp [go_sem, Tryz.results23, mkP_end, mkL_len])
theorem dc_laws_markInt64S_nil (k : Int) : DC Tryz.prog 23 [.isl 1 [], .int .i64 k] (.int .i64 k) [] := by
 refine DC.intro tiOk Tryz.func23 rfl rfl rfl rfl rfl rfl rfl rfl [] ?_
 refine rgA [0,1] ?_
 refine AW.seq ?_
 refine rgA [0,1,5] ?_
 refine AW.block ?_
 refine AW.loopI (fun _ : Nat => ⟨19, [(0, .isl 1 []), (1, .int .i64 k), (5, .int .i64 0)], []⟩) (fun _ => True) (fun _ => 0) (0) (trivial) (Less.of rfl (by simp [go_sem]) (by simp [go_sem])) ?_
 rintro i _
 refine AW.seq ?_
 refine rgA [0,1,5,9] ?_
 refine AW.cond rfl ?_ ?_
 ·intro hc; try simp at hc
  all_goals (
   refine AW.skipN (fun _ h => h) ?_
   refine AW.seq ?_
   refine AW.block ?_
   refine rgA [0,1,5] ?_
   refine rgNA [0,1,5] (fun _ h => h) ?_
   refine rgKA ?_
   show ∃ _, _
   exact absurd hc (by simp))
 ·intro hc; try simp at hc
  all_goals (
   refine AW.exitN (fun _ h => h) ?_
   refine rgA [4] ?_
   refine rt ?_
   simp [go_sem, Tryz.results23])
theorem dc_laws_heldInt64S (n : Nat) (k : Int) (hk : 0 ≤ k ∧ k + n ≤ 4611686018427387904) : DC Tryz.prog 73 [.isl 1 ((mkL (fun n : Int => n) n k).map I1), .int .i64 k] (.int .i64 (k + n)) [] := by
 have hml := mkL_len (f := (fun n : Int => n)) (n := n) (k := k)
 refine DC.intro tiOk Tryz.func73 rfl rfl rfl rfl rfl rfl rfl rfl [] ?_
 refine rg [0,1] ?_
 intro k hk; simp -dsimp [go_sem, -decide_eq_true_eq, -decide_eq_false_iff_not, hml]
 repeat' first | apply And.intro | refine hk _ ?_ | intro hg | omega | exact True.intro
 all_goals clear hk k
 refine AW.seq ?_
 refine rg [0,1,5] ?_
 intro k hk; simp -dsimp [go_sem, -decide_eq_true_eq, -decide_eq_false_iff_not, hml]
 repeat' first | apply And.intro | refine hk _ ?_ | intro hg | omega | exact True.intro
 all_goals clear hk k
 refine AW.block ?_
 refine AW.loopI (fun i : Nat => ⟨21, [(0, .isl 1 ((mkL (fun n : Int => n) n k).map I1)), (1, .int .i64 (k + i)), (5, .int .i64 i)], []⟩) (fun i => i ≤ n) (fun i => n - i) (0) (by simp) (Less.of rfl (by simp [go_sem]) (by simp [go_sem])) ?_
 rintro i hi
 refine AW.seq ?_
 refine rg [0,1,5,9] ?_
 intro k hk; simp -dsimp [go_sem, -decide_eq_true_eq, -decide_eq_false_iff_not, hml]
 repeat' first | apply And.intro | refine hk _ ?_ | intro hg | omega | exact True.intro
 all_goals clear hk k
 refine AW.cond rfl ?_ ?_
 ·intro hc; try simp at hc
  all_goals (
   have hlt : i < n := by assumption
   have hx := mkL_at (f := (fun n : Int => n)) (k := k) hlt
   have hwk : IntKind.wrap .i64 (k + (i : Int) + 1) = k + (i : Int) + 1 := wrap64 (by omega) (by omega)
   have hwk2 : IntKind.wrap .i64 (k + (i : Int)) = k + (i : Int) := wrap64 (by omega) (by omega)
   refine AW.skipN (fun _ h => h) ?_
   refine AW.seq ?_
   refine AW.block ?_
   refine AW.seq ?_
   refine rg [0,1,5,17] ?_
   intro k hk; simp -dsimp [go_sem, -decide_eq_true_eq, -decide_eq_false_iff_not, hml, hx, hwk, hwk2]
   repeat' first | apply And.intro | refine hk _ ?_ | intro hg | omega | exact True.intro
   all_goals clear hk k
   refine AW.cond rfl ?_ ?_
   ·intro hc; try simp at hc
    all_goals (
     refine rg [4] ?_
     intro k hk; simp -dsimp [go_sem, -decide_eq_true_eq, -decide_eq_false_iff_not, hml, hx, hwk, hwk2]
     repeat' first | apply And.intro | refine hk _ ?_ | intro hg | omega | exact True.intro
     all_goals clear hk k
     refine rt ?_
     obtain rfl : i = n := by omega
     simp [go_sem, Tryz.results73])
   ·intro hc; try simp at hc
    all_goals (
     refine AW.skipN (fun _ h => h) ?_
     refine rgN [0,1,5] (fun _ h => h) ?_
     intro k hk; simp -dsimp [go_sem, -decide_eq_true_eq, -decide_eq_false_iff_not, hml, hx, hwk, hwk2]
     repeat' first | apply And.intro | refine hk _ ?_ | intro hg | omega | exact True.intro
     all_goals clear hk k
     refine rgK ?_
     intro k hk; simp -dsimp [go_sem, -decide_eq_true_eq, -decide_eq_false_iff_not, hml, hx, hwk, hwk2]
     repeat' first | apply And.intro | refine hk _ ?_ | intro hg | omega | exact True.intro
     all_goals clear hk k
     show ∃ _, _
     have hw := wrapi hlt (by omega)
     refine ⟨i + 1, by omega, by omega, Less.of rfl (by simp [go_sem, hw]; omega) (by simp [go_sem])⟩))
 ·intro hc; try simp at hc
  all_goals (
   refine AW.exitN (fun _ h => h) ?_
   refine rg [4] ?_
   intro k hk; simp -dsimp [go_sem, -decide_eq_true_eq, -decide_eq_false_iff_not, hml]
   repeat' first | apply And.intro | refine hk _ ?_ | intro hg | omega | exact True.intro
   all_goals clear hk k
   refine rt ?_
   obtain rfl : i = n := by omega
   simp [go_sem, Tryz.results73])
theorem dc_laws_heldInt64S_nil (k : Int) : DC Tryz.prog 73 [.isl 1 [], .int .i64 k] (.int .i64 k) [] := by
 refine DC.intro tiOk Tryz.func73 rfl rfl rfl rfl rfl rfl rfl rfl [] ?_
 refine rgA [0,1] ?_
 refine AW.seq ?_
 refine rgA [0,1,5] ?_
 refine AW.block ?_
 refine AW.loopI (fun _ : Nat => ⟨21, [(0, .isl 1 []), (1, .int .i64 k), (5, .int .i64 0)], []⟩) (fun _ => True) (fun _ => 0) (0) (trivial) (Less.of rfl (by simp [go_sem]) (by simp [go_sem])) ?_
 rintro i _
 refine AW.seq ?_
 refine rgA [0,1,5,9] ?_
 refine AW.cond rfl ?_ ?_
 ·intro hc; try simp at hc
  all_goals (
   refine AW.skipN (fun _ h => h) ?_
   refine AW.seq ?_
   refine AW.block ?_
   refine AW.seq ?_
   refine rgA [0,1,5,17] ?_
   refine AW.cond rfl ?_ ?_
   ·intro hc; try simp at hc
    all_goals (
     refine rgA [4] ?_
     refine rt ?_
     simp [go_sem, Tryz.results73])
   ·intro hc; try simp at hc
    all_goals (
     refine AW.skipN (fun _ h => h) ?_
     refine rgNA [0,1,5] (fun _ h => h) ?_
     refine rgKA ?_
     show ∃ _, _
     exact absurd hc (by simp)))
 ·intro hc; try simp at hc
  all_goals (
   refine AW.exitN (fun _ h => h) ?_
   refine rgA [4] ?_
   refine rt ?_
   simp [go_sem, Tryz.results73])
theorem dc_laws_markChart_ooo (status : Int) (now : Int) (vars : List Int) (acts : List Int) (dues : List Int) (k : Int) (hk : 0 ≤ k ∧ k + vars.length + acts.length + dues.length ≤ 4611686018427387904) : DC Tryz.prog 16 [.agg [.int .i64 status, .int .i64 now, .osl 1 (vars.map I1), .osl 1 (acts.map I1), .osl 1 (dues.map I1)], .int .i64 k] (.int .i64 (k + vars.length + acts.length + dues.length)) [(0, .agg [.int .i64 status, .int .i64 now, .osl 1 ((mkL (fun n : Int => n) vars.length (k)).map I1), .osl 1 ((mkL (fun n : Int => n) acts.length (k + vars.length)).map I1), .osl 1 ((mkL (fun n : Int => n) dues.length (k + vars.length + acts.length)).map I1)])] := by
 refine DC.intro tiOk Tryz.func16 rfl rfl rfl rfl rfl rfl rfl (by simp [noW, noWo]) [] ?_
 refine rgA [0,1,2] ?_
 refine AW.reg tiOk (fun _ => [0]) [0,1,2] ?_
 intro k hk; simp -dsimp (maxSteps := 2000000) [go_sem, -decide_eq_true_eq, -decide_eq_false_iff_not]
 repeat' first | apply And.intro | refine hk _ ?_ | intro hg | ((first | refine CallK.intro (dc_laws_markInt64S _ _ (by constructor <;> omega)) ?_ | refine CallK.intro (dc_laws_markInt64S_nil _) ?_); simp -dsimp (maxSteps := 2000000) [go_sem, -decide_eq_true_eq, -decide_eq_false_iff_not]) | omega | exact True.intro
 all_goals clear hk k
 refine AW.reg tiOk (fun _ => [0]) [0,1,2] ?_
 intro k hk; simp -dsimp (maxSteps := 2000000) [go_sem, -decide_eq_true_eq, -decide_eq_false_iff_not]
 repeat' first | apply And.intro | refine hk _ ?_ | intro hg | ((first | refine CallK.intro (dc_laws_markInt64S _ _ (by constructor <;> omega)) ?_ | refine CallK.intro (dc_laws_markInt64S_nil _) ?_); simp -dsimp (maxSteps := 2000000) [go_sem, -decide_eq_true_eq, -decide_eq_false_iff_not]) | omega | exact True.intro
 all_goals clear hk k
 refine AW.reg tiOk (fun _ => [0]) [0,1] ?_
 intro k hk; simp -dsimp (maxSteps := 2000000) [go_sem, -decide_eq_true_eq, -decide_eq_false_iff_not]
 repeat' first | apply And.intro | refine hk _ ?_ | intro hg | ((first | refine CallK.intro (dc_laws_markInt64S _ _ (by constructor <;> omega)) ?_ | refine CallK.intro (dc_laws_markInt64S_nil _) ?_); simp -dsimp (maxSteps := 2000000) [go_sem, -decide_eq_true_eq, -decide_eq_false_iff_not]) | omega | exact True.intro
 all_goals clear hk k
 refine rgA [0,4] ?_
 refine rt ?_
 simp [go_sem, Tryz.results16, mkL_len]
end Go.AM
namespace Go.AM
open Go.Proofs
theorem dc_laws_markChart_nnn (status : Int) (now : Int) (k : Int) (hk : 0 ≤ k ∧ k ≤ 4611686018427387904) : DC Tryz.prog 16 [.agg [.int .i64 status, .int .i64 now, .isl 1 [], .isl 1 [], .isl 1 []], .int .i64 k] (.int .i64 (k)) [] := by
 refine DC.intro tiOk Tryz.func16 rfl rfl rfl rfl rfl rfl rfl rfl [] ?_
 refine rgA [1,2] ?_
 refine AW.reg tiOk (fun _ => [0]) [1,2] ?_
 intro k hk; simp -dsimp (maxSteps := 2000000) [go_sem, -decide_eq_true_eq, -decide_eq_false_iff_not]
 repeat' first | apply And.intro | refine hk _ ?_ | intro hg | ((first | refine CallK.intro (dc_laws_markInt64S _ _ (by constructor <;> omega)) ?_ | refine CallK.intro (dc_laws_markInt64S_nil _) ?_); simp -dsimp (maxSteps := 2000000) [go_sem, -decide_eq_true_eq, -decide_eq_false_iff_not]) | omega | exact True.intro
 all_goals clear hk k
 refine AW.reg tiOk (fun _ => [0]) [1,2] ?_
 intro k hk; simp -dsimp (maxSteps := 2000000) [go_sem, -decide_eq_true_eq, -decide_eq_false_iff_not]
 repeat' first | apply And.intro | refine hk _ ?_ | intro hg | ((first | refine CallK.intro (dc_laws_markInt64S _ _ (by constructor <;> omega)) ?_ | refine CallK.intro (dc_laws_markInt64S_nil _) ?_); simp -dsimp (maxSteps := 2000000) [go_sem, -decide_eq_true_eq, -decide_eq_false_iff_not]) | omega | exact True.intro
 all_goals clear hk k
 refine AW.reg tiOk (fun _ => [0]) [1] ?_
 intro k hk; simp -dsimp (maxSteps := 2000000) [go_sem, -decide_eq_true_eq, -decide_eq_false_iff_not]
 repeat' first | apply And.intro | refine hk _ ?_ | intro hg | ((first | refine CallK.intro (dc_laws_markInt64S _ _ (by constructor <;> omega)) ?_ | refine CallK.intro (dc_laws_markInt64S_nil _) ?_); simp -dsimp (maxSteps := 2000000) [go_sem, -decide_eq_true_eq, -decide_eq_false_iff_not]) | omega | exact True.intro
 all_goals clear hk k
 refine rgA [4] ?_
 refine rt ?_
 simp [go_sem, Tryz.results16, mkL_len]
theorem dc_laws_heldChart_ooo (status : Int) (now : Int) (nvars : Nat) (nacts : Nat) (ndues : Nat) (k : Int) (hk : 0 ≤ k ∧ k + nvars + nacts + ndues ≤ 4611686018427387904) : DC Tryz.prog 43 [.agg [.int .i64 status, .int .i64 now, .isl 1 ((mkL (fun n : Int => n) nvars (k)).map I1), .isl 1 ((mkL (fun n : Int => n) nacts (k + nvars)).map I1), .isl 1 ((mkL (fun n : Int => n) ndues (k + nvars + nacts)).map I1)], .int .i64 k] (.int .i64 (k + nvars + nacts + ndues)) [] := by
 refine DC.intro tiOk Tryz.func43 rfl rfl rfl rfl rfl rfl rfl rfl [] ?_
 refine rgA [1,2] ?_
 refine rg [1,2] ?_
 intro k hk; simp -dsimp (maxSteps := 2000000) [go_sem, -decide_eq_true_eq, -decide_eq_false_iff_not]
 repeat' first | apply And.intro | refine hk _ ?_ | intro hg | ((first | refine CallK.intro (dc_laws_heldInt64S _ _ (by constructor <;> omega)) ?_ | refine CallK.intro (dc_laws_heldInt64S_nil _) ?_); simp -dsimp (maxSteps := 2000000) [go_sem, -decide_eq_true_eq, -decide_eq_false_iff_not]) | omega | exact True.intro
 all_goals clear hk k
 refine AW.seq ?_
 refine rgA [1,2,10] ?_
 refine AW.cond rfl ?_ ?_
 ·intro hc; try simp at hc
  all_goals try (exfalso; omega; done)
  all_goals (
   refine rgA [4] ?_
   refine rt ?_
   simp [go_sem, Tryz.results43])
 ·intro hc; try simp at hc
  all_goals try (exfalso; omega; done)
  all_goals (
   refine AW.skipN (fun _ h => h) ?_
   refine rg [1,2] ?_
   intro k hk; simp -dsimp (maxSteps := 2000000) [go_sem, -decide_eq_true_eq, -decide_eq_false_iff_not]
   repeat' first | apply And.intro | refine hk _ ?_ | intro hg | ((first | refine CallK.intro (dc_laws_heldInt64S _ _ (by constructor <;> omega)) ?_ | refine CallK.intro (dc_laws_heldInt64S_nil _) ?_); simp -dsimp (maxSteps := 2000000) [go_sem, -decide_eq_true_eq, -decide_eq_false_iff_not]) | omega | exact True.intro
   all_goals clear hk k
   refine AW.seq ?_
   refine rgA [1,2,16] ?_
   refine AW.cond rfl ?_ ?_
   ·intro hc; try simp at hc
    all_goals try (exfalso; omega; done)
    all_goals (
     refine rgA [4] ?_
     refine rt ?_
     simp [go_sem, Tryz.results43])
   ·intro hc; try simp at hc
    all_goals try (exfalso; omega; done)
    all_goals (
     refine AW.skipN (fun _ h => h) ?_
     refine rg [1] ?_
     intro k hk; simp -dsimp (maxSteps := 2000000) [go_sem, -decide_eq_true_eq, -decide_eq_false_iff_not]
     repeat' first | apply And.intro | refine hk _ ?_ | intro hg | ((first | refine CallK.intro (dc_laws_heldInt64S _ _ (by constructor <;> omega)) ?_ | refine CallK.intro (dc_laws_heldInt64S_nil _) ?_); simp -dsimp (maxSteps := 2000000) [go_sem, -decide_eq_true_eq, -decide_eq_false_iff_not]) | omega | exact True.intro
     all_goals clear hk k
     refine AW.seq ?_
     refine rgA [1,22] ?_
     refine AW.cond rfl ?_ ?_
     ·intro hc; try simp at hc
      all_goals try (exfalso; omega; done)
      all_goals (
       refine rgA [4] ?_
       refine rt ?_
       simp [go_sem, Tryz.results43])
     ·intro hc; try simp at hc
      all_goals try (exfalso; omega; done)
      all_goals (
       refine AW.skipN (fun _ h => h) ?_
       refine rgA [4] ?_
       refine rt ?_
       simp [go_sem, Tryz.results43])))
theorem dc_laws_heldChart_nnn (status : Int) (now : Int) (k : Int) (hk : 0 ≤ k ∧ k ≤ 4611686018427387904) : DC Tryz.prog 43 [.agg [.int .i64 status, .int .i64 now, .isl 1 [], .isl 1 [], .isl 1 []], .int .i64 k] (.int .i64 (k)) [] := by
 refine DC.intro tiOk Tryz.func43 rfl rfl rfl rfl rfl rfl rfl rfl [] ?_
 refine rgA [1,2] ?_
 refine rg [1,2] ?_
 intro k hk; simp -dsimp (maxSteps := 2000000) [go_sem, -decide_eq_true_eq, -decide_eq_false_iff_not]
 repeat' first | apply And.intro | refine hk _ ?_ | intro hg | ((first | refine CallK.intro (dc_laws_heldInt64S _ _ (by constructor <;> omega)) ?_ | refine CallK.intro (dc_laws_heldInt64S_nil _) ?_); simp -dsimp (maxSteps := 2000000) [go_sem, -decide_eq_true_eq, -decide_eq_false_iff_not]) | omega | exact True.intro
 all_goals clear hk k
 refine AW.seq ?_
 refine rgA [1,2,10] ?_
 refine AW.cond rfl ?_ ?_
 ·intro hc; try simp at hc
  all_goals try (exfalso; omega; done)
  all_goals (
   refine rgA [4] ?_
   refine rt ?_
   simp [go_sem, Tryz.results43])
 ·intro hc; try simp at hc
  all_goals try (exfalso; omega; done)
  all_goals (
   refine AW.skipN (fun _ h => h) ?_
   refine rg [1,2] ?_
   intro k hk; simp -dsimp (maxSteps := 2000000) [go_sem, -decide_eq_true_eq, -decide_eq_false_iff_not]
   repeat' first | apply And.intro | refine hk _ ?_ | intro hg | ((first | refine CallK.intro (dc_laws_heldInt64S _ _ (by constructor <;> omega)) ?_ | refine CallK.intro (dc_laws_heldInt64S_nil _) ?_); simp -dsimp (maxSteps := 2000000) [go_sem, -decide_eq_true_eq, -decide_eq_false_iff_not]) | omega | exact True.intro
   all_goals clear hk k
   refine AW.seq ?_
   refine rgA [1,2,16] ?_
   refine AW.cond rfl ?_ ?_
   ·intro hc; try simp at hc
    all_goals try (exfalso; omega; done)
    all_goals (
     refine rgA [4] ?_
     refine rt ?_
     simp [go_sem, Tryz.results43])
   ·intro hc; try simp at hc
    all_goals try (exfalso; omega; done)
    all_goals (
     refine AW.skipN (fun _ h => h) ?_
     refine rg [1] ?_
     intro k hk; simp -dsimp (maxSteps := 2000000) [go_sem, -decide_eq_true_eq, -decide_eq_false_iff_not]
     repeat' first | apply And.intro | refine hk _ ?_ | intro hg | ((first | refine CallK.intro (dc_laws_heldInt64S _ _ (by constructor <;> omega)) ?_ | refine CallK.intro (dc_laws_heldInt64S_nil _) ?_); simp -dsimp (maxSteps := 2000000) [go_sem, -decide_eq_true_eq, -decide_eq_false_iff_not]) | omega | exact True.intro
     all_goals clear hk k
     refine AW.seq ?_
     refine rgA [1,22] ?_
     refine AW.cond rfl ?_ ?_
     ·intro hc; try simp at hc
      all_goals try (exfalso; omega; done)
      all_goals (
       refine rgA [4] ?_
       refine rt ?_
       simp [go_sem, Tryz.results43])
     ·intro hc; try simp at hc
      all_goals try (exfalso; omega; done)
      all_goals (
       refine AW.skipN (fun _ h => h) ?_
       refine rgA [4] ?_
       refine rt ?_
       simp [go_sem, Tryz.results43])))
theorem dc_laws_eqChartResult (a b : TChartResult) (hg : a.gok) : DC Tryz.prog 12 [.agg a.ro, .agg b.ro] (.bool (decide (a = b))) [] := by
 have h0 := hg
 unfold TChartResult.gok at h0
 refine DC.intro tiOk Tryz.func12 rfl rfl rfl rfl rfl rfl rfl rfl [] ?_
 refine rgA [2,3] ?_
 refine AW.seq ?_
 refine rgA [2,3,9] ?_
 refine AW.cond rfl ?_ ?_
 ·intro hc; try simp at hc
  all_goals (
   refine rgA [4] ?_
   refine rt ?_
   cases a; cases b; simp [go_sem, Tryz.results12] at *; simp [*])
 ·intro hc; try simp at hc
  all_goals (
   refine AW.skipN (fun _ h => h) ?_
   refine AW.seq ?_
   refine rg [15] ?_
   intro k hk; simp -dsimp (maxSteps := 2000000) [go_sem, -decide_eq_true_eq, -decide_eq_false_iff_not]
   repeat' first | apply And.intro | refine hk _ ?_ | intro hg | (refine CallK.intro (dc_laws_eqChart _ _ (by assumption)) ?_; simp -dsimp (maxSteps := 2000000) [go_sem, -decide_eq_true_eq, -decide_eq_false_iff_not]) | omega | exact True.intro
   all_goals clear hk k
   refine AW.cond rfl ?_ ?_
   ·intro hc; try simp at hc
    all_goals (
     refine rgA [4] ?_
     refine rt ?_
     cases a; cases b; simp [go_sem, Tryz.results12] at *; simp [*])
   ·intro hc; try simp at hc
    all_goals (
     refine AW.skipN (fun _ h => h) ?_
     refine rgA [4] ?_
     refine rt ?_
     cases a; cases b; simp [go_sem, Tryz.results12] at *; simp [*]))
theorem dc_laws_markChartResult_ooo (code status now : Int) (vars acts dues : List Int) (k : Int) (hk : 0 ≤ k ∧ k + vars.length + acts.length + dues.length ≤ 4611686018427387904) : DC Tryz.prog 17 [.agg [.int .i64 code, .int .i64 status, .int .i64 now, .osl 1 (vars.map I1), .osl 1 (acts.map I1), .osl 1 (dues.map I1)], .int .i64 k] (.int .i64 (k + vars.length + acts.length + dues.length)) [(0, .agg [.int .i64 code, .int .i64 status, .int .i64 now, .osl 1 ((mkL (fun n : Int => n) vars.length (k)).map I1), .osl 1 ((mkL (fun n : Int => n) acts.length (k + vars.length)).map I1), .osl 1 ((mkL (fun n : Int => n) dues.length (k + vars.length + acts.length)).map I1)])] := by
 refine DC.intro tiOk Tryz.func17 rfl rfl rfl rfl rfl rfl rfl (by simp [noW, noWo]) [] ?_
 refine rgA [0,1,2] ?_
 refine AW.reg tiOk (fun _ => [0]) [0,1] ?_
 intro k hk; simp -dsimp (maxSteps := 2000000) [go_sem, -decide_eq_true_eq, -decide_eq_false_iff_not]
 repeat' first | apply And.intro | refine hk _ ?_ | intro hg | (refine CallK.intro (dc_laws_markChart_ooo status now vars acts dues _ (by constructor <;> omega)) ?_; simp -dsimp (maxSteps := 2000000) [go_sem, -decide_eq_true_eq, -decide_eq_false_iff_not]) | omega | exact True.intro
 all_goals clear hk k
 refine rgA [0,4] ?_
 refine rt ?_
 simp [go_sem, Tryz.results17, mkL_len]
theorem dc_laws_markChartResult_nnn (code status now : Int) (k : Int) (hk : 0 ≤ k ∧ k ≤ 4611686018427387904) : DC Tryz.prog 17 [.agg [.int .i64 code, .int .i64 status, .int .i64 now, .isl 1 [], .isl 1 [], .isl 1 []], .int .i64 k] (.int .i64 (k)) [] := by
 refine DC.intro tiOk Tryz.func17 rfl rfl rfl rfl rfl rfl rfl rfl [] ?_
 refine rgA [1,2] ?_
 refine AW.reg tiOk (fun _ => [0]) [1] ?_
 intro k hk; simp -dsimp (maxSteps := 2000000) [go_sem, -decide_eq_true_eq, -decide_eq_false_iff_not]
 repeat' first | apply And.intro | refine hk _ ?_ | intro hg | (refine CallK.intro (dc_laws_markChart_nnn status now _ (by constructor <;> omega)) ?_; simp -dsimp (maxSteps := 2000000) [go_sem, -decide_eq_true_eq, -decide_eq_false_iff_not]) | omega | exact True.intro
 all_goals clear hk k
 refine rgA [4] ?_
 refine rt ?_
 simp [go_sem, Tryz.results17, mkL_len]
theorem dc_laws_heldChartResult_ooo (code status now : Int) (nvars nacts ndues : Nat) (k : Int) (hk : 0 ≤ k ∧ k + nvars + nacts + ndues ≤ 4611686018427387904) : DC Tryz.prog 18 [.agg [.int .i64 code, .int .i64 status, .int .i64 now, .isl 1 ((mkL (fun n : Int => n) nvars (k)).map I1), .isl 1 ((mkL (fun n : Int => n) nacts (k + nvars)).map I1), .isl 1 ((mkL (fun n : Int => n) ndues (k + nvars + nacts)).map I1)], .int .i64 k] (.int .i64 (k + nvars + nacts + ndues)) [] := by
 refine DC.intro tiOk Tryz.func18 rfl rfl rfl rfl rfl rfl rfl rfl [] ?_
 refine rgA [1,2] ?_
 refine rg [1] ?_
 intro k hk; simp -dsimp (maxSteps := 2000000) [go_sem, -decide_eq_true_eq, -decide_eq_false_iff_not]
 repeat' first | apply And.intro | refine hk _ ?_ | intro hg | (refine CallK.intro (dc_laws_heldChart_ooo status now nvars nacts ndues _ (by constructor <;> omega)) ?_; simp -dsimp (maxSteps := 2000000) [go_sem, -decide_eq_true_eq, -decide_eq_false_iff_not]) | omega | exact True.intro
 all_goals clear hk k
 refine AW.seq ?_
 refine rgA [1,10] ?_
 refine AW.cond rfl ?_ ?_
 ·intro hc; try simp at hc
  all_goals try (exfalso; omega; done)
  all_goals (
   refine rgA [4] ?_
   refine rt ?_
   simp [go_sem, Tryz.results18])
 ·intro hc; try simp at hc
  all_goals try (exfalso; omega; done)
  all_goals (
   refine AW.skipN (fun _ h => h) ?_
   refine rgA [4] ?_
   refine rt ?_
   simp [go_sem, Tryz.results18])
theorem dc_laws_heldChartResult_nnn (code status now : Int) (k : Int) (hk : 0 ≤ k ∧ k ≤ 4611686018427387904) : DC Tryz.prog 18 [.agg [.int .i64 code, .int .i64 status, .int .i64 now, .isl 1 [], .isl 1 [], .isl 1 []], .int .i64 k] (.int .i64 (k)) [] := by
 refine DC.intro tiOk Tryz.func18 rfl rfl rfl rfl rfl rfl rfl rfl [] ?_
 refine rgA [1,2] ?_
 refine rg [1] ?_
 intro k hk; simp -dsimp (maxSteps := 2000000) [go_sem, -decide_eq_true_eq, -decide_eq_false_iff_not]
 repeat' first | apply And.intro | refine hk _ ?_ | intro hg | (refine CallK.intro (dc_laws_heldChart_nnn status now _ (by constructor <;> omega)) ?_; simp -dsimp (maxSteps := 2000000) [go_sem, -decide_eq_true_eq, -decide_eq_false_iff_not]) | omega | exact True.intro
 all_goals clear hk k
 refine AW.seq ?_
 refine rgA [1,10] ?_
 refine AW.cond rfl ?_ ?_
 ·intro hc; try simp at hc
  all_goals try (exfalso; omega; done)
  all_goals (
   refine rgA [4] ?_
   refine rt ?_
   simp [go_sem, Tryz.results18])
 ·intro hc; try simp at hc
  all_goals try (exfalso; omega; done)
  all_goals (
   refine AW.skipN (fun _ h => h) ?_
   refine rgA [4] ?_
   refine rt ?_
   simp [go_sem, Tryz.results18])
end Go.AM
namespace Go.AM
open Go.Proofs
theorem dc_laws_szNodeS (l : List TNode) (z : Int) (hz : 0 ≤ z ∧ z ≤ 1048576) (hl : l.length ≤ 9223372036854775807) : DC Tryz.prog 55 [.isl 4 (l.map TNode.ro), .int .i64 z] (.int .i64 (subz z l.length)) [] := by
 have hw : IntKind.wrap .i64 (z - (l.length : Int)) = z - (l.length : Int) := wrap64 (by omega) (by omega)
 refine DC.intro tiOk Tryz.func55 rfl rfl rfl rfl rfl rfl rfl rfl [] ?_
 refine rg [0,1] ?_
 intro k hk; simp -dsimp [go_sem, -decide_eq_true_eq, -decide_eq_false_iff_not, hw]
 repeat' first | apply And.intro | refine hk _ ?_ | intro hg | omega | exact True.intro
 all_goals clear hk k
 refine rg [1] ?_
 intro k hk; simp -dsimp [go_sem, -decide_eq_true_eq, -decide_eq_false_iff_not, hw]
 repeat' first | apply And.intro | refine hk _ ?_ | intro hg | omega | exact True.intro
 all_goals clear hk k
 refine AW.seq ?_
 refine rg [1,10] ?_
 intro k hk; simp -dsimp [go_sem, -decide_eq_true_eq, -decide_eq_false_iff_not, hw]
 repeat' first | apply And.intro | refine hk _ ?_ | intro hg | omega | exact True.intro
 all_goals clear hk k
 refine AW.cond rfl ?_ ?_
 ·intro hc; try simp at hc
  all_goals (
   refine rg [4] ?_
   intro k hk; simp -dsimp [go_sem, -decide_eq_true_eq, -decide_eq_false_iff_not, hw]
   repeat' first | apply And.intro | refine hk _ ?_ | intro hg | omega | exact True.intro
   all_goals clear hk k
   refine rt ?_
   simp [go_sem, Tryz.results55]; unfold subz; split <;> omega)
 ·intro hc; try simp at hc
  all_goals (
   refine AW.skipN (fun _ h => h) ?_
   refine rg [4] ?_
   intro k hk; simp -dsimp [go_sem, -decide_eq_true_eq, -decide_eq_false_iff_not, hw]
   repeat' first | apply And.intro | refine hk _ ?_ | intro hg | omega | exact True.intro
   all_goals clear hk k
   refine rt ?_
   simp [go_sem, Tryz.results55]; unfold subz; split <;> omega)
theorem dc_laws_toNode (x : TNode) : DC Tryz.prog 87 [.agg x.ro] (.agg [.int .i64 x.kind, .int .i64 x.val, .int .i64 x.left, .int .i64 x.right]) [] := by
 refine DC.intro tiOk Tryz.func87 rfl rfl rfl rfl rfl rfl rfl rfl [1000] ?_
 refine rgA [1,2] ?_
 refine rgA [1,2,3] ?_
 refine rgA [1,2,3] ?_
 refine rgA [1,2,3] ?_
 refine rgA [1,2,3] ?_
 refine rgA [2,3] ?_
 refine rgA [2] ?_
 refine rt ?_
 simp [go_sem, Tryz.results87]
theorem dc_laws_toNodeS (l : List TNode) (hl : l.length ≤ 1048576) : DC Tryz.prog 63 [.isl 4 (l.map TNode.ro)] (.osl 4 (l.map TNode.ro)) [] := by
 have idz : ∀ i, (fill TNode.ro [.int .i64 0, .int .i64 0, .int .i64 0, .int .i64 0] l i).flatMap idsL = [] := fun i => fill_ids (by intro x; simp [go_sem]) (by simp [go_sem])
 refine DC.intro tiOk Tryz.func63 rfl rfl rfl rfl rfl rfl rfl rfl [1000] ?_
 refine rgA [0] ?_
 refine rgA [0,3] ?_
 refine AW.seq ?_
 refine rgA [0,3,4] ?_
 refine AW.block ?_
 refine AW.loopI (fun i : Nat => ⟨23, [(0, .isl 4 (l.map TNode.ro)), (3, .sl 7 4 0 l.length), (4, .int .i64 i)], [(7, some ⟨4, fill TNode.ro [.int .i64 0, .int .i64 0, .int .i64 0, .int .i64 0] l i⟩)]⟩) (fun i => i ≤ l.length) (fun i => l.length - i) (0) (by simp) (Less.of rfl (by simp [go_sem]) (by simp [go_sem, fill_zero])) ?_
 rintro i hi
 refine AW.seq ?_
 refine rgA [0,3,4,11] ?_
 refine AW.cond rfl ?_ ?_
 ·intro hc; try simp at hc
  all_goals (
   have hlt : i < l.length := by assumption
   obtain ⟨x, hx⟩ := at_some hlt
   have hf := fill_len (f := TNode.ro) (z := [.int .i64 0, .int .i64 0, .int .i64 0, .int .i64 0]) hi
   have hf2 := fill_at (f := TNode.ro) (z := [.int .i64 0, .int .i64 0, .int .i64 0, .int .i64 0]) hlt
   refine AW.skipN (fun _ h => h) ?_
   refine AW.seq ?_
   refine AW.block ?_
   refine rgN [0,3,4] (fun _ h => h) ?_
   intro k hk; simp -dsimp (maxSteps := 2000000) [go_sem, -decide_eq_true_eq, -decide_eq_false_iff_not, hx, hf, hf2, idz]
   repeat' first | apply And.intro | refine hk _ ?_ | intro hg | (refine CallK.intro (dc_laws_toNode x) ?_; simp -dsimp (maxSteps := 2000000) [go_sem, -decide_eq_true_eq, -decide_eq_false_iff_not, hx, hf, hf2, idz]) | omega | exact True.intro
   all_goals clear hk k
   refine rgK ?_
   intro k hk; simp -dsimp [go_sem, -decide_eq_true_eq, -decide_eq_false_iff_not, hx, hf, hf2, idz]
   repeat' first | apply And.intro | refine hk _ ?_ | intro hg | omega | exact True.intro
   all_goals clear hk k
   show ∃ _, _
   have hw := wrapi hlt (by omega)
   have hs := fill_set (f := TNode.ro) (z := [.int .i64 0, .int .i64 0, .int .i64 0, .int .i64 0]) hx
   simp [go_sem] at hs
   refine ⟨i + 1, by omega, by omega, Less.of rfl (by simp [go_sem, hw]) (by simp [go_sem, List.set_set, ← hs])⟩)
 ·intro hc; try simp at hc
  all_goals (
   refine AW.exitN (fun _ h => h) ?_
   refine rgA [2] ?_
   refine rt ?_
   have he := fill_end (f := TNode.ro) (z := [.int .i64 0, .int .i64 0, .int .i64 0, .int .i64 0]) (show l.length ≤ i by omega); simp [go_sem, Tryz.results63, he])
theorem dc_laws_eqNode (a b : TNode) : DC Tryz.prog 94 [.agg a.ro, .agg b.ro] (.bool (decide (a = b))) [] := by
 refine DC.intro tiOk Tryz.func94 rfl rfl rfl rfl rfl rfl rfl rfl [] ?_
 refine rgA [2,3] ?_
 refine AW.seq ?_
 refine rgA [2,3,9] ?_
 refine AW.cond rfl ?_ ?_
 ·intro hc; try simp at hc
  all_goals (
   refine rgA [4] ?_
   refine rt ?_
   cases a; cases b; simp [go_sem, Tryz.results94] at *; simp [*])
 ·intro hc; try simp at hc
  all_goals (
   refine AW.skipN (fun _ h => h) ?_
   refine AW.seq ?_
   refine rgA [2,3,14] ?_
   refine AW.cond rfl ?_ ?_
   ·intro hc; try simp at hc
    all_goals (
     refine rgA [4] ?_
     refine rt ?_
     cases a; cases b; simp [go_sem, Tryz.results94] at *; simp [*])
   ·intro hc; try simp at hc
    all_goals (
     refine AW.skipN (fun _ h => h) ?_
     refine AW.seq ?_
     refine rgA [2,3,19] ?_
     refine AW.cond rfl ?_ ?_
     ·intro hc; try simp at hc
      all_goals (
       refine rgA [4] ?_
       refine rt ?_
       cases a; cases b; simp [go_sem, Tryz.results94] at *; simp [*])
     ·intro hc; try simp at hc
      all_goals (
       refine AW.skipN (fun _ h => h) ?_
       refine AW.seq ?_
       refine rgA [24] ?_
       refine AW.cond rfl ?_ ?_
       ·intro hc; try simp at hc
        all_goals (
         refine rgA [4] ?_
         refine rt ?_
         cases a; cases b; simp [go_sem, Tryz.results94] at *; simp [*])
       ·intro hc; try simp at hc
        all_goals (
         refine AW.skipN (fun _ h => h) ?_
         refine rgA [4] ?_
         refine rt ?_
         cases a; cases b; simp [go_sem, Tryz.results94] at *; simp [*]))))
theorem dc_laws_eqNodeS (a b : List TNode) (ha : a.length ≤ 9223372036854775807) : DC Tryz.prog 72 [.isl 4 (a.map TNode.ro), .isl 4 (b.map TNode.ro)] (.bool (decide (a = b))) [] := by
 refine DC.intro tiOk Tryz.func72 rfl rfl rfl rfl rfl rfl rfl rfl [] ?_
 refine rgA [0,1] ?_
 refine AW.seq ?_
 refine rgA [0,1,10] ?_
 refine AW.cond rfl ?_ ?_
 ·intro hc; try simp at hc
  all_goals (
   refine rgA [4] ?_
   refine rt ?_
   first | (rw [eq_ne_at hx hy (by first | assumption | (intro e; subst e; omega))]; simp [go_sem, Tryz.results72]; done) | (rw [eq_end (by omega) hinv (by omega)]; simp [go_sem, Tryz.results72]; done) | (rw [eq_ne_len (by omega)]; simp [go_sem, Tryz.results72]))
 ·intro hc; try simp at hc
  all_goals (
   refine AW.skipN (fun _ h => h) ?_
   refine AW.seq ?_
   refine rgA [0,1,5] ?_
   refine AW.block ?_
   refine AW.loopI (fun i : Nat => ⟨27, [(0, .isl 4 (a.map TNode.ro)), (1, .isl 4 (b.map TNode.ro)), (5, .int .i64 i)], []⟩) (fun i => i ≤ a.length ∧ a.take i = b.take i) (fun i => a.length - i) (0) (by simp) (Less.of rfl (by simp [go_sem]) (by simp [go_sem])) ?_
   rintro i ⟨hi, hinv⟩
   refine AW.seq ?_
   refine rgA [0,1,5,14] ?_
   refine AW.cond rfl ?_ ?_
   ·intro hc; try simp at hc
    all_goals (
     have hlt : i < a.length := by assumption
     obtain ⟨x, hx⟩ := at_some hlt
     obtain ⟨y, hy⟩ := at_some (l := b) (show i < b.length by omega)
     have hla := at_lt hy
     refine AW.skipN (fun _ h => h) ?_
     refine AW.seq ?_
     refine AW.block ?_
     refine rg [0,1,5,26] ?_
     intro k hk; simp -dsimp (maxSteps := 2000000) [go_sem, -decide_eq_true_eq, -decide_eq_false_iff_not, hx, hy]
     repeat' first | (refine Chk.keys ?_; simp only [go_sem, List.map_cons, List.map_nil, List.flatMap_cons, List.flatMap_nil, List.flatMap_append, List.append_nil, List.nil_append, List.cons_append]; decide +kernel) | apply And.intro | refine hk _ ?_ | intro hg | (refine CallK.intro (dc_laws_eqNode x y) ?_; simp -dsimp (maxSteps := 2000000) [go_sem, -decide_eq_true_eq, -decide_eq_false_iff_not, hx, hy]) | omega | exact True.intro
     all_goals clear hk k
     refine AW.cond rfl ?_ ?_
     ·intro hc; try simp at hc
      all_goals (
       refine rg [4] ?_
       intro k hk; simp -dsimp [go_sem, -decide_eq_true_eq, -decide_eq_false_iff_not, hx, hy]
       repeat' first | apply And.intro | refine hk _ ?_ | intro hg | omega | exact True.intro
       all_goals clear hk k
       refine rt ?_
       first | (rw [eq_ne_at hx hy (by first | assumption | (intro e; subst e; omega))]; simp [go_sem, Tryz.results72]; done) | (rw [eq_end (by omega) hinv (by omega)]; simp [go_sem, Tryz.results72]; done) | (rw [eq_ne_len (by omega)]; simp [go_sem, Tryz.results72]))
     ·intro hc; try simp at hc
      all_goals (
       refine AW.skipN (fun _ h => h) ?_
       refine rgK ?_
       intro k hk; simp -dsimp [go_sem, -decide_eq_true_eq, -decide_eq_false_iff_not, hx, hy]
       repeat' first | apply And.intro | refine hk _ ?_ | intro hg | omega | exact True.intro
       all_goals clear hk k
       show ∃ _, _
       have hw := wrapi hlt (by omega)
       refine ⟨i + 1, ⟨by omega, take_step hx hy (by first | assumption | (apply UInt8.toNat_inj.1; omega)) hinv⟩, by omega, Less.of rfl (by simp [go_sem, hw]) (by simp [go_sem])⟩))
   ·intro hc; try simp at hc
    all_goals (
     refine AW.exitN (fun _ h => h) ?_
     refine rgA [4] ?_
     refine rt ?_
     first | (rw [eq_ne_at hx hy (by first | assumption | (intro e; subst e; omega))]; simp [go_sem, Tryz.results72]; done) | (rw [eq_end (by omega) hinv (by omega)]; simp [go_sem, Tryz.results72]; done) | (rw [eq_ne_len (by omega)]; simp [go_sem, Tryz.results72])))
theorem dc_laws_szStep (x : TStep) (z : Int) (hz : 0 ≤ z ∧ z ≤ 1048576) (hg : x.gok) : DC Tryz.prog 26 [.agg x.ro, .int .i64 z] (.int .i64 (subz z x.sz)) [] := by
 have hg' := hg
 unfold TStep.gok at hg'
 obtain ⟨h2, h4, h5⟩ := hg'
 have hw : IntKind.wrap .i64 (z - (x.name.length : Int)) = z - (x.name.length : Int) := wrap64 (by omega) (by omega)
 refine DC.intro tiOk Tryz.func26 rfl rfl rfl rfl rfl rfl rfl rfl [] ?_
 refine rg [1,2] ?_
 intro k hk; simp -dsimp [go_sem, -decide_eq_true_eq, -decide_eq_false_iff_not, hw]
 repeat' first | apply And.intro | refine hk _ ?_ | intro hg | omega | exact True.intro
 all_goals clear hk k
 refine rg [1,2] ?_
 intro k hk; simp -dsimp [go_sem, -decide_eq_true_eq, -decide_eq_false_iff_not, hw]
 repeat' first | apply And.intro | refine hk _ ?_ | intro hg | omega | exact True.intro
 all_goals clear hk k
 refine AW.seq ?_
 refine rg [1,2,11] ?_
 intro k hk; simp -dsimp [go_sem, -decide_eq_true_eq, -decide_eq_false_iff_not, hw]
 repeat' first | apply And.intro | refine hk _ ?_ | intro hg | omega | exact True.intro
 all_goals clear hk k
 refine AW.cond rfl ?_ ?_
 ·intro hc; try simp [subz_neg, subz_nn] at hc
  all_goals (
   refine rg [4] ?_
   intro k hk; simp -dsimp [go_sem, -decide_eq_true_eq, -decide_eq_false_iff_not, hw]
   repeat' first | apply And.intro | refine hk _ ?_ | intro hg | omega | exact True.intro
   all_goals clear hk k
   refine rt ?_
   simp [go_sem, Tryz.results26]; simp only [subz, TStep.sz] at * <;> grind)
 ·intro hc; try simp [subz_neg, subz_nn] at hc
  all_goals (
   refine AW.skipN (fun _ h => h) ?_
   refine rg [1,2] ?_
   intro k hk; simp -dsimp (maxSteps := 2000000) [go_sem, -decide_eq_true_eq, -decide_eq_false_iff_not, hw]
   repeat' first | apply And.intro | refine hk _ ?_ | intro hg | (refine CallK.intro (dc_laws_szNodeS _ _ (by constructor <;> first | omega | grind [subz]) (by first | assumption | (constructor <;> assumption))) ?_; simp -dsimp (maxSteps := 2000000) [go_sem, -decide_eq_true_eq, -decide_eq_false_iff_not, hw]) | omega | exact True.intro
   all_goals clear hk k
   refine AW.seq ?_
   refine rg [1,2,17] ?_
   intro k hk; simp -dsimp [go_sem, -decide_eq_true_eq, -decide_eq_false_iff_not, hw]
   repeat' first | apply And.intro | refine hk _ ?_ | intro hg | omega | exact True.intro
   all_goals clear hk k
   refine AW.cond rfl ?_ ?_
   ·intro hc; try simp [subz_neg, subz_nn] at hc
    all_goals (
     refine rg [4] ?_
     intro k hk; simp -dsimp [go_sem, -decide_eq_true_eq, -decide_eq_false_iff_not, hw]
     repeat' first | apply And.intro | refine hk _ ?_ | intro hg | omega | exact True.intro
     all_goals clear hk k
     refine rt ?_
     simp [go_sem, Tryz.results26]; simp only [subz, TStep.sz] at * <;> grind)
   ·intro hc; try simp [subz_neg, subz_nn] at hc
    all_goals (
     refine AW.skipN (fun _ h => h) ?_
     refine rg [1] ?_
     intro k hk; simp -dsimp (maxSteps := 2000000) [go_sem, -decide_eq_true_eq, -decide_eq_false_iff_not, hw]
     repeat' first | apply And.intro | refine hk _ ?_ | intro hg | (refine CallK.intro (dc_laws_szNodeS _ _ (by constructor <;> first | omega | grind [subz]) (by first | assumption | (constructor <;> assumption))) ?_; simp -dsimp (maxSteps := 2000000) [go_sem, -decide_eq_true_eq, -decide_eq_false_iff_not, hw]) | omega | exact True.intro
     all_goals clear hk k
     refine AW.seq ?_
     refine rg [1,23] ?_
     intro k hk; simp -dsimp [go_sem, -decide_eq_true_eq, -decide_eq_false_iff_not, hw]
     repeat' first | apply And.intro | refine hk _ ?_ | intro hg | omega | exact True.intro
     all_goals clear hk k
     refine AW.cond rfl ?_ ?_
     ·intro hc; try simp [subz_neg, subz_nn] at hc
      all_goals (
       refine rg [4] ?_
       intro k hk; simp -dsimp [go_sem, -decide_eq_true_eq, -decide_eq_false_iff_not, hw]
       repeat' first | apply And.intro | refine hk _ ?_ | intro hg | omega | exact True.intro
       all_goals clear hk k
       refine rt ?_
       simp [go_sem, Tryz.results26]; simp only [subz, TStep.sz] at * <;> grind)
     ·intro hc; try simp [subz_neg, subz_nn] at hc
      all_goals (
       refine AW.skipN (fun _ h => h) ?_
       refine rg [4] ?_
       intro k hk; simp -dsimp [go_sem, -decide_eq_true_eq, -decide_eq_false_iff_not, hw]
       repeat' first | apply And.intro | refine hk _ ?_ | intro hg | omega | exact True.intro
       all_goals clear hk k
       refine rt ?_
       simp [go_sem, Tryz.results26]; simp only [subz, TStep.sz] at * <;> grind)))
theorem dc_laws_szStepS (l : List TStep) (z : Int) (hz : 0 ≤ z ∧ z ≤ 1048576) (hl : l.length ≤ 9223372036854775807 ∧ ∀ e ∈ l, e.gok) : DC Tryz.prog 6 [.isl 6 (l.map TStep.ro), .int .i64 z] (.int .i64 (subz z (l.length + (l.map TStep.sz).sum))) [] := by
 obtain ⟨hl, hg⟩ := hl
 have hw : IntKind.wrap .i64 (z - (l.length : Int)) = z - (l.length : Int) := wrap64 (by omega) (by omega)
 refine DC.intro tiOk Tryz.func6 rfl rfl rfl rfl rfl rfl rfl rfl [] ?_
 refine rg [0,1] ?_
 intro k hk; simp -dsimp [go_sem, -decide_eq_true_eq, -decide_eq_false_iff_not, hw]
 repeat' first | apply And.intro | refine hk _ ?_ | intro hg | omega | exact True.intro
 all_goals clear hk k
 refine rg [0,1] ?_
 intro k hk; simp -dsimp [go_sem, -decide_eq_true_eq, -decide_eq_false_iff_not, hw]
 repeat' first | apply And.intro | refine hk _ ?_ | intro hg | omega | exact True.intro
 all_goals clear hk k
 refine AW.seq ?_
 refine rg [0,1,11] ?_
 intro k hk; simp -dsimp [go_sem, -decide_eq_true_eq, -decide_eq_false_iff_not, hw]
 repeat' first | apply And.intro | refine hk _ ?_ | intro hg | omega | exact True.intro
 all_goals clear hk k
 refine AW.cond rfl ?_ ?_
 ·intro hc; try simp [subz_neg, subz_nn] at hc
  all_goals (
   refine rg [4] ?_
   intro k hk; simp -dsimp [go_sem, -decide_eq_true_eq, -decide_eq_false_iff_not, hw]
   repeat' first | apply And.intro | refine hk _ ?_ | intro hg | omega | exact True.intro
   all_goals clear hk k
   refine rt ?_
   have hle := fun i => sum_le (f := TStep.sz) (l := l) (i := i); first | (rw [subz_no (by have := hle (i + 1); simp at *; omega)]; simp [go_sem, Tryz.results6]; done) | (rw [subz_no (by simp at *; omega)]; simp [go_sem, Tryz.results6]; done) | (rw [List.take_of_length_le (show (l.map TStep.sz).length ≤ i by simp; omega)] at *; rw [subz_ok (by simp at *; omega)]; simp [go_sem, Tryz.results6]; omega))
 ·intro hc; try simp [subz_neg, subz_nn] at hc
  all_goals (
   refine AW.skipN (fun _ h => h) ?_
   refine AW.seq ?_
   refine rg [0,1,5] ?_
   intro k hk; simp -dsimp [go_sem, -decide_eq_true_eq, -decide_eq_false_iff_not, hw]
   repeat' first | apply And.intro | refine hk _ ?_ | intro hg | omega | exact True.intro
   all_goals clear hk k
   refine AW.block ?_
   refine AW.loopI (fun i : Nat => ⟨27, [(0, .isl 6 (l.map TStep.ro)), (1, .int .i64 (z - (l.length : Int) - (((l.map TStep.sz).take i).sum : Int))), (5, .int .i64 i)], []⟩) (fun i => i ≤ l.length ∧ (l.length : Int) + (((l.map TStep.sz).take i).sum : Nat) ≤ z) (fun i => l.length - i) (0) (by refine ⟨Nat.zero_le _, ?_⟩; simp; omega) (Less.of rfl (by simp [go_sem]) (by simp [go_sem])) ?_
   rintro i ⟨hi, hinv⟩
   refine AW.seq ?_
   refine rg [0,1,5,15] ?_
   intro k hk; simp -dsimp [go_sem, -decide_eq_true_eq, -decide_eq_false_iff_not, hw]
   repeat' first | apply And.intro | refine hk _ ?_ | intro hg | omega | exact True.intro
   all_goals clear hk k
   refine AW.cond rfl ?_ ?_
   ·intro hc; try simp [subz_neg, subz_nn] at hc
    all_goals (
     have hlt : i < l.length := by assumption
     obtain ⟨x, hx⟩ := at_some hlt
     have hst := sum_take (f := TStep.sz) hx
     refine AW.skipN (fun _ h => h) ?_
     refine AW.seq ?_
     refine AW.block ?_
     refine rg [0,1,5] ?_
     intro k hk; simp -dsimp (maxSteps := 2000000) [go_sem, -decide_eq_true_eq, -decide_eq_false_iff_not, hw, hx]
     repeat' first | apply And.intro | refine hk _ ?_ | intro hg | (refine CallK.intro (dc_laws_szStep x _ (by omega) (hg x (List.mem_of_getElem? hx))) ?_; simp -dsimp (maxSteps := 2000000) [go_sem, -decide_eq_true_eq, -decide_eq_false_iff_not, hw, hx]) | omega | exact True.intro
     all_goals clear hk k
     refine rg [0,1,5,25] ?_
     intro k hk; simp -dsimp [go_sem, -decide_eq_true_eq, -decide_eq_false_iff_not, hw, hx]
     repeat' first | apply And.intro | refine hk _ ?_ | intro hg | omega | exact True.intro
     all_goals clear hk k
     refine AW.cond rfl ?_ ?_
     ·intro hc; try simp [subz_neg, subz_nn] at hc
      all_goals (
       refine rg [4] ?_
       intro k hk; simp -dsimp [go_sem, -decide_eq_true_eq, -decide_eq_false_iff_not, hw, hx]
       repeat' first | apply And.intro | refine hk _ ?_ | intro hg | omega | exact True.intro
       all_goals clear hk k
       refine rt ?_
       have hle := fun i => sum_le (f := TStep.sz) (l := l) (i := i); first | (rw [subz_no (by have := hle (i + 1); simp at *; omega)]; simp [go_sem, Tryz.results6]; done) | (rw [subz_no (by simp at *; omega)]; simp [go_sem, Tryz.results6]; done) | (rw [List.take_of_length_le (show (l.map TStep.sz).length ≤ i by simp; omega)] at *; rw [subz_ok (by simp at *; omega)]; simp [go_sem, Tryz.results6]; omega))
     ·intro hc; try simp [subz_neg, subz_nn] at hc
      all_goals (
       refine AW.skipN (fun _ h => h) ?_
       refine rgK ?_
       intro k hk; simp -dsimp [go_sem, -decide_eq_true_eq, -decide_eq_false_iff_not, hw, hx]
       repeat' first | apply And.intro | refine hk _ ?_ | intro hg | omega | exact True.intro
       all_goals clear hk k
       show ∃ _, _
       have hw2 := wrapi hlt hl
       have hb : (TStep.sz x : Int) ≤ z - (l.length : Int) - (((l.map TStep.sz).take i).sum : Int) := by first | exact subz_nn.1 (by assumption) | omega
       refine ⟨i + 1, ⟨by omega, by omega⟩, by omega, Less.of rfl (by simp [go_sem, hw2, subz_ok hb, hst]; omega) (by simp [go_sem])⟩))
   ·intro hc; try simp [subz_neg, subz_nn] at hc
    all_goals (
     refine AW.exitN (fun _ h => h) ?_
     refine rg [4] ?_
     intro k hk; simp -dsimp [go_sem, -decide_eq_true_eq, -decide_eq_false_iff_not, hw]
     repeat' first | apply And.intro | refine hk _ ?_ | intro hg | omega | exact True.intro
     all_goals clear hk k
     refine rt ?_
     have hle := fun i => sum_le (f := TStep.sz) (l := l) (i := i); first | (rw [subz_no (by have := hle (i + 1); simp at *; omega)]; simp [go_sem, Tryz.results6]; done) | (rw [subz_no (by simp at *; omega)]; simp [go_sem, Tryz.results6]; done) | (rw [List.take_of_length_le (show (l.map TStep.sz).length ≤ i by simp; omega)] at *; rw [subz_ok (by simp at *; omega)]; simp [go_sem, Tryz.results6]; omega)))
theorem dc_laws_eqStep (a b : TStep) (hg : a.gok) : DC Tryz.prog 40 [.agg a.ro, .agg b.ro] (.bool (decide (a = b))) [] := by
 obtain ⟨h0, h1, h2⟩ := hg
 refine DC.intro tiOk Tryz.func40 rfl rfl rfl rfl rfl rfl rfl rfl [] ?_
 refine rgA [2,3] ?_
 refine AW.seq ?_
 refine rgA [2,3,9] ?_
 refine AW.cond rfl ?_ ?_
 ·intro hc; try simp at hc
  all_goals (
   refine rgA [4] ?_
   refine rt ?_
   cases a; cases b; simp [go_sem, Tryz.results40] at *; simp [*])
 ·intro hc; try simp at hc
  all_goals (
   refine AW.skipN (fun _ h => h) ?_
   refine AW.seq ?_
   refine rgA [2,3,14] ?_
   refine AW.cond rfl ?_ ?_
   ·intro hc; try simp at hc
    all_goals (
     refine rgA [4] ?_
     refine rt ?_
     cases a; cases b; simp [go_sem, Tryz.results40] at *; simp [*])
   ·intro hc; try simp at hc
    all_goals (
     refine AW.skipN (fun _ h => h) ?_
     refine AW.seq ?_
     refine rgA [2,3,19] ?_
     refine AW.cond rfl ?_ ?_
     ·intro hc; try simp at hc
      all_goals (
       refine rgA [4] ?_
       refine rt ?_
       cases a; cases b; simp [go_sem, Tryz.results40] at *; simp [*])
     ·intro hc; try simp at hc
      all_goals (
       refine AW.skipN (fun _ h => h) ?_
       refine AW.seq ?_
       refine rgA [2,3,24] ?_
       refine AW.cond rfl ?_ ?_
       ·intro hc; try simp at hc
        all_goals (
         refine rgA [4] ?_
         refine rt ?_
         cases a; cases b; simp [go_sem, Tryz.results40] at *; simp [*])
       ·intro hc; try simp at hc
        all_goals (
         refine AW.skipN (fun _ h => h) ?_
         refine AW.seq ?_
         refine rg [2,3,30] ?_
         intro k hk; simp -dsimp (maxSteps := 2000000) [go_sem, -decide_eq_true_eq, -decide_eq_false_iff_not]
         repeat' first | apply And.intro | refine hk _ ?_ | intro hg | (refine CallK.intro (dc_laws_eqNodeS _ _ (by assumption)) ?_; simp -dsimp (maxSteps := 2000000) [go_sem, -decide_eq_true_eq, -decide_eq_false_iff_not]) | omega | exact True.intro
         all_goals clear hk k
         refine AW.cond rfl ?_ ?_
         ·intro hc; try simp at hc
          all_goals (
           refine rgA [4] ?_
           refine rt ?_
           cases a; cases b; simp [go_sem, Tryz.results40] at *; simp [*])
         ·intro hc; try simp at hc
          all_goals (
           refine AW.skipN (fun _ h => h) ?_
           refine AW.seq ?_
           refine rg [36] ?_
           intro k hk; simp -dsimp (maxSteps := 2000000) [go_sem, -decide_eq_true_eq, -decide_eq_false_iff_not]
           repeat' first | apply And.intro | refine hk _ ?_ | intro hg | (refine CallK.intro (dc_laws_eqNodeS _ _ (by assumption)) ?_; simp -dsimp (maxSteps := 2000000) [go_sem, -decide_eq_true_eq, -decide_eq_false_iff_not]) | omega | exact True.intro
           all_goals clear hk k
           refine AW.cond rfl ?_ ?_
           ·intro hc; try simp at hc
            all_goals (
             refine rgA [4] ?_
             refine rt ?_
             cases a; cases b; simp [go_sem, Tryz.results40] at *; simp [*])
           ·intro hc; try simp at hc
            all_goals (
             refine AW.skipN (fun _ h => h) ?_
             refine rgA [4] ?_
             refine rt ?_
             cases a; cases b; simp [go_sem, Tryz.results40] at *; simp [*]))))))
theorem dc_laws_eqStepS (a b : List TStep) (ha : a.length ≤ 9223372036854775807 ∧ ∀ e ∈ a, e.gok) : DC Tryz.prog 13 [.isl 6 (a.map TStep.ro), .isl 6 (b.map TStep.ro)] (.bool (decide (a = b))) [] := by
 obtain ⟨ha, hg⟩ := ha
 refine DC.intro tiOk Tryz.func13 rfl rfl rfl rfl rfl rfl rfl rfl [] ?_
 refine rgA [0,1] ?_
 refine AW.seq ?_
 refine rgA [0,1,10] ?_
 refine AW.cond rfl ?_ ?_
 ·intro hc; try simp at hc
  all_goals (
   refine rgA [4] ?_
   refine rt ?_
   first | (rw [eq_ne_at hx hy (by first | assumption | (intro e; subst e; omega))]; simp [go_sem, Tryz.results13]; done) | (rw [eq_end (by omega) hinv (by omega)]; simp [go_sem, Tryz.results13]; done) | (rw [eq_ne_len (by omega)]; simp [go_sem, Tryz.results13]))
 ·intro hc; try simp at hc
  all_goals (
   refine AW.skipN (fun _ h => h) ?_
   refine AW.seq ?_
   refine rgA [0,1,5] ?_
   refine AW.block ?_
   refine AW.loopI (fun i : Nat => ⟨27, [(0, .isl 6 (a.map TStep.ro)), (1, .isl 6 (b.map TStep.ro)), (5, .int .i64 i)], []⟩) (fun i => i ≤ a.length ∧ a.take i = b.take i) (fun i => a.length - i) (0) (by simp) (Less.of rfl (by simp [go_sem]) (by simp [go_sem])) ?_
   rintro i ⟨hi, hinv⟩
   refine AW.seq ?_
   refine rgA [0,1,5,14] ?_
   refine AW.cond rfl ?_ ?_
   ·intro hc; try simp at hc
    all_goals (
     have hlt : i < a.length := by assumption
     obtain ⟨x, hx⟩ := at_some hlt
     obtain ⟨y, hy⟩ := at_some (l := b) (show i < b.length by omega)
     have hla := at_lt hy
     refine AW.skipN (fun _ h => h) ?_
     refine AW.seq ?_
     refine AW.block ?_
     refine rg [0,1,5,26] ?_
     intro k hk; simp -dsimp (maxSteps := 2000000) [go_sem, -decide_eq_true_eq, -decide_eq_false_iff_not, hx, hy]
     repeat' first | (refine Chk.keys ?_; simp only [go_sem, List.map_cons, List.map_nil, List.flatMap_cons, List.flatMap_nil, List.flatMap_append, List.append_nil, List.nil_append, List.cons_append]; decide +kernel) | apply And.intro | refine hk _ ?_ | intro hg | (refine CallK.intro (dc_laws_eqStep x y (hg x (List.mem_of_getElem? hx))) ?_; simp -dsimp (maxSteps := 2000000) [go_sem, -decide_eq_true_eq, -decide_eq_false_iff_not, hx, hy]) | omega | exact True.intro
     all_goals clear hk k
     refine AW.cond rfl ?_ ?_
     ·intro hc; try simp at hc
      all_goals (
       refine rg [4] ?_
       intro k hk; simp -dsimp [go_sem, -decide_eq_true_eq, -decide_eq_false_iff_not, hx, hy]
       repeat' first | apply And.intro | refine hk _ ?_ | intro hg | omega | exact True.intro
       all_goals clear hk k
       refine rt ?_
       first | (rw [eq_ne_at hx hy (by first | assumption | (intro e; subst e; omega))]; simp [go_sem, Tryz.results13]; done) | (rw [eq_end (by omega) hinv (by omega)]; simp [go_sem, Tryz.results13]; done) | (rw [eq_ne_len (by omega)]; simp [go_sem, Tryz.results13]))
     ·intro hc; try simp at hc
      all_goals (
       refine AW.skipN (fun _ h => h) ?_
       refine rgK ?_
       intro k hk; simp -dsimp [go_sem, -decide_eq_true_eq, -decide_eq_false_iff_not, hx, hy]
       repeat' first | apply And.intro | refine hk _ ?_ | intro hg | omega | exact True.intro
       all_goals clear hk k
       show ∃ _, _
       have hw := wrapi hlt (by omega)
       refine ⟨i + 1, ⟨by omega, take_step hx hy (by first | assumption | (apply UInt8.toNat_inj.1; omega)) hinv⟩, by omega, Less.of rfl (by simp [go_sem, hw]) (by simp [go_sem])⟩))
   ·intro hc; try simp at hc
    all_goals (
     refine AW.exitN (fun _ h => h) ?_
     refine rgA [4] ?_
     refine rt ?_
     first | (rw [eq_ne_at hx hy (by first | assumption | (intro e; subst e; omega))]; simp [go_sem, Tryz.results13]; done) | (rw [eq_end (by omega) hinv (by omega)]; simp [go_sem, Tryz.results13]; done) | (rw [eq_ne_len (by omega)]; simp [go_sem, Tryz.results13])))
end Go.AM
namespace Go.AM
open Go.Proofs
theorem dc_laws_toStep (x : TStep) (hs : x.sz ≤ 1048576) : DC Tryz.prog 33 [.agg x.ro] (.agg [.int .i64 x.kind, .int .i64 x.par, .str x.name, .int .i64 x.arg, .osl 4 (x.cond.map TNode.ro), .osl 4 (x.expr.map TNode.ro)]) [] := by
 unfold TStep.sz at hs
 have h4 : x.cond.length ≤ 1048576 := by omega
 have h5 : x.expr.length ≤ 1048576 := by omega
 refine DC.intro tiOk Tryz.func33 rfl rfl rfl rfl rfl rfl rfl rfl [1000] ?_
 refine rgA [1,2] ?_
 refine rgA [1,2,3] ?_
 refine rgA [1,2,3] ?_
 refine rgA [1,2,3] ?_
 refine rgA [1,2,3] ?_
 refine rgA [1,2,3] ?_
 refine rg [1,2,3] ?_
 intro k hk; simp -dsimp (maxSteps := 2000000) [go_sem, -decide_eq_true_eq, -decide_eq_false_iff_not]
 repeat' first | apply And.intro | refine hk _ ?_ | intro hg | (refine CallK.intro (dc_laws_toNodeS _ (by assumption)) ?_; simp -dsimp (maxSteps := 2000000) [go_sem, -decide_eq_true_eq, -decide_eq_false_iff_not]) | omega | exact True.intro
 all_goals clear hk k
 refine rg [2,3] ?_
 intro k hk; simp -dsimp (maxSteps := 2000000) [go_sem, -decide_eq_true_eq, -decide_eq_false_iff_not]
 repeat' first | apply And.intro | refine hk _ ?_ | intro hg | (refine CallK.intro (dc_laws_toNodeS _ (by assumption)) ?_; simp -dsimp (maxSteps := 2000000) [go_sem, -decide_eq_true_eq, -decide_eq_false_iff_not]) | omega | exact True.intro
 all_goals clear hk k
 refine rgA [2] ?_
 refine rt ?_
 simp [go_sem, Tryz.results33]
theorem dc_laws_toStepS (l : List TStep) (hl : l.length ≤ 1048576 ∧ ∀ e ∈ l, e.sz ≤ 1048576) : DC Tryz.prog 9 [.isl 6 (l.map TStep.ro)] (.osl 6 (l.map TStep.oc)) [] := by
 obtain ⟨hl, hg⟩ := hl
 have idz : ∀ i, (fill TStep.oc [.int .i64 0, .int .i64 0, .str [], .int .i64 0, .nils, .nils] l i).flatMap idsL = [] := fun i => fill_ids (by intro x; simp [go_sem]) (by simp [go_sem])
 refine DC.intro tiOk Tryz.func9 rfl rfl rfl rfl rfl rfl rfl rfl [1000] ?_
 refine rg [0] ?_
 intro k hk; simp -dsimp [go_sem, -decide_eq_true_eq, -decide_eq_false_iff_not]
 repeat' first | apply And.intro | refine hk _ ?_ | intro hg | omega | exact True.intro | (show (_ : Nat) < _; simp [go_sem]; omega) | (show (_ : Nat) ≤ _; simp [go_sem]; done) | (show _ = _; simp [go_sem]; done) | (show _ ∧ _ ; simp [go_sem]; done)
 all_goals clear hk k
 refine rg [0,3] ?_
 intro k hk; simp -dsimp [go_sem, -decide_eq_true_eq, -decide_eq_false_iff_not]
 repeat' first | apply And.intro | refine hk _ ?_ | intro hg | omega | exact True.intro | (show (_ : Nat) < _; simp [go_sem]; omega) | (show (_ : Nat) ≤ _; simp [go_sem]; done) | (show _ = _; simp [go_sem]; done) | (show _ ∧ _ ; simp [go_sem]; done)
 all_goals clear hk k
 refine AW.seq ?_
 refine rg [0,3,4] ?_
 intro k hk; simp -dsimp [go_sem, -decide_eq_true_eq, -decide_eq_false_iff_not]
 repeat' first | apply And.intro | refine hk _ ?_ | intro hg | omega | exact True.intro | (show (_ : Nat) < _; simp [go_sem]; omega) | (show (_ : Nat) ≤ _; simp [go_sem]; done) | (show _ = _; simp [go_sem]; done) | (show _ ∧ _ ; simp [go_sem]; done)
 all_goals clear hk k
 refine AW.block ?_
 refine AW.loopI (fun i : Nat => ⟨23, [(0, .isl 6 (l.map TStep.ro)), (3, .sl 7 6 0 l.length), (4, .int .i64 i)], [(7, some ⟨6, fill TStep.oc [.int .i64 0, .int .i64 0, .str [], .int .i64 0, .nils, .nils] l i⟩)]⟩) (fun i => i ≤ l.length) (fun i => l.length - i) (0) (by simp) (Less.of rfl (by simp [go_sem]) (by simp [go_sem, fill_zero])) ?_
 rintro i hi
 refine AW.seq ?_
 refine rg [0,3,4,11] ?_
 intro k hk; simp -dsimp [go_sem, -decide_eq_true_eq, -decide_eq_false_iff_not]
 repeat' first | apply And.intro | refine hk _ ?_ | intro hg | omega | exact True.intro | (show (_ : Nat) < _; simp [go_sem]; omega) | (show (_ : Nat) ≤ _; simp [go_sem]; done) | (show _ = _; simp [go_sem]; done) | (show _ ∧ _ ; simp [go_sem]; done)
 all_goals clear hk k
 refine AW.cond rfl ?_ ?_
 ·intro hc; try simp at hc
  all_goals (
   have hlt : i < l.length := by assumption
   obtain ⟨x, hx⟩ := at_some hlt
   have hf := fill_len (f := TStep.oc) (z := [.int .i64 0, .int .i64 0, .str [], .int .i64 0, .nils, .nils]) hi
   have hf2 := fill_at (f := TStep.oc) (z := [.int .i64 0, .int .i64 0, .str [], .int .i64 0, .nils, .nils]) hlt
   refine AW.skipN (fun _ h => h) ?_
   refine AW.seq ?_
   refine AW.block ?_
   refine rgN0 [0,3,4] (fun _ h => h) ?_
   intro k hk; simp -dsimp (maxSteps := 2000000) [go_sem, -decide_eq_true_eq, -decide_eq_false_iff_not, hx, hf, hf2, idz]
   repeat' first | apply And.intro | refine hk _ ?_ | intro hg | (refine CallK.intro (dc_laws_toStep x (hg x (List.mem_of_getElem? hx))) ?_; simp -dsimp (maxSteps := 2000000) [go_sem, -decide_eq_true_eq, -decide_eq_false_iff_not, hx, hf, hf2, idz]) | omega | exact True.intro | (show (_ : Nat) < _; simp [go_sem, hx, hf, hf2, idz]; omega) | (show (_ : Nat) ≤ _; simp [go_sem, hx, hf, hf2, idz]; done) | (show _ = _; simp [go_sem, hx, hf, hf2, idz]; done) | (show _ ∧ _ ; simp [go_sem, hx, hf, hf2, idz]; done)
   all_goals clear hk k
   refine AW.fold (nd := ?nd_1) (c := ?c_1) (l := ?l_1) (es := ?es_1) (n := ?n_1) 7 i 4 1020 ?h1_1 ?h2_1 ?h4_1 ?h3_1 ?hn_1 (by decide) ?h6_1 ?kk_1
   (case h1_1 => exact rfl)
   (case h2_1 => refine node_here ?_; (repeat rw [List.length_set]); omega)
   (case h4_1 => exact rfl)
   (case h3_1 => exact rfl)
   (case hn_1 => simp)
   (case h6_1 => simp [go_sem])
   refine AW.cellLe (nd := ?nd_2) (c := ?c_2) (x := ?x_2) 7 i 4 (owc 4 (x.cond.map TNode.ro)) ?h1_2 ?h2_2 ?h3_2 ?h4_2 ?kk_2
   (case h1_2 => exact rfl)
   (case h2_2 => refine node_here ?_; (repeat rw [List.length_set]); omega)
   (case h3_2 => exact rfl)
   (case h4_2 => simp [go_sem])
   refine AW.fold (nd := ?nd_3) (c := ?c_3) (l := ?l_3) (es := ?es_3) (n := ?n_3) 7 i 5 2020 ?h1_3 ?h2_3 ?h4_3 ?h3_3 ?hn_3 (by decide) ?h6_3 ?kk_3
   (case h1_3 => exact rfl)
   (case h2_3 => refine node_here ?_; (repeat rw [List.length_set]); omega)
   (case h4_3 => exact rfl)
   (case h3_3 => exact rfl)
   (case hn_3 => simp)
   (case h6_3 => simp [go_sem])
   refine AW.cellLe (nd := ?nd_4) (c := ?c_4) (x := ?x_4) 7 i 5 (owc 4 (x.expr.map TNode.ro)) ?h1_4 ?h2_4 ?h3_4 ?h4_4 ?kk_4
   (case h1_4 => exact rfl)
   (case h2_4 => refine node_here ?_; (repeat rw [List.length_set]); omega)
   (case h3_4 => exact rfl)
   (case h4_4 => simp [go_sem])
   refine AW.tidy (st' := ?stt_5)  [0, 3, 4] ?e_5 ?kk_5
   (case e_5 => simp -dsimp [go_sem, List.set_set, hx, hf, hf2, idz]; exact rfl)
   refine rgK ?_
   intro k hk; simp -dsimp [go_sem, -decide_eq_true_eq, -decide_eq_false_iff_not, hx, hf, hf2, idz]
   repeat' first | apply And.intro | refine hk _ ?_ | intro hg | omega | exact True.intro | (show (_ : Nat) < _; simp [go_sem, hx, hf, hf2, idz]; omega) | (show (_ : Nat) ≤ _; simp [go_sem, hx, hf, hf2, idz]; done) | (show _ = _; simp [go_sem, hx, hf, hf2, idz]; done) | (show _ ∧ _ ; simp [go_sem, hx, hf, hf2, idz]; done)
   all_goals clear hk k
   show ∃ _, _
   have hw := wrapi hlt (by omega)
   have hs := fill_set (f := TStep.oc) (z := [.int .i64 0, .int .i64 0, .str [], .int .i64 0, .nils, .nils]) hx
   simp [go_sem] at hs
   refine ⟨i + 1, by omega, by omega, Less.of rfl (by simp [go_sem, hw]) (by simp [go_sem, List.set_set, ← hs])⟩)
 ·intro hc; try simp at hc
  all_goals (
   refine AW.exitN (fun _ h => h) ?_
   refine rg [2] ?_
   intro k hk; simp -dsimp [go_sem, -decide_eq_true_eq, -decide_eq_false_iff_not]
   repeat' first | apply And.intro | refine hk _ ?_ | intro hg | omega | exact True.intro | (show (_ : Nat) < _; simp [go_sem]; omega) | (show (_ : Nat) ≤ _; simp [go_sem]; done) | (show _ = _; simp [go_sem]; done) | (show _ ∧ _ ; simp [go_sem]; done)
   all_goals clear hk k
   refine rt ?_
   have he := fill_end (f := TStep.oc) (z := [.int .i64 0, .int .i64 0, .str [], .int .i64 0, .nils, .nils]) (show l.length ≤ i by omega); simp [go_sem, Tryz.results9, he])
end Go.AM
namespace Go.AM
@[go_sem ↓ high] theorem TNode_cells (x y : TNode) : ([x.kind, x.val, x.left, x.right] = ([y.kind, y.val, y.left, y.right] : List Int)) ↔ x = y := by
 cases x; cases y; simp
@[go_sem ↓ high] theorem TClaim_cells (x y : TClaim) : ([x.inst, x.step, x.user] = ([y.inst, y.step, y.user] : List Int)) ↔ x = y := by
 cases x; cases y; simp
end Go.AM
namespace Go.AM
@[go_sem high] theorem TStep_unC (l : List TStep) : List.map ((fun x => List.map unown x) ∘ TStep.oc) l = l.map TStep.ro := by rw [← TStep_oc_unM, List.map_map]
@[go_sem high] theorem TProc_unC (l : List TProc) : List.map ((fun x => List.map unown x) ∘ TProc.oc) l = l.map TProc.ro := by rw [← TProc_oc_unM, List.map_map]
@[go_sem high] theorem TInst_unC (l : List TInst) : List.map ((fun x => List.map unown x) ∘ TInst.oc) l = l.map TInst.ro := by rw [← TInst_oc_unM, List.map_map]
end Go.AM
namespace Go.AM
open Go.Proofs
set_option maxHeartbeats 20000000 in
theorem dc_laws_FnExactDoneChart_bad (p : List TStep) (gp : p.length ≤ 9223372036854775807 ∧ ∀ e ∈ p, e.gok) (c : TChart) (gc : c.gok) (st : Int) (gst : -9223372036854775808 ≤ st ∧ st ≤ 9223372036854775807) (v : List Int) (gv : v.length ≤ 9223372036854775807) (n0 : Int) (hsp : DC Tryz.prog 19 [.isl 6 (p.map TStep.ro), .agg c.ro, .int .i64 st, .isl 1 (v.map I1)] (.agg [.int .i64 n0, .int .i64 0, .int .i64 0, .isl 1 [], .isl 1 [], .isl 1 []]) []) (him : DC Tryz.prog 21 [.isl 6 (p.map TStep.ro), .agg c.ro, .int .i64 st, .isl 1 (v.map I1)] (.agg [.int .i64 n0, .int .i64 0, .int .i64 0, .isl 1 [], .isl 1 [], .isl 1 []]) []) : DC Tryz.prog 4 [.isl 6 (p.map TStep.ro), .agg c.ro, .int .i64 st, .isl 1 (v.map I1)] (.bool true) [] := by
 refine DC.intro tiOk Tryz.func4 rfl rfl rfl rfl rfl rfl rfl rfl [] ?_
 refine rgA [0,2,3,5] ?_
 refine AW.seq ?_
 refine rgA [0,2,3,5,21] ?_
 refine AW.cond rfl ?_ ?_
 ·intro hc; try simp [subz_neg, subz_nn] at hc
  all_goals try (exfalso; omega; done)
  all_goals (
   refine rgA [8] ?_
   refine rt ?_
   simp [go_sem, Tryz.results4])
 ·intro hc; try simp [subz_neg, subz_nn] at hc
  all_goals try (exfalso; omega; done)
  all_goals (
   refine AW.skipN (fun _ h => h) ?_
   refine rgA [0,2,3,5,9] ?_
   refine rg [0,2,3,5,9] ?_
   intro k hk; simp -dsimp (maxSteps := 2000000) [go_sem, -decide_eq_true_eq, -decide_eq_false_iff_not]
   repeat' first | apply And.intro | refine hk _ ?_ | intro hg | (refine CallK.intro (dc_laws_szStepS _ _ (by first | assumption | (constructor <;> first | assumption | omega | grind [subz])) (by assumption)) ?_; simp -dsimp (maxSteps := 2000000) [go_sem, -decide_eq_true_eq, -decide_eq_false_iff_not]) | omega | exact True.intro
   all_goals clear hk k
   refine AW.seq ?_
   refine rgA [0,2,3,5,9,26] ?_
   refine AW.cond rfl ?_ ?_
   ·intro hc; try simp [subz_neg, subz_nn] at hc
    all_goals try (exfalso; omega; done)
    all_goals (
     refine rgA [8] ?_
     refine rt ?_
     simp [go_sem, Tryz.results4])
   ·intro hc; try simp [subz_neg, subz_nn] at hc
    all_goals try (exfalso; omega; done)
    all_goals (
     refine AW.skipN (fun _ h => h) ?_
     refine rg [0,2,3,5,9] ?_
     intro k hk; simp -dsimp (maxSteps := 2000000) [go_sem, -decide_eq_true_eq, -decide_eq_false_iff_not]
     repeat' first | apply And.intro | refine hk _ ?_ | intro hg | (refine CallK.intro (dc_laws_szChart _ _ (by first | assumption | (constructor <;> first | assumption | omega | grind [subz])) (by assumption)) ?_; simp -dsimp (maxSteps := 2000000) [go_sem, -decide_eq_true_eq, -decide_eq_false_iff_not]) | omega | exact True.intro
     all_goals clear hk k
     refine AW.seq ?_
     refine rgA [0,2,3,5,31] ?_
     refine AW.cond rfl ?_ ?_
     ·intro hc; try simp [subz_neg, subz_nn] at hc
      all_goals try (exfalso; omega; done)
      all_goals (
       refine rgA [8] ?_
       refine rt ?_
       simp [go_sem, Tryz.results4])
     ·intro hc; try simp [subz_neg, subz_nn] at hc
      all_goals try (exfalso; omega; done)
      all_goals (
       refine AW.skipN (fun _ h => h) ?_
       have bp : p.length ≤ 1048576 ∧ ∀ e ∈ p, e.sz ≤ 1048576 := ⟨by grind [subz], fun e he => by have := sum_mem (f := TStep.sz) he; grind [subz]⟩
       have bc : c.sz ≤ 1048576 := by grind [subz]
       have bv : v.length ≤ 1048576 := by omega
       have bps : p.length + (p.map TStep.sz).sum ≤ 1048576 := by grind [subz]
       have hms := mkS_sz p
       have hcs : c.vars.length + c.acts.length + c.dues.length ≤ 1048576 := by have := bc; unfold TChart.sz at this; omega
       refine rg [0,2,3,5,10] ?_
       intro k hk; simp -dsimp (maxSteps := 2000000) [go_sem, -decide_eq_true_eq, -decide_eq_false_iff_not]
       repeat' first | (refine Chk.keys ?_; simp only [go_sem, List.map_cons, List.map_nil, List.flatMap_cons, List.flatMap_nil, List.flatMap_append, List.append_nil, List.nil_append, List.cons_append]; decide +kernel) | apply And.intro | refine hk _ ?_ | intro hg | ((first | refine CallK.intro (dc_laws_toStepS p bp) ?_ | refine CallK.intro (dc_laws_toChart c bc) ?_ | refine CallK.intro (dc_laws_toInt64S v bv) ?_ | refine CallK.intro (hsp) ?_); simp -dsimp (maxSteps := 2000000) [go_sem, -decide_eq_true_eq, -decide_eq_false_iff_not]) | omega | exact True.intro
       all_goals clear hk k
       refine rg [0,2,3,5,10,11] ?_
       intro k hk; simp -dsimp (maxSteps := 2000000) [go_sem, -decide_eq_true_eq, -decide_eq_false_iff_not]
       repeat' first | apply And.intro | refine hk _ ?_ | intro hg | (refine CallK.intro (dc_laws_toStepS p bp) ?_; simp -dsimp (maxSteps := 2000000) [go_sem, -decide_eq_true_eq, -decide_eq_false_iff_not]) | omega | exact True.intro
       all_goals clear hk k
       refine rg [0,2,3,5,10,11,12] ?_
       intro k hk; simp -dsimp (maxSteps := 2000000) [go_sem, -decide_eq_true_eq, -decide_eq_false_iff_not]
       repeat' first | apply And.intro | refine hk _ ?_ | intro hg | (refine CallK.intro (dc_laws_toChart c bc) ?_; simp -dsimp (maxSteps := 2000000) [go_sem, -decide_eq_true_eq, -decide_eq_false_iff_not]) | omega | exact True.intro
       all_goals clear hk k
       refine rg [0,2,3,5,10,11,12,13] ?_
       intro k hk; simp -dsimp (maxSteps := 2000000) [go_sem, -decide_eq_true_eq, -decide_eq_false_iff_not]
       repeat' first | apply And.intro | refine hk _ ?_ | intro hg | (refine CallK.intro (dc_laws_toInt64S v bv) ?_; simp -dsimp (maxSteps := 2000000) [go_sem, -decide_eq_true_eq, -decide_eq_false_iff_not]) | omega | exact True.intro
       all_goals clear hk k
       refine rg [0,2,3,5,10,11,12,13,14] ?_
       intro k hk; simp -dsimp (maxSteps := 2000000) [go_sem, -decide_eq_true_eq, -decide_eq_false_iff_not]
       repeat' first | apply And.intro | refine hk _ ?_ | intro hg | (refine CallK.intro (him) ?_; simp -dsimp (maxSteps := 2000000) [go_sem, -decide_eq_true_eq, -decide_eq_false_iff_not]) | omega | exact True.intro
       all_goals clear hk k
       refine AW.seq ?_
       refine rg [0,2,3,5,10,11,12,13,14,54] ?_
       intro k hk; simp -dsimp (maxSteps := 2000000) [go_sem, -decide_eq_true_eq, -decide_eq_false_iff_not]
       repeat' first | apply And.intro | refine hk _ ?_ | intro hg | (refine CallK.intro (dc_laws_eqChartResult (⟨n0, ⟨0, 0, [], [], []⟩⟩ : TChartResult) (⟨n0, ⟨0, 0, [], [], []⟩⟩ : TChartResult) (by simp [TChartResult.gok, TChart.gok] <;> omega)) ?_; simp -dsimp (maxSteps := 2000000) [go_sem, -decide_eq_true_eq, -decide_eq_false_iff_not]) | omega | exact True.intro
       all_goals clear hk k
       refine AW.cond rfl ?_ ?_
       ·intro hc; try simp [subz_neg, subz_nn] at hc
        all_goals try (exfalso; omega; done)
        all_goals (
         refine rgA [8] ?_
         refine rt ?_
         simp [go_sem, Tryz.results4])
       ·intro hc; try simp [subz_neg, subz_nn] at hc
        all_goals try (exfalso; omega; done)
        all_goals (
         refine AW.skipN (fun _ h => h) ?_
         refine AW.seq ?_
         refine rg [0,2,3,5,10,11,12,13,14,59] ?_
         intro k hk; simp -dsimp (maxSteps := 2000000) [go_sem, -decide_eq_true_eq, -decide_eq_false_iff_not]
         repeat' first | apply And.intro | refine hk _ ?_ | intro hg | ((first | refine CallK.intro (dc_laws_toStepS p bp) ?_ | refine CallK.intro (dc_laws_eqStepS p p gp) ?_); simp -dsimp (maxSteps := 2000000) [go_sem, -decide_eq_true_eq, -decide_eq_false_iff_not]) | omega | exact True.intro
         all_goals clear hk k
         refine AW.cond rfl ?_ ?_
         ·intro hc; try simp [subz_neg, subz_nn] at hc
          all_goals try (exfalso; omega; done)
          all_goals (
           refine rgA [8] ?_
           refine rt ?_
           simp [go_sem, Tryz.results4])
         ·intro hc; try simp [subz_neg, subz_nn] at hc
          all_goals try (exfalso; omega; done)
          all_goals (
           refine AW.skipN (fun _ h => h) ?_
           refine AW.seq ?_
           refine rg [0,2,3,5,10,11,12,13,14,64] ?_
           intro k hk; simp -dsimp (maxSteps := 2000000) [go_sem, -decide_eq_true_eq, -decide_eq_false_iff_not]
           repeat' first | (refine Chk.keys ?_; simp only [go_sem, List.map_cons, List.map_nil, List.flatMap_cons, List.flatMap_nil, List.flatMap_append, List.append_nil, List.nil_append, List.cons_append]; decide +kernel) | apply And.intro | refine hk _ ?_ | intro hg | ((first | refine CallK.intro (dc_laws_toChart c bc) ?_ | refine CallK.intro (dc_laws_eqChart c c gc) ?_); simp -dsimp (maxSteps := 2000000) [go_sem, -decide_eq_true_eq, -decide_eq_false_iff_not]) | omega | exact True.intro
           all_goals clear hk k
           refine AW.cond rfl ?_ ?_
           ·intro hc; try simp [subz_neg, subz_nn] at hc
            all_goals try (exfalso; omega; done)
            all_goals (
             refine rgA [8] ?_
             refine rt ?_
             simp [go_sem, Tryz.results4])
           ·intro hc; try simp [subz_neg, subz_nn] at hc
            all_goals try (exfalso; omega; done)
            all_goals (
             refine AW.skipN (fun _ h => h) ?_
             refine AW.seq ?_
             refine rg [0,2,3,5,10,11,12,13,14,69] ?_
             intro k hk; simp -dsimp (maxSteps := 2000000) [go_sem, -decide_eq_true_eq, -decide_eq_false_iff_not]
             repeat' first | apply And.intro | refine hk _ ?_ | intro hg | ((first | refine CallK.intro (dc_laws_toInt64S v bv) ?_ | refine CallK.intro (dc_laws_eqInt64S v v gv) ?_); simp -dsimp (maxSteps := 2000000) [go_sem, -decide_eq_true_eq, -decide_eq_false_iff_not]) | omega | exact True.intro
             all_goals clear hk k
             refine AW.cond rfl ?_ ?_
             ·intro hc; try simp [subz_neg, subz_nn] at hc
              all_goals try (exfalso; omega; done)
              all_goals (
               refine rgA [8] ?_
               refine rt ?_
               simp [go_sem, Tryz.results4])
             ·intro hc; try simp [subz_neg, subz_nn] at hc
              all_goals try (exfalso; omega; done)
              all_goals (
               refine AW.skipN (fun _ h => h) ?_
               refine rgA [0,2,3,5,10,11,12,13,14,15] ?_
               refine AW.reg tiOk (fun i => if i = 2 then [0] else []) [0,2,3,5,10,12,13,14,15] ?_
               intro k hk; simp -dsimp (maxSteps := 2000000) [go_sem, -decide_eq_true_eq, -decide_eq_false_iff_not]
               repeat' first | apply And.intro | refine hk _ ?_ | intro hg | (refine CallK.intro (dc_laws_markStepS p 1 (by constructor <;> omega)) ?_; simp -dsimp (maxSteps := 2000000) [go_sem, -decide_eq_true_eq, -decide_eq_false_iff_not]) | omega | exact True.intro
               all_goals clear hk k
               refine AW.reg tiOk (fun _ => [0]) [0,2,3,5,10,13,14,15] ?_
               intro k hk; simp -dsimp (maxSteps := 2000000) [go_sem, -decide_eq_true_eq, -decide_eq_false_iff_not]
               repeat' first | apply And.intro | refine hk _ ?_ | intro hg | (refine CallK.intro (dc_laws_markChart_ooo c.status c.now c.vars c.acts c.dues (1 + (mkS p : Int)) (by constructor <;> omega)) ?_; simp -dsimp (maxSteps := 2000000) [go_sem, -decide_eq_true_eq, -decide_eq_false_iff_not]) | omega | exact True.intro
               all_goals clear hk k
               refine AW.reg tiOk (fun _ => [0]) [0,2,3,5,10,14,15] ?_
               intro k hk; simp -dsimp (maxSteps := 2000000) [go_sem, -decide_eq_true_eq, -decide_eq_false_iff_not]
               repeat' first | apply And.intro | refine hk _ ?_ | intro hg | (refine CallK.intro (dc_laws_markInt64S v ((1 + (mkS p : Int)) + c.vars.length + c.acts.length + c.dues.length) (by constructor <;> omega)) ?_; simp -dsimp (maxSteps := 2000000) [go_sem, -decide_eq_true_eq, -decide_eq_false_iff_not]) | omega | exact True.intro
               all_goals clear hk k
               refine AW.seq ?_
               refine rg [0,2,3,5,10,14,86] ?_
               intro k hk; simp +contextual -dsimp (maxSteps := 2000000) [go_sem, -decide_eq_true_eq, -decide_eq_false_iff_not]
               repeat' first | apply And.intro | refine hk _ ?_ | (intro hg; try simp only [decide_eq_true_eq, decide_eq_false_iff_not] at hg) | (refine CallK.intro (dc_laws_eqChartResult (⟨n0, ⟨0, 0, [], [], []⟩⟩ : TChartResult) (⟨n0, ⟨0, 0, [], [], []⟩⟩ : TChartResult) (by simp [TChartResult.gok, TChart.gok] <;> omega)) ?_; simp +contextual -dsimp (maxSteps := 2000000) [go_sem, -decide_eq_true_eq, -decide_eq_false_iff_not]) | omega | exact True.intro
               all_goals clear hk k
               all_goals (
                refine AW.cond rfl ?_ ?_
                ·intro hc; try simp [subz_neg, subz_nn] at hc
                 all_goals try (exfalso; omega; done)
                 all_goals (
                  refine rgA [8] ?_
                  refine rt ?_
                  simp [go_sem, Tryz.results4])
                ·intro hc; try simp [subz_neg, subz_nn] at hc
                 all_goals try (exfalso; omega; done)
                 all_goals (
                  refine AW.skipN (fun _ h => h) ?_
                  refine rgA [0,2,3,5,10,14,16] ?_
                  refine AW.reg tiOk (fun _ => [0]) [0,2,3,5,10,14,16] ?_
                  intro k hk; simp -dsimp (maxSteps := 2000000) [go_sem, -decide_eq_true_eq, -decide_eq_false_iff_not]
                  repeat' first | apply And.intro | refine hk _ ?_ | intro hg | (refine CallK.intro (dc_laws_markChartResult_nnn (n0) (0) (0) 1 (by constructor <;> omega)) ?_; simp -dsimp (maxSteps := 2000000) [go_sem, -decide_eq_true_eq, -decide_eq_false_iff_not]) | omega | exact True.intro
                  all_goals clear hk k
                  refine rgA [0,2,3,5,10,14,16,17] ?_
                  refine rg [0,2,3,5,10,14,16,17] ?_
                  intro k hk; simp -dsimp (maxSteps := 2000000) [go_sem, -decide_eq_true_eq, -decide_eq_false_iff_not]
                  repeat' first | apply And.intro | refine hk _ ?_ | intro hg | (refine CallK.intro (dc_laws_heldChartResult_nnn (n0) (0) (0) 1 (by constructor <;> omega)) ?_; simp -dsimp (maxSteps := 2000000) [go_sem, -decide_eq_true_eq, -decide_eq_false_iff_not]) | omega | exact True.intro
                  all_goals clear hk k
                  refine AW.seq ?_
                  refine rgA [0,2,3,5,10,14,16,17,94] ?_
                  refine AW.cond rfl ?_ ?_
                  ·intro hc; try simp [subz_neg, subz_nn] at hc
                   all_goals try (exfalso; omega; done)
                   all_goals (
                    refine rgA [8] ?_
                    refine rt ?_
                    simp [go_sem, Tryz.results4])
                  ·intro hc; try simp [subz_neg, subz_nn] at hc
                   all_goals try (exfalso; omega; done)
                   all_goals (
                    refine AW.skipN (fun _ h => h) ?_
                    refine AW.seq ?_
                    refine rgA [0,2,3,5,10,14,16,97] ?_
                    refine AW.cond rfl ?_ ?_
                    ·intro hc; try simp [subz_neg, subz_nn] at hc
                     all_goals try (exfalso; omega; done)
                     all_goals (
                      refine rgA [8] ?_
                      refine rt ?_
                      simp [go_sem, Tryz.results4])
                    ·intro hc; try simp [subz_neg, subz_nn] at hc
                     all_goals try (exfalso; omega; done)
                     all_goals (
                      refine AW.skipN (fun _ h => h) ?_
                      refine rg [10,14,16,18] ?_
                      intro k hk; simp -dsimp (maxSteps := 2000000) [go_sem, -decide_eq_true_eq, -decide_eq_false_iff_not]
                      repeat' first | (refine Chk.keys ?_; simp only [go_sem, List.map_cons, List.map_nil, List.flatMap_cons, List.flatMap_nil, List.flatMap_append, List.append_nil, List.nil_append, List.cons_append]; decide +kernel) | apply And.intro | refine hk _ ?_ | intro hg | ((first | refine CallK.intro (dc_laws_toStepS p bp) ?_ | refine CallK.intro (dc_laws_toChart c bc) ?_ | refine CallK.intro (dc_laws_toInt64S v bv) ?_ | refine CallK.intro (him) ?_); simp -dsimp (maxSteps := 2000000) [go_sem, -decide_eq_true_eq, -decide_eq_false_iff_not]) | omega | exact True.intro
                      all_goals clear hk k
                      refine AW.seq ?_
                      refine rg [14,16,109] ?_
                      intro k hk; simp -dsimp (maxSteps := 2000000) [go_sem, -decide_eq_true_eq, -decide_eq_false_iff_not]
                      repeat' first | apply And.intro | refine hk _ ?_ | intro hg | (refine CallK.intro (dc_laws_eqChartResult (⟨n0, ⟨0, 0, [], [], []⟩⟩ : TChartResult) (⟨n0, ⟨0, 0, [], [], []⟩⟩ : TChartResult) (by simp [TChartResult.gok, TChart.gok] <;> omega)) ?_; simp -dsimp (maxSteps := 2000000) [go_sem, -decide_eq_true_eq, -decide_eq_false_iff_not]) | omega | exact True.intro
                      all_goals clear hk k
                      refine AW.cond rfl ?_ ?_
                      ·intro hc; try simp [subz_neg, subz_nn] at hc
                       all_goals try (exfalso; omega; done)
                       all_goals (
                        refine rgA [8] ?_
                        refine rt ?_
                        simp [go_sem, Tryz.results4])
                      ·intro hc; try simp [subz_neg, subz_nn] at hc
                       all_goals try (exfalso; omega; done)
                       all_goals (
                        refine AW.skipN (fun _ h => h) ?_
                        refine rgA [14,16,17] ?_
                        refine rg [16,17] ?_
                        intro k hk; simp -dsimp (maxSteps := 2000000) [go_sem, -decide_eq_true_eq, -decide_eq_false_iff_not]
                        repeat' first | apply And.intro | refine hk _ ?_ | intro hg | (refine CallK.intro (dc_laws_heldChartResult_nnn (n0) (0) (0) 1 (by constructor <;> omega)) ?_; simp -dsimp (maxSteps := 2000000) [go_sem, -decide_eq_true_eq, -decide_eq_false_iff_not]) | omega | exact True.intro
                        all_goals clear hk k
                        refine AW.seq ?_
                        refine rgA [16,17,114] ?_
                        refine AW.cond rfl ?_ ?_
                        ·intro hc; try simp [subz_neg, subz_nn] at hc
                         all_goals try (exfalso; omega; done)
                         all_goals (
                          refine rgA [8] ?_
                          refine rt ?_
                          simp [go_sem, Tryz.results4])
                        ·intro hc; try simp [subz_neg, subz_nn] at hc
                         all_goals try (exfalso; omega; done)
                         all_goals (
                          refine AW.skipN (fun _ h => h) ?_
                          refine AW.seq ?_
                          refine rgA [117] ?_
                          refine AW.cond rfl ?_ ?_
                          ·intro hc; try simp [subz_neg, subz_nn] at hc
                           all_goals try (exfalso; omega; done)
                           all_goals (
                            refine rgA [8] ?_
                            refine rt ?_
                            simp [go_sem, Tryz.results4])
                          ·intro hc; try simp [subz_neg, subz_nn] at hc
                           all_goals try (exfalso; omega; done)
                           all_goals (
                            refine AW.skipN (fun _ h => h) ?_
                            refine rgA [8] ?_
                            refine rt ?_
                            simp [go_sem, Tryz.results4]))))))))))))))
set_option maxHeartbeats 20000000 in
theorem dc_laws_FnExactDoneChart_ok (p : List TStep) (gp : p.length ≤ 9223372036854775807 ∧ ∀ e ∈ p, e.gok) (c : TChart) (gc : c.gok) (st : Int) (gst : -9223372036854775808 ≤ st ∧ st ≤ 9223372036854775807) (v : List Int) (gv : v.length ≤ 9223372036854775807) (a : Nat) (hst : st = (a : Int)) (h1 : chartF p c = 0) (h2 : varsF v = 0) (ha : a < p.length) (hkd : (decide ((nS p a).kind = 2) && decide (actA c a = 1)) = true) (X : TChart) (hX : goF p 800 false a (⟨c.status, c.now, v, c.acts, c.dues⟩ : TChart) = X) (hwX : WfC p X) : DC Tryz.prog 4 [.isl 6 (p.map TStep.ro), .agg c.ro, .int .i64 st, .isl 1 (v.map I1)] (.bool true) [] := by
 refine DC.intro tiOk Tryz.func4 rfl rfl rfl rfl rfl rfl rfl rfl [] ?_
 refine rgA [0,2,3,5] ?_
 refine AW.seq ?_
 refine rgA [0,2,3,5,21] ?_
 refine AW.cond rfl ?_ ?_
 ·intro hc; try simp [subz_neg, subz_nn] at hc
  all_goals try (exfalso; omega; done)
  all_goals (
   refine rgA [8] ?_
   refine rt ?_
   simp [go_sem, Tryz.results4])
 ·intro hc; try simp [subz_neg, subz_nn] at hc
  all_goals try (exfalso; omega; done)
  all_goals (
   refine AW.skipN (fun _ h => h) ?_
   refine rgA [0,2,3,5,9] ?_
   refine rg [0,2,3,5,9] ?_
   intro k hk; simp -dsimp (maxSteps := 2000000) [go_sem, -decide_eq_true_eq, -decide_eq_false_iff_not]
   repeat' first | apply And.intro | refine hk _ ?_ | intro hg | (refine CallK.intro (dc_laws_szStepS _ _ (by first | assumption | (constructor <;> first | assumption | omega | grind [subz])) (by assumption)) ?_; simp -dsimp (maxSteps := 2000000) [go_sem, -decide_eq_true_eq, -decide_eq_false_iff_not]) | omega | exact True.intro
   all_goals clear hk k
   refine AW.seq ?_
   refine rgA [0,2,3,5,9,26] ?_
   refine AW.cond rfl ?_ ?_
   ·intro hc; try simp [subz_neg, subz_nn] at hc
    all_goals try (exfalso; omega; done)
    all_goals (
     refine rgA [8] ?_
     refine rt ?_
     simp [go_sem, Tryz.results4])
   ·intro hc; try simp [subz_neg, subz_nn] at hc
    all_goals try (exfalso; omega; done)
    all_goals (
     refine AW.skipN (fun _ h => h) ?_
     refine rg [0,2,3,5,9] ?_
     intro k hk; simp -dsimp (maxSteps := 2000000) [go_sem, -decide_eq_true_eq, -decide_eq_false_iff_not]
     repeat' first | apply And.intro | refine hk _ ?_ | intro hg | (refine CallK.intro (dc_laws_szChart _ _ (by first | assumption | (constructor <;> first | assumption | omega | grind [subz])) (by assumption)) ?_; simp -dsimp (maxSteps := 2000000) [go_sem, -decide_eq_true_eq, -decide_eq_false_iff_not]) | omega | exact True.intro
     all_goals clear hk k
     refine AW.seq ?_
     refine rgA [0,2,3,5,31] ?_
     refine AW.cond rfl ?_ ?_
     ·intro hc; try simp [subz_neg, subz_nn] at hc
      all_goals try (exfalso; omega; done)
      all_goals (
       refine rgA [8] ?_
       refine rt ?_
       simp [go_sem, Tryz.results4])
     ·intro hc; try simp [subz_neg, subz_nn] at hc
      all_goals try (exfalso; omega; done)
      all_goals (
       refine AW.skipN (fun _ h => h) ?_
       have bp : p.length ≤ 1048576 ∧ ∀ e ∈ p, e.sz ≤ 1048576 := ⟨by grind [subz], fun e he => by have := sum_mem (f := TStep.sz) he; grind [subz]⟩
       have bc : c.sz ≤ 1048576 := by grind [subz]
       have bv : v.length ≤ 1048576 := by omega
       have bps : p.length + (p.map TStep.sz).sum ≤ 1048576 := by grind [subz]
       have hms := mkS_sz p
       have hcs : c.vars.length + c.acts.length + c.dues.length ≤ 1048576 := by have := bc; unfold TChart.sz at this; omega
       subst hst
       have hxv := hwX.vars
       have hxa := hwX.acts
       have hxd := hwX.dues
       refine rg [0,2,3,5,10] ?_
       intro k hk; simp -dsimp (maxSteps := 2000000) [go_sem, -decide_eq_true_eq, -decide_eq_false_iff_not]
       repeat' first | (refine Chk.keys ?_; simp only [go_sem, List.map_cons, List.map_nil, List.flatMap_cons, List.flatMap_nil, List.flatMap_append, List.append_nil, List.nil_append, List.cons_append]; decide +kernel) | apply And.intro | refine hk _ ?_ | intro hg | ((first | refine CallK.intro (dc_laws_toStepS p bp) ?_ | refine CallK.intro (dc_laws_toChart c bc) ?_ | refine CallK.intro (dc_laws_toInt64S v bv) ?_ | refine CallK.intro (dc_spec_DoneChart_ok p c gp.1 gp.2 gc v gv a h1 h2 ha hkd X hX) ?_); simp -dsimp (maxSteps := 2000000) [go_sem, -decide_eq_true_eq, -decide_eq_false_iff_not]) | omega | exact True.intro
       all_goals clear hk k
       refine rg [0,2,3,5,10,11] ?_
       intro k hk; simp -dsimp (maxSteps := 2000000) [go_sem, -decide_eq_true_eq, -decide_eq_false_iff_not]
       repeat' first | apply And.intro | refine hk _ ?_ | intro hg | (refine CallK.intro (dc_laws_toStepS p bp) ?_; simp -dsimp (maxSteps := 2000000) [go_sem, -decide_eq_true_eq, -decide_eq_false_iff_not]) | omega | exact True.intro
       all_goals clear hk k
       refine rg [0,2,3,5,10,11,12] ?_
       intro k hk; simp -dsimp (maxSteps := 2000000) [go_sem, -decide_eq_true_eq, -decide_eq_false_iff_not]
       repeat' first | apply And.intro | refine hk _ ?_ | intro hg | (refine CallK.intro (dc_laws_toChart c bc) ?_; simp -dsimp (maxSteps := 2000000) [go_sem, -decide_eq_true_eq, -decide_eq_false_iff_not]) | omega | exact True.intro
       all_goals clear hk k
       refine rg [0,2,3,5,10,11,12,13] ?_
       intro k hk; simp -dsimp (maxSteps := 2000000) [go_sem, -decide_eq_true_eq, -decide_eq_false_iff_not]
       repeat' first | apply And.intro | refine hk _ ?_ | intro hg | (refine CallK.intro (dc_laws_toInt64S v bv) ?_; simp -dsimp (maxSteps := 2000000) [go_sem, -decide_eq_true_eq, -decide_eq_false_iff_not]) | omega | exact True.intro
       all_goals clear hk k
       refine rg [0,2,3,5,10,11,12,13,14] ?_
       intro k hk; simp -dsimp (maxSteps := 2000000) [go_sem, -decide_eq_true_eq, -decide_eq_false_iff_not]
       repeat' first | apply And.intro | refine hk _ ?_ | intro hg | (refine CallK.intro (dc_impl_DoneChart_ok p c gp.1 gp.2 gc v gv a h1 h2 ha hkd X hX) ?_; simp -dsimp (maxSteps := 2000000) [go_sem, -decide_eq_true_eq, -decide_eq_false_iff_not]) | omega | exact True.intro
       all_goals clear hk k
       refine AW.seq ?_
       refine rg [0,2,3,5,10,11,12,13,14,54] ?_
       intro k hk; simp -dsimp (maxSteps := 2000000) [go_sem, -decide_eq_true_eq, -decide_eq_false_iff_not]
       repeat' first | apply And.intro | refine hk _ ?_ | intro hg | (refine CallK.intro (dc_laws_eqChartResult (⟨0, ⟨X.status, X.now, X.vars, X.acts, X.dues⟩⟩ : TChartResult) (⟨0, ⟨X.status, X.now, X.vars, X.acts, X.dues⟩⟩ : TChartResult) (by simp [TChartResult.gok, TChart.gok] <;> omega)) ?_; simp -dsimp (maxSteps := 2000000) [go_sem, -decide_eq_true_eq, -decide_eq_false_iff_not]) | omega | exact True.intro
       all_goals clear hk k
       refine AW.cond rfl ?_ ?_
       ·intro hc; try simp [subz_neg, subz_nn] at hc
        all_goals try (exfalso; omega; done)
        all_goals (
         refine rgA [8] ?_
         refine rt ?_
         simp [go_sem, Tryz.results4])
       ·intro hc; try simp [subz_neg, subz_nn] at hc
        all_goals try (exfalso; omega; done)
        all_goals (
         refine AW.skipN (fun _ h => h) ?_
         refine AW.seq ?_
         refine rg [0,2,3,5,10,11,12,13,14,59] ?_
         intro k hk; simp -dsimp (maxSteps := 2000000) [go_sem, -decide_eq_true_eq, -decide_eq_false_iff_not]
         repeat' first | apply And.intro | refine hk _ ?_ | intro hg | ((first | refine CallK.intro (dc_laws_toStepS p bp) ?_ | refine CallK.intro (dc_laws_eqStepS p p gp) ?_); simp -dsimp (maxSteps := 2000000) [go_sem, -decide_eq_true_eq, -decide_eq_false_iff_not]) | omega | exact True.intro
         all_goals clear hk k
         refine AW.cond rfl ?_ ?_
         ·intro hc; try simp [subz_neg, subz_nn] at hc
          all_goals try (exfalso; omega; done)
          all_goals (
           refine rgA [8] ?_
           refine rt ?_
           simp [go_sem, Tryz.results4])
         ·intro hc; try simp [subz_neg, subz_nn] at hc
          all_goals try (exfalso; omega; done)
          all_goals (
           refine AW.skipN (fun _ h => h) ?_
           refine AW.seq ?_
           refine rg [0,2,3,5,10,11,12,13,14,64] ?_
           intro k hk; simp -dsimp (maxSteps := 2000000) [go_sem, -decide_eq_true_eq, -decide_eq_false_iff_not]
           repeat' first | (refine Chk.keys ?_; simp only [go_sem, List.map_cons, List.map_nil, List.flatMap_cons, List.flatMap_nil, List.flatMap_append, List.append_nil, List.nil_append, List.cons_append]; decide +kernel) | apply And.intro | refine hk _ ?_ | intro hg | ((first | refine CallK.intro (dc_laws_toChart c bc) ?_ | refine CallK.intro (dc_laws_eqChart c c gc) ?_); simp -dsimp (maxSteps := 2000000) [go_sem, -decide_eq_true_eq, -decide_eq_false_iff_not]) | omega | exact True.intro
           all_goals clear hk k
           refine AW.cond rfl ?_ ?_
           ·intro hc; try simp [subz_neg, subz_nn] at hc
            all_goals try (exfalso; omega; done)
            all_goals (
             refine rgA [8] ?_
             refine rt ?_
             simp [go_sem, Tryz.results4])
           ·intro hc; try simp [subz_neg, subz_nn] at hc
            all_goals try (exfalso; omega; done)
            all_goals (
             refine AW.skipN (fun _ h => h) ?_
             refine AW.seq ?_
             refine rg [0,2,3,5,10,11,12,13,14,69] ?_
             intro k hk; simp -dsimp (maxSteps := 2000000) [go_sem, -decide_eq_true_eq, -decide_eq_false_iff_not]
             repeat' first | apply And.intro | refine hk _ ?_ | intro hg | ((first | refine CallK.intro (dc_laws_toInt64S v bv) ?_ | refine CallK.intro (dc_laws_eqInt64S v v gv) ?_); simp -dsimp (maxSteps := 2000000) [go_sem, -decide_eq_true_eq, -decide_eq_false_iff_not]) | omega | exact True.intro
             all_goals clear hk k
             refine AW.cond rfl ?_ ?_
             ·intro hc; try simp [subz_neg, subz_nn] at hc
              all_goals try (exfalso; omega; done)
              all_goals (
               refine rgA [8] ?_
               refine rt ?_
               simp [go_sem, Tryz.results4])
             ·intro hc; try simp [subz_neg, subz_nn] at hc
              all_goals try (exfalso; omega; done)
              all_goals (
               refine AW.skipN (fun _ h => h) ?_
               refine rgA [0,2,3,5,10,11,12,13,14,15] ?_
               refine AW.reg tiOk (fun i => if i = 2 then [0] else []) [0,2,3,5,10,12,13,14,15] ?_
               intro k hk; simp -dsimp (maxSteps := 2000000) [go_sem, -decide_eq_true_eq, -decide_eq_false_iff_not]
               repeat' first | apply And.intro | refine hk _ ?_ | intro hg | (refine CallK.intro (dc_laws_markStepS p 1 (by constructor <;> omega)) ?_; simp -dsimp (maxSteps := 2000000) [go_sem, -decide_eq_true_eq, -decide_eq_false_iff_not]) | omega | exact True.intro
               all_goals clear hk k
               refine AW.reg tiOk (fun _ => [0]) [0,2,3,5,10,13,14,15] ?_
               intro k hk; simp -dsimp (maxSteps := 2000000) [go_sem, -decide_eq_true_eq, -decide_eq_false_iff_not]
               repeat' first | apply And.intro | refine hk _ ?_ | intro hg | (refine CallK.intro (dc_laws_markChart_ooo c.status c.now c.vars c.acts c.dues (1 + (mkS p : Int)) (by constructor <;> omega)) ?_; simp -dsimp (maxSteps := 2000000) [go_sem, -decide_eq_true_eq, -decide_eq_false_iff_not]) | omega | exact True.intro
               all_goals clear hk k
               refine AW.reg tiOk (fun _ => [0]) [0,2,3,5,10,14,15] ?_
               intro k hk; simp -dsimp (maxSteps := 2000000) [go_sem, -decide_eq_true_eq, -decide_eq_false_iff_not]
               repeat' first | apply And.intro | refine hk _ ?_ | intro hg | (refine CallK.intro (dc_laws_markInt64S v ((1 + (mkS p : Int)) + c.vars.length + c.acts.length + c.dues.length) (by constructor <;> omega)) ?_; simp -dsimp (maxSteps := 2000000) [go_sem, -decide_eq_true_eq, -decide_eq_false_iff_not]) | omega | exact True.intro
               all_goals clear hk k
               refine AW.seq ?_
               refine rg [0,2,3,5,10,14,86] ?_
               intro k hk; simp +contextual -dsimp (maxSteps := 2000000) [go_sem, -decide_eq_true_eq, -decide_eq_false_iff_not]
               repeat' first | apply And.intro | refine hk _ ?_ | (intro hg; try simp only [decide_eq_true_eq, decide_eq_false_iff_not] at hg) | (refine CallK.intro (dc_laws_eqChartResult (⟨0, ⟨X.status, X.now, X.vars, X.acts, X.dues⟩⟩ : TChartResult) (⟨0, ⟨X.status, X.now, X.vars, X.acts, X.dues⟩⟩ : TChartResult) (by simp [TChartResult.gok, TChart.gok] <;> omega)) ?_; simp +contextual -dsimp (maxSteps := 2000000) [go_sem, -decide_eq_true_eq, -decide_eq_false_iff_not]) | omega | exact True.intro
               all_goals clear hk k
               all_goals (
                refine AW.cond rfl ?_ ?_
                ·intro hc; try simp [subz_neg, subz_nn] at hc
                 all_goals try (exfalso; omega; done)
                 all_goals (
                  refine rgA [8] ?_
                  refine rt ?_
                  simp [go_sem, Tryz.results4])
                ·intro hc; try simp [subz_neg, subz_nn] at hc
                 all_goals try (exfalso; omega; done)
                 all_goals (
                  refine AW.skipN (fun _ h => h) ?_
                  refine rgA [0,2,3,5,10,14,16] ?_
                  refine AW.reg tiOk (fun _ => [0]) [0,2,3,5,10,14,16] ?_
                  intro k hk; simp -dsimp (maxSteps := 2000000) [go_sem, -decide_eq_true_eq, -decide_eq_false_iff_not]
                  repeat' first | apply And.intro | refine hk _ ?_ | intro hg | (refine CallK.intro (dc_laws_markChartResult_ooo (0) (X.status) (X.now) (X.vars) (X.acts) (X.dues) 1 (by constructor <;> omega)) ?_; simp -dsimp (maxSteps := 2000000) [go_sem, -decide_eq_true_eq, -decide_eq_false_iff_not]) | omega | exact True.intro
                  all_goals clear hk k
                  refine rgA [0,2,3,5,10,14,16,17] ?_
                  refine rg [0,2,3,5,10,14,16,17] ?_
                  intro k hk; simp -dsimp (maxSteps := 2000000) [go_sem, -decide_eq_true_eq, -decide_eq_false_iff_not]
                  repeat' first | apply And.intro | refine hk _ ?_ | intro hg | (refine CallK.intro (dc_laws_heldChartResult_ooo (0) (X.status) (X.now) (X.vars).length (X.acts).length (X.dues).length 1 (by constructor <;> omega)) ?_; simp -dsimp (maxSteps := 2000000) [go_sem, -decide_eq_true_eq, -decide_eq_false_iff_not]) | omega | exact True.intro
                  all_goals clear hk k
                  refine AW.seq ?_
                  refine rgA [0,2,3,5,10,14,16,17,94] ?_
                  refine AW.cond rfl ?_ ?_
                  ·intro hc; try simp [subz_neg, subz_nn] at hc
                   all_goals try (exfalso; omega; done)
                   all_goals (
                    refine rgA [8] ?_
                    refine rt ?_
                    simp [go_sem, Tryz.results4])
                  ·intro hc; try simp [subz_neg, subz_nn] at hc
                   all_goals try (exfalso; omega; done)
                   all_goals (
                    refine AW.skipN (fun _ h => h) ?_
                    refine AW.seq ?_
                    refine rgA [0,2,3,5,10,14,16,97] ?_
                    refine AW.cond rfl ?_ ?_
                    ·intro hc; try simp [subz_neg, subz_nn] at hc
                     all_goals try (exfalso; omega; done)
                     all_goals (
                      refine rgA [8] ?_
                      refine rt ?_
                      simp [go_sem, Tryz.results4])
                    ·intro hc; try simp [subz_neg, subz_nn] at hc
                     all_goals try (exfalso; omega; done)
                     all_goals (
                      refine AW.skipN (fun _ h => h) ?_
                      refine rg [10,14,16,18] ?_
                      intro k hk; simp -dsimp (maxSteps := 2000000) [go_sem, -decide_eq_true_eq, -decide_eq_false_iff_not]
                      repeat' first | (refine Chk.keys ?_; simp only [go_sem, List.map_cons, List.map_nil, List.flatMap_cons, List.flatMap_nil, List.flatMap_append, List.append_nil, List.nil_append, List.cons_append]; decide +kernel) | apply And.intro | refine hk _ ?_ | intro hg | ((first | refine CallK.intro (dc_laws_toStepS p bp) ?_ | refine CallK.intro (dc_laws_toChart c bc) ?_ | refine CallK.intro (dc_laws_toInt64S v bv) ?_ | refine CallK.intro (dc_impl_DoneChart_ok p c gp.1 gp.2 gc v gv a h1 h2 ha hkd X hX) ?_); simp -dsimp (maxSteps := 2000000) [go_sem, -decide_eq_true_eq, -decide_eq_false_iff_not]) | omega | exact True.intro
                      all_goals clear hk k
                      refine AW.seq ?_
                      refine rg [14,16,109] ?_
                      intro k hk; simp -dsimp (maxSteps := 2000000) [go_sem, -decide_eq_true_eq, -decide_eq_false_iff_not]
                      repeat' first | apply And.intro | refine hk _ ?_ | intro hg | (refine CallK.intro (dc_laws_eqChartResult (⟨0, ⟨X.status, X.now, X.vars, X.acts, X.dues⟩⟩ : TChartResult) (⟨0, ⟨X.status, X.now, X.vars, X.acts, X.dues⟩⟩ : TChartResult) (by simp [TChartResult.gok, TChart.gok] <;> omega)) ?_; simp -dsimp (maxSteps := 2000000) [go_sem, -decide_eq_true_eq, -decide_eq_false_iff_not]) | omega | exact True.intro
                      all_goals clear hk k
                      refine AW.cond rfl ?_ ?_
                      ·intro hc; try simp [subz_neg, subz_nn] at hc
                       all_goals try (exfalso; omega; done)
                       all_goals (
                        refine rgA [8] ?_
                        refine rt ?_
                        simp [go_sem, Tryz.results4])
                      ·intro hc; try simp [subz_neg, subz_nn] at hc
                       all_goals try (exfalso; omega; done)
                       all_goals (
                        refine AW.skipN (fun _ h => h) ?_
                        refine rgA [14,16,17] ?_
                        refine rg [16,17] ?_
                        intro k hk; simp -dsimp (maxSteps := 2000000) [go_sem, -decide_eq_true_eq, -decide_eq_false_iff_not]
                        repeat' first | apply And.intro | refine hk _ ?_ | intro hg | (refine CallK.intro (dc_laws_heldChartResult_ooo (0) (X.status) (X.now) (X.vars).length (X.acts).length (X.dues).length 1 (by constructor <;> omega)) ?_; simp -dsimp (maxSteps := 2000000) [go_sem, -decide_eq_true_eq, -decide_eq_false_iff_not]) | omega | exact True.intro
                        all_goals clear hk k
                        refine AW.seq ?_
                        refine rgA [16,17,114] ?_
                        refine AW.cond rfl ?_ ?_
                        ·intro hc; try simp [subz_neg, subz_nn] at hc
                         all_goals try (exfalso; omega; done)
                         all_goals (
                          refine rgA [8] ?_
                          refine rt ?_
                          simp [go_sem, Tryz.results4])
                        ·intro hc; try simp [subz_neg, subz_nn] at hc
                         all_goals try (exfalso; omega; done)
                         all_goals (
                          refine AW.skipN (fun _ h => h) ?_
                          refine AW.seq ?_
                          refine rgA [117] ?_
                          refine AW.cond rfl ?_ ?_
                          ·intro hc; try simp [subz_neg, subz_nn] at hc
                           all_goals try (exfalso; omega; done)
                           all_goals (
                            refine rgA [8] ?_
                            refine rt ?_
                            simp [go_sem, Tryz.results4])
                          ·intro hc; try simp [subz_neg, subz_nn] at hc
                           all_goals try (exfalso; omega; done)
                           all_goals (
                            refine AW.skipN (fun _ h => h) ?_
                            refine rgA [8] ?_
                            refine rt ?_
                            simp [go_sem, Tryz.results4]))))))))))))))
theorem dc_laws_FnExactDoneChart (p : List TStep) (gp : p.length ≤ 9223372036854775807 ∧ ∀ e ∈ p, e.gok) (c : TChart) (gc : c.gok) (st : Int) (gm : -9223372036854775808 ≤ st ∧ st ≤ 9223372036854775807) (v : List Int) (gv : v.length ≤ 9223372036854775807) : DC Tryz.prog 4 [.isl 6 (p.map TStep.ro), .agg c.ro, .int .i64 st, .isl 1 (v.map I1)] (.bool true) [] := by
  by_cases h1 : chartF p c = 0
  · by_cases h2 : varsF v = 0
    · by_cases hr : inR st 0 ((p.length : Int) - 1) = true
      · have h0 := chart1_of h1
        have hP := procOk (chart1_ok h0).1
        have hr2 := inR_iff.1 hr
        obtain ⟨a, rfl⟩ : ∃ a : Nat, st = a := ⟨_, (Int.toNat_of_nonneg hr2.1).symm⟩
        cases hk : (decide ((nS p a).kind = 2) && decide (actA c a = 1)) with
        | false => exact dc_laws_FnExactDoneChart_bad p gp c gc a gm v gv _ (dc_spec_DoneChart_n2 p c gp.1 gp.2 gc v gv a h1 h2 (by omega) hk) (dc_impl_DoneChart_n2 p c gp.1 gp.2 gc v gv a h1 h2 (by omega) hk)
        | true => exact dc_laws_FnExactDoneChart_ok p gp c gc a gm v gv a rfl h1 h2 (by omega) hk _ rfl (hP.wf (wf_vars (wfC_of h0) h2))
      · have h3 : inR st 0 ((p.length : Int) - 1) = false := by simpa using hr
        exact dc_laws_FnExactDoneChart_bad p gp c gc st gm v gv _ (dc_spec_DoneChart_n1 p c gp.1 gp.2 gc v gv st h1 h2 h3) (dc_impl_DoneChart_n1 p c gp.1 gp.2 gc v gv st h1 h2 h3)
    · exact dc_laws_FnExactDoneChart_bad p gp c gc st gm v gv _ (dc_spec_DoneChart_bad2 p c gp.1 gp.2 gc v gv st h1 h2) (dc_impl_DoneChart_bad2 p c gp.1 gp.2 gc v gv st h1 h2)
  · exact dc_laws_FnExactDoneChart_bad p gp c gc st gm v gv _ (dc_spec_DoneChart_bad1 p c gp.1 gp.2 gc v gv st h1) (dc_impl_DoneChart_bad1 p c gp.1 gp.2 gc v gv st h1)
end Go.AM
