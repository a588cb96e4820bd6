/- Joined texts: Z9 Y7 Y9 Z5 Y5 Za Z2 Z3 Y4 Zb Zc Pc8 Zo F3 F4 F6. -/
import Derived.Test.YtepgnenjbjdccaaB1
import Derived.Test.YtepgnenjbjdccaaB2
import Derived.Test.YtepgnenjbjdccaaB3
import Derived.Test.YtepgnenjbjdccaaB4
set_option linter.unusedVariables false
set_option linter.unusedSimpArgs false
set_option maxHeartbeats 600000
set_option maxRecDepth 100000
namespace Go.AM
open Go.Proofs
set_option maxHeartbeats 8000000 in
theorem dc_impl_board_over (p : List TStep) (hP : ProcOk p) (f : Nat) (hE : ∀ (k : Int) (c : TChart), 0 ≤ k → k.toNat < p.length → WfC p c → mE (pars p) k.toNat ≤ f → DC Try.prog 30 [.op (brow p c), .int .i64 k] (.tup []) [(0, .op (brow p (goF p f true k.toNat c)))]) (hO : ∀ (k : Int) (c : TChart), 0 ≤ k → k.toNat < p.length → WfC p c → mO (pars p) k.toNat ≤ f → DC Try.prog 58 [.op (brow p c), .int .i64 k] (.tup []) [(0, .op (brow p (goF p f false k.toNat c)))]) (a : Nat) (ha : a < p.length) (c : TChart) (hw : WfC p c) (hm : mO (pars p) a ≤ f + 1) : DC Try.prog 58 [.op (brow p c), .int .i64 (a : Nat)] (.tup []) [(0, .op (brow p (goF p (f + 1) false a c)))] := by
 have hp := hP.len.2
 have hpl := pars_len p
 obtain ⟨x, hx⟩ := at_some ha
 have hxn := nS_at hx
 have hx3 : ∀ h, p[a]'h = x := fun h => by have h9 := hx; rw [List.getElem?_eq_getElem h] at h9; exact Option.some.inj h9
 have hwi := hw.idle a
 have hac := hwi.acts
 have hdc := hwi.dues
 refine DC.introG tiOk Try.func58 rfl rfl rfl rfl rfl rfl rfl (by simp [noW, noWo]) [] ?_
 refine rg [0,1,2] ?_
 intro k hk; simp -dsimp [go_sem, -decide_eq_true_eq, -decide_eq_false_iff_not, -List.map_set, set_I1, set_I1b, hac, hdc, hx, hx3]
 repeat' first | apply And.intro | refine hk _ ?_ | intro hg | omega | exact True.intro
 all_goals clear hk k
 refine AW.reg tiOk (fun _ => [0]) [0,1,2] ?_
 intro k hk; simp -dsimp (maxSteps := 2000000) [go_sem, -decide_eq_true_eq, -decide_eq_false_iff_not, -List.map_set, set_I1, set_I1b, hac, hdc, hx, hx3]
 repeat' first | apply And.intro | refine hk _ ?_ | intro hg | (refine CallK.intro (dc_impl_board_idle p hp hP.pre a ha c hw) ?_; simp -dsimp (maxSteps := 2000000) [go_sem, -decide_eq_true_eq, -decide_eq_false_iff_not, -List.map_set, set_I1, set_I1b, hac, hdc, hx, hx3]) | omega | exact True.intro
 all_goals clear hk k
 refine AW.seq ?_
 refine rg [0,1,2,11] ?_
 intro k hk; simp -dsimp [go_sem, -decide_eq_true_eq, -decide_eq_false_iff_not, -List.map_set, set_I1, set_I1b, hac, hdc, hx, hx3]
 repeat' first | apply And.intro | refine hk _ ?_ | intro hg | omega | exact True.intro
 all_goals clear hk k
 refine AW.cond rfl ?_ ?_
 ·intro hc; try simp [-List.length_eq_zero_iff] at hc
  all_goals try (exfalso; first | omega | contradiction; done)
  all_goals (
   refine AW.reg tiOk (fun _ => [0]) [0] ?_
   intro k hk; simp -dsimp (maxSteps := 2000000) [go_sem, -decide_eq_true_eq, -decide_eq_false_iff_not, -List.map_set, set_I1, set_I1b, hac, hdc, hx, hx3]
   repeat' first | apply And.intro | refine hk _ ?_ | intro hg | (refine CallK.intro (dc_impl_board_stop p hp (idleF p a c) 2) ?_; simp -dsimp (maxSteps := 2000000) [go_sem, -decide_eq_true_eq, -decide_eq_false_iff_not, -List.map_set, set_I1, set_I1b, hac, hdc, hx, hx3]) | omega | exact True.intro
   all_goals clear hk k
   refine AW.ret ⟨.inr rfl, ?_⟩
   refine Gh.done ?_
   first | (obtain rfl : a = 0 := (by omega); rw [ov_top]; simp [go_sem, Try.results58]; done) | (rw [ov_next h0 (by rw [hnq]; exact hk1) (by rw [hsb]; exact hub.1), hsb]; simp [go_sem, Try.results58]; done) | (have hsl := kids_last hj (by omega); rw [ov_seq h0 (by rw [hnq]; exact hk1) (by rw [hsl]; omega), hxn, hq]; simp [go_sem, Try.results58]; done) | (have h9 := ov_and (p := p) (f := f) (c := c) h0 (by rw [hnq]; exact hk4); rw [hxn, hq, Int.toNat_natCast] at h9; rw [← any_not_all] at h9; first | (rw [if_neg (by simpa using hc)] at h9; rw [h9]; simp [go_sem, Try.results58, setA, -List.map_set, set_I1, set_I1b]; done) | (rw [if_pos (by simpa using hc)] at h9; rw [h9]; simp [go_sem, Try.results58]; done)) | (rw [ov_rest h0 (by rw [hnq]; exact n1) (by rw [hnq]; simpa using hc), hxn, hq]; simp [go_sem, Try.results58]; done))
 ·intro hc; try simp [-List.length_eq_zero_iff] at hc
  all_goals try (exfalso; first | omega | contradiction; done)
  all_goals (
   refine AW.skipN (fun _ h => h) ?_
   have h0 : a ≠ 0 := by first | omega | (intro e; simp [e] at hc)
   have hpr := hP.parI (by omega) ha
   rw [hxn] at hpr
   obtain ⟨q, hq⟩ : ∃ q : Nat, x.par = q := ⟨_, (Int.toNat_of_nonneg hpr.1).symm⟩
   obtain ⟨y, hy⟩ := at_some (l := p) (i := q) (by omega)
   have hyn := nS_at hy
   have hy3 : ∀ h, p[q]'h = y := fun h => by have h9 := hy; rw [List.getElem?_eq_getElem h] at h9; exact Option.some.inj h9
   have hpq : (pars p).getD a 0 = (q : Int) := by rw [pars_get ha, hxn, hq]
   have hmq := mO_up hP.pre (by omega) hpq
   have hnq : nS p (nS p a).par.toNat = y := by rw [hxn, hq, Int.toNat_natCast]; exact hyn
   have hkl := kids_len p (q : Int)
   obtain ⟨j, hj⟩ := kids_has (p := p) (a := (q : Int)) (by omega) ha hpq
   have hjl := at_lt hj
   refine rg [0,1,2,4] ?_
   intro k hk; simp -dsimp (maxSteps := 2000000) [go_sem, -decide_eq_true_eq, -decide_eq_false_iff_not, -List.map_set, set_I1, set_I1b, hac, hdc, hx, hx3, hq]
   repeat' first | apply And.intro | refine hk _ ?_ | intro hg | omega | exact True.intro
   all_goals clear hk k
   refine rg [0,1,2,4,5] ?_
   intro k hk; simp -dsimp (maxSteps := 2000000) [go_sem, -decide_eq_true_eq, -decide_eq_false_iff_not, -List.map_set, set_I1, set_I1b, hac, hdc, hx, hx3, hq]
   repeat' first | apply And.intro | refine hk _ ?_ | intro hg | (refine CallK.intro (dc_impl_kids p (q : Int) hp) ?_; simp -dsimp (maxSteps := 2000000) [go_sem, -decide_eq_true_eq, -decide_eq_false_iff_not, -List.map_set, set_I1, set_I1b, hac, hdc, hx, hx3, hq]) | omega | exact True.intro
   all_goals clear hk k
   refine AW.seq ?_
   refine rg [0,1,2,4,5,35] ?_
   intro k hk; simp -dsimp (maxSteps := 2000000) [go_sem, -decide_eq_true_eq, -decide_eq_false_iff_not, -List.map_set, set_I1, set_I1b, hac, hdc, hx, hx3, hy, hy3, hq]
   repeat' first | apply And.intro | refine hk _ ?_ | intro hg | omega | exact True.intro
   all_goals clear hk k
   refine AW.block ?_
   refine rg [0,1,2,4,5,35,36] ?_
   intro k hk; simp -dsimp [go_sem, -decide_eq_true_eq, -decide_eq_false_iff_not, -List.map_set, set_I1, set_I1b, hac, hdc, hx, hx3]
   repeat' first | apply And.intro | refine hk _ ?_ | intro hg | omega | exact True.intro
   all_goals clear hk k
   refine AW.cond rfl ?_ ?_
   ·intro hc; try simp [-List.length_eq_zero_iff] at hc
    all_goals try (exfalso; first | omega | contradiction; done)
    all_goals (
     have hk1 : y.kind = 1 := by simpa using hc
     have hwj : IntKind.wrap .i64 ((j : Int) + 1) = (j : Int) + 1 := wrap64 (by omega) (by omega)
     refine rg [0,2,4,5,6] ?_
     intro k hk; simp -dsimp (maxSteps := 2000000) [go_sem, -decide_eq_true_eq, -decide_eq_false_iff_not, -List.map_set, set_I1, set_I1b, hac, hdc, hx, hx3, hwj]
     repeat' first | apply And.intro | refine hk _ ?_ | intro hg | (refine CallK.intro (dc_IndexI (kids p (q : Int)) j (a : Int) (by omega) hj (fun k v hk hv => by have := kids_lt hk hv hj; omega)) ?_; simp -dsimp (maxSteps := 2000000) [go_sem, -decide_eq_true_eq, -decide_eq_false_iff_not, -List.map_set, set_I1, set_I1b, hac, hdc, hx, hx3, hwj]) | omega | exact True.intro
     all_goals clear hk k
     refine rg [0,2,4,5,6,45] ?_
     intro k hk; simp -dsimp [go_sem, -decide_eq_true_eq, -decide_eq_false_iff_not, -List.map_set, set_I1, set_I1b, hac, hdc, hx, hx3, hwj]
     repeat' first | apply And.intro | refine hk _ ?_ | intro hg | omega | exact True.intro
     all_goals clear hk k
     refine AW.cond rfl ?_ ?_
     ·intro hc; try simp [-List.length_eq_zero_iff] at hc
      all_goals try (exfalso; first | omega | contradiction; done)
      all_goals (
       obtain ⟨u, hu⟩ := at_some (l := (kids p (q : Int))) (i := j + 1) (by omega)
       have hub := kids_bd (List.mem_of_getElem? hu)
       have hsb := kids_next hj hu
       have hu3 : ∀ h, (kids p (q : Int))[j + 1]'h = u := fun h => by have h9 := hu; rw [List.getElem?_eq_getElem h] at h9; exact Option.some.inj h9
       have hj1 : ((j : Int) + 1).toNat = j + 1 := by omega
       refine AW.reg tiOk (fun _ => [0]) [0] ?_
       intro k hk; simp -dsimp (maxSteps := 2000000) [go_sem, -decide_eq_true_eq, -decide_eq_false_iff_not, -List.map_set, set_I1, set_I1b, hac, hdc, hx, hx3, hu, hu3, hj1]
       repeat' first | (refine Chk.keys ?_; simp only [go_sem, List.map_cons, List.map_nil, List.flatMap_cons, List.flatMap_nil, List.flatMap_append, List.append_nil, List.nil_append, List.cons_append]; decide +kernel) | apply And.intro | refine hk _ ?_ | intro hg | (refine CallK.intro (hE u (idleF p a c) hub.1 hub.2 hwi (by have h7 := mO_next (l := pars p) (a := a) (s := u.toNat) (by rw [hsb, Int.toNat_of_nonneg hub.1]); omega)) ?_; simp -dsimp (maxSteps := 2000000) [go_sem, -decide_eq_true_eq, -decide_eq_false_iff_not, -List.map_set, set_I1, set_I1b, hac, hdc, hx, hx3, hu, hu3, hj1]) | omega | exact True.intro
       all_goals clear hk k
       refine AW.ret ⟨.inr rfl, ?_⟩
       refine Gh.done ?_
       first | (obtain rfl : a = 0 := (by omega); rw [ov_top]; simp [go_sem, Try.results58]; done) | (rw [ov_next h0 (by rw [hnq]; exact hk1) (by rw [hsb]; exact hub.1), hsb]; simp [go_sem, Try.results58]; done) | (have hsl := kids_last hj (by omega); rw [ov_seq h0 (by rw [hnq]; exact hk1) (by rw [hsl]; omega), hxn, hq]; simp [go_sem, Try.results58]; done) | (have h9 := ov_and (p := p) (f := f) (c := c) h0 (by rw [hnq]; exact hk4); rw [hxn, hq, Int.toNat_natCast] at h9; rw [← any_not_all] at h9; first | (rw [if_neg (by simpa using hc)] at h9; rw [h9]; simp [go_sem, Try.results58, setA, -List.map_set, set_I1, set_I1b]; done) | (rw [if_pos (by simpa using hc)] at h9; rw [h9]; simp [go_sem, Try.results58]; done)) | (rw [ov_rest h0 (by rw [hnq]; exact n1) (by rw [hnq]; simpa using hc), hxn, hq]; simp [go_sem, Try.results58]; done))
     ·intro hc; try simp [-List.length_eq_zero_iff] at hc
      all_goals try (exfalso; first | omega | contradiction; done)
      all_goals (
       refine AW.skipN (fun _ h => h) ?_
       refine rgE (fun _ => [0]) ?_
       intro k hk; simp -dsimp (maxSteps := 2000000) [go_sem, -decide_eq_true_eq, -decide_eq_false_iff_not, -List.map_set, set_I1, set_I1b, hac, hdc, hx, hx3, hq]
       repeat' first | apply And.intro | refine hk _ ?_ | intro hg | ((first | refine CallK.intro (hO (q : Int) (idleF p a c) (by omega) (by omega) hwi (by rw [Int.toNat_natCast]; omega)) ?_ | refine CallK.intro (hO (q : Int) (setA (idleF p a c) (a : Int) 2) (by omega) (by omega) (hwi.setA _ _) (by rw [Int.toNat_natCast]; omega)) ?_); simp -dsimp (maxSteps := 2000000) [go_sem, -decide_eq_true_eq, -decide_eq_false_iff_not, -List.map_set, set_I1, set_I1b, hac, hdc, hx, hx3, hq]) | omega | exact True.intro
       all_goals clear hk k
       refine ⟨.intro, And.intro (.inl rfl) ?_⟩
       refine Gh.done ?_
       first | (obtain rfl : a = 0 := (by omega); rw [ov_top]; simp [go_sem, Try.results58]; done) | (rw [ov_next h0 (by rw [hnq]; exact hk1) (by rw [hsb]; exact hub.1), hsb]; simp [go_sem, Try.results58]; done) | (have hsl := kids_last hj (by omega); rw [ov_seq h0 (by rw [hnq]; exact hk1) (by rw [hsl]; omega), hxn, hq]; simp [go_sem, Try.results58]; done) | (have h9 := ov_and (p := p) (f := f) (c := c) h0 (by rw [hnq]; exact hk4); rw [hxn, hq, Int.toNat_natCast] at h9; rw [← any_not_all] at h9; first | (rw [if_neg (by simpa using hc)] at h9; rw [h9]; simp [go_sem, Try.results58, setA, -List.map_set, set_I1, set_I1b]; done) | (rw [if_pos (by simpa using hc)] at h9; rw [h9]; simp [go_sem, Try.results58]; done)) | (rw [ov_rest h0 (by rw [hnq]; exact n1) (by rw [hnq]; simpa using hc), hxn, hq]; simp [go_sem, Try.results58]; done)))
   ·intro hc; try simp [-List.length_eq_zero_iff] at hc
    all_goals try (exfalso; first | omega | contradiction; done)
    all_goals (
     have n1 : y.kind ≠ 1 := by simpa using hc
     refine rg [0,1,2,4,5,52] ?_
     intro k hk; simp -dsimp [go_sem, -decide_eq_true_eq, -decide_eq_false_iff_not, -List.map_set, set_I1, set_I1b, hac, hdc, hx, hx3]
     repeat' first | apply And.intro | refine hk _ ?_ | intro hg | omega | exact True.intro
     all_goals clear hk k
     refine AW.cond rfl ?_ ?_
     ·intro hc; try simp [-List.length_eq_zero_iff] at hc
      all_goals try (exfalso; first | omega | contradiction; done)
      all_goals (
       have hk4 : y.kind = 4 := by simpa using hc
       refine AW.thaw (nd := ?nd_1) (c := ?c_1) (l := ?l_1) (es := ?es_1) 1900 0 4 7001 ?h1_1 ?h2_1 ?h3_1 ?h45_1 ?kk_1
       (case h1_1 => exact rfl)
       (case h2_1 => exact rfl)
       (case h3_1 => exact rfl)
       (case h45_1 => simp [go_sem])
       refine rg [0,2,4,5] ?_
       intro k hk; simp -dsimp (maxSteps := 2000000) [go_sem, -decide_eq_true_eq, -decide_eq_false_iff_not, -List.map_set, set_I1, set_I1b, hac, hdc, hx, hx3]
       repeat' first | apply And.intro | refine hk _ ?_ | intro hg | omega | exact True.intro
       all_goals clear hk k
       refine AW.fold (nd := ?nd_2) (c := ?c_2) (l := ?l_2) (es := ?es_2) (n := ?n_2) 1900 0 4 7001 ?h1_2 ?h2_2 ?h4_2 ?h3_2 ?hn_2 (by decide) ?h6_2 ?kk_2
       (case h1_2 => exact rfl)
       (case h2_2 => exact rfl)
       (case h4_2 => exact rfl)
       (case h3_2 => exact rfl)
       (case hn_2 => simp [hac, hdc])
       (case h6_2 => simp [go_sem, hac, hdc])
       refine rg [0,2,4,63] ?_
       intro k hk; simp -dsimp (maxSteps := 2000000) [go_sem, -decide_eq_true_eq, -decide_eq_false_iff_not, -List.map_set, set_I1, set_I1b, hac, hdc, hx, hx3]
       repeat' first | apply And.intro | refine hk _ ?_ | intro hg | (refine CallK.intro (dc_slices_ContainsFunc_int64_int64_g 88 [.ip [.isl 6 (p.map TStep.ro), .int .i64 (setA (idleF p a c) (a : Int) 2).status, .int .i64 (setA (idleF p a c) (a : Int) 2).now, .isl 1 ((setA (idleF p a c) (a : Int) 2).vars.map I1), .isl 1 ((setA (idleF p a c) (a : Int) 2).acts.map I1), .isl 1 ((setA (idleF p a c) (a : Int) 2).dues.map I1)]] (fun k => decide (actA (setA (idleF p a c) (a : Int) 2) k ≠ 2)) (kids p (q : Int)) (fun k hk => dc_impl_board_over_1 p (setA (idleF p a c) (a : Int) 2) k (kids_bd hk).1 (by have h7 := (kids_bd hk).2; rw [(hwi.setA (a : Int) 2).acts]; exact h7)) (by omega)) ?_; simp -dsimp (maxSteps := 2000000) [go_sem, -decide_eq_true_eq, -decide_eq_false_iff_not, -List.map_set, set_I1, set_I1b, hac, hdc, hx, hx3]) | omega | exact True.intro
       all_goals clear hk k
       refine AW.cond rfl ?_ ?_
       ·intro hc; try simp [-List.length_eq_zero_iff] at hc
        all_goals try (exfalso; first | omega | contradiction; done)
        all_goals (
         refine AW.ret ⟨.inr rfl, ?_⟩
         refine Gh.done ?_
         first | (obtain rfl : a = 0 := (by omega); rw [ov_top]; simp [go_sem, Try.results58]; done) | (rw [ov_next h0 (by rw [hnq]; exact hk1) (by rw [hsb]; exact hub.1), hsb]; simp [go_sem, Try.results58]; done) | (have hsl := kids_last hj (by omega); rw [ov_seq h0 (by rw [hnq]; exact hk1) (by rw [hsl]; omega), hxn, hq]; simp [go_sem, Try.results58]; done) | (have h9 := ov_and (p := p) (f := f) (c := c) h0 (by rw [hnq]; exact hk4); rw [hxn, hq, Int.toNat_natCast] at h9; rw [← any_not_all] at h9; first | (rw [if_neg (by simpa using hc)] at h9; rw [h9]; simp [go_sem, Try.results58, setA, -List.map_set, set_I1, set_I1b]; done) | (rw [if_pos (by simpa using hc)] at h9; rw [h9]; simp [go_sem, Try.results58]; done)) | (rw [ov_rest h0 (by rw [hnq]; exact n1) (by rw [hnq]; simpa using hc), hxn, hq]; simp [go_sem, Try.results58]; done))
       ·intro hc; try simp [-List.length_eq_zero_iff] at hc
        all_goals try (exfalso; first | omega | contradiction; done)
        all_goals (
         refine AW.skipN (fun _ h => h) ?_
         refine rgE (fun _ => [0]) ?_
         intro k hk; simp -dsimp (maxSteps := 2000000) [go_sem, -decide_eq_true_eq, -decide_eq_false_iff_not, -List.map_set, set_I1, set_I1b, hac, hdc, hx, hx3, hq]
         repeat' first | apply And.intro | refine hk _ ?_ | intro hg | ((first | refine CallK.intro (hO (q : Int) (idleF p a c) (by omega) (by omega) hwi (by rw [Int.toNat_natCast]; omega)) ?_ | refine CallK.intro (hO (q : Int) (setA (idleF p a c) (a : Int) 2) (by omega) (by omega) (hwi.setA _ _) (by rw [Int.toNat_natCast]; omega)) ?_); simp -dsimp (maxSteps := 2000000) [go_sem, -decide_eq_true_eq, -decide_eq_false_iff_not, -List.map_set, set_I1, set_I1b, hac, hdc, hx, hx3, hq]) | omega | exact True.intro
         all_goals clear hk k
         refine ⟨.intro, And.intro (.inl rfl) ?_⟩
         refine Gh.done ?_
         first | (obtain rfl : a = 0 := (by omega); rw [ov_top]; simp [go_sem, Try.results58]; done) | (rw [ov_next h0 (by rw [hnq]; exact hk1) (by rw [hsb]; exact hub.1), hsb]; simp [go_sem, Try.results58]; done) | (have hsl := kids_last hj (by omega); rw [ov_seq h0 (by rw [hnq]; exact hk1) (by rw [hsl]; omega), hxn, hq]; simp [go_sem, Try.results58]; done) | (have h9 := ov_and (p := p) (f := f) (c := c) h0 (by rw [hnq]; exact hk4); rw [hxn, hq, Int.toNat_natCast] at h9; rw [← any_not_all] at h9; first | (rw [if_neg (by simpa using hc)] at h9; rw [h9]; simp [go_sem, Try.results58, setA, -List.map_set, set_I1, set_I1b]; done) | (rw [if_pos (by simpa using hc)] at h9; rw [h9]; simp [go_sem, Try.results58]; done)) | (rw [ov_rest h0 (by rw [hnq]; exact n1) (by rw [hnq]; simpa using hc), hxn, hq]; simp [go_sem, Try.results58]; done)))
     ·intro hc; try simp [-List.length_eq_zero_iff] at hc
      all_goals try (exfalso; first | omega | contradiction; done)
      all_goals (
       refine AW.skipN (fun _ h => h) ?_
       refine rgE (fun _ => [0]) ?_
       intro k hk; simp -dsimp (maxSteps := 2000000) [go_sem, -decide_eq_true_eq, -decide_eq_false_iff_not, -List.map_set, set_I1, set_I1b, hac, hdc, hx, hx3, hq]
       repeat' first | apply And.intro | refine hk _ ?_ | intro hg | ((first | refine CallK.intro (hO (q : Int) (idleF p a c) (by omega) (by omega) hwi (by rw [Int.toNat_natCast]; omega)) ?_ | refine CallK.intro (hO (q : Int) (setA (idleF p a c) (a : Int) 2) (by omega) (by omega) (hwi.setA _ _) (by rw [Int.toNat_natCast]; omega)) ?_); simp -dsimp (maxSteps := 2000000) [go_sem, -decide_eq_true_eq, -decide_eq_false_iff_not, -List.map_set, set_I1, set_I1b, hac, hdc, hx, hx3, hq]) | omega | exact True.intro
       all_goals clear hk k
       refine ⟨.intro, And.intro (.inl rfl) ?_⟩
       refine Gh.done ?_
       first | (obtain rfl : a = 0 := (by omega); rw [ov_top]; simp [go_sem, Try.results58]; done) | (rw [ov_next h0 (by rw [hnq]; exact hk1) (by rw [hsb]; exact hub.1), hsb]; simp [go_sem, Try.results58]; done) | (have hsl := kids_last hj (by omega); rw [ov_seq h0 (by rw [hnq]; exact hk1) (by rw [hsl]; omega), hxn, hq]; simp [go_sem, Try.results58]; done) | (have h9 := ov_and (p := p) (f := f) (c := c) h0 (by rw [hnq]; exact hk4); rw [hxn, hq, Int.toNat_natCast] at h9; rw [← any_not_all] at h9; first | (rw [if_neg (by simpa using hc)] at h9; rw [h9]; simp [go_sem, Try.results58, setA, -List.map_set, set_I1, set_I1b]; done) | (rw [if_pos (by simpa using hc)] at h9; rw [h9]; simp [go_sem, Try.results58]; done)) | (rw [ov_rest h0 (by rw [hnq]; exact n1) (by rw [hnq]; simpa using hc), hxn, hq]; simp [go_sem, Try.results58]; done))))
end Go.AM
namespace Go.AM
open Go.Proofs
theorem dc_spec_l3Bool (b : Bool) : DC Try.prog 93 [.bool b] (.int .i64 (if b then 1 else 0)) [] := by
 refine DC.intro tiOk Try.func93 rfl rfl rfl rfl rfl rfl rfl rfl [] ?_
 refine rgA [0] ?_
 refine AW.seq ?_
 refine rgA [3] ?_
 refine AW.cond rfl ?_ ?_
 ·intro hc; try simp at hc
  all_goals (
   refine rgA [2] ?_
   refine rt ?_
   cases b <;> simp_all [go_sem, Try.results93])
 ·intro hc; try simp at hc
  all_goals (
   refine AW.skipN (fun _ h => h) ?_
   refine rgA [2] ?_
   refine rt ?_
   cases b <;> simp_all [go_sem, Try.results93])
theorem dc_spec_l3One (k a b : Int) (hk : 3 ≤ k ∧ k ≤ 10) (ha : small a = true) (hb : small b = true) : DC Try.prog 70 [.int .i64 k, .int .i64 a, .int .i64 b] (.tup [.int .i64 (if k = 6 ∧ b = 0 then 0 else (if k = 10 then 1 - a else reckV k a b)), .bool (!(decide (k = 6) && decide (b = 0)) && (decide (k = 6 ∧ b = 0) || small (if k = 10 then 1 - a else reckV k a b)))]) [] := by
 have a1 := small_iff.1 ha
 have b1 := small_iff.1 hb
 have m1 := small_mul ha hb
 have d1 := small_div (b := b) ha
 have hwa : IntKind.wrap .i64 (a + b) = a + b := wrap64 (by omega) (by omega)
 have hws : IntKind.wrap .i64 (a - b) = a - b := wrap64 (by omega) (by omega)
 have hwm : IntKind.wrap .i64 (a * b) = a * b := wrap64 (by omega) (by omega)
 have hwd : IntKind.wrap .i64 (a.tdiv b) = a.tdiv b := wrap64 (by omega) (by omega)
 have hwn : IntKind.wrap .i64 (1 - a) = 1 - a := wrap64 (by omega) (by omega)
 refine DC.intro tiOk Try.func70 rfl rfl rfl rfl rfl rfl rfl rfl [] ?_
 refine rg [0,1,2] ?_
 intro k hk; simp -dsimp [go_sem, -decide_eq_true_eq, -decide_eq_false_iff_not, hwa, hws, hwm, hwd, hwn]
 repeat' first | apply And.intro | refine hk _ ?_ | intro hg | omega | exact True.intro
 all_goals clear hk k
 refine rg [0,1,2] ?_
 intro k hk; simp -dsimp [go_sem, -decide_eq_true_eq, -decide_eq_false_iff_not, hwa, hws, hwm, hwd, hwn]
 repeat' first | apply And.intro | refine hk _ ?_ | intro hg | omega | exact True.intro
 all_goals clear hk k
 refine AW.seq ?_
 refine rg [1,2,9] ?_
 intro k hk; simp -dsimp [go_sem, -decide_eq_true_eq, -decide_eq_false_iff_not, hwa, hws, hwm, hwd, hwn]
 repeat' first | apply And.intro | refine hk _ ?_ | intro hg | omega | exact True.intro
 all_goals clear hk k
 refine AW.block ?_
 refine rg [1,2,9,12] ?_
 intro k hk; simp -dsimp [go_sem, -decide_eq_true_eq, -decide_eq_false_iff_not, hwa, hws, hwm, hwd, hwn]
 repeat' first | apply And.intro | refine hk _ ?_ | intro hg | omega | exact True.intro
 all_goals clear hk k
 refine AW.cond rfl ?_ ?_
 ·intro hc; try simp at hc
  all_goals try (exfalso; omega; done)
  all_goals (
   refine rgN [8] (fun _ h => h) ?_
   intro k hk; simp -dsimp [go_sem, -decide_eq_true_eq, -decide_eq_false_iff_not, hwa, hws, hwm, hwd, hwn]
   repeat' first | apply And.intro | refine hk _ ?_ | intro hg | omega | exact True.intro
   all_goals clear hk k
   refine rg [6,7] ?_
   intro k hk; simp -dsimp (maxSteps := 2000000) [go_sem, -decide_eq_true_eq, -decide_eq_false_iff_not, hwa, hws, hwm, hwd, hwn]
   repeat' first | apply And.intro | refine hk _ ?_ | intro hg | (refine CallK.intro (dc_spec_l1In _ _ _) ?_; simp -dsimp (maxSteps := 2000000) [go_sem, -decide_eq_true_eq, -decide_eq_false_iff_not, hwa, hws, hwm, hwd, hwn]) | omega | exact True.intro
   all_goals clear hk k
   refine rt ?_
   first | (have hk10 : k = 10 := (by omega); subst hk10; simp [go_sem, Try.results70, reckV, small, inR, hwn]; done) | (simp [go_sem, Try.results70, reckV, small, inR, *]; done) | (simp [go_sem, Try.results70, reckV, small, inR, *] <;> omega))
 ·intro hc; try simp at hc
  all_goals try (exfalso; omega; done)
  all_goals (
   refine rg [1,2,9,17] ?_
   intro k hk; simp -dsimp [go_sem, -decide_eq_true_eq, -decide_eq_false_iff_not, hwa, hws, hwm, hwd, hwn]
   repeat' first | apply And.intro | refine hk _ ?_ | intro hg | omega | exact True.intro
   all_goals clear hk k
   refine AW.cond rfl ?_ ?_
   ·intro hc; try simp at hc
    all_goals try (exfalso; omega; done)
    all_goals (
     refine rgN [8] (fun _ h => h) ?_
     intro k hk; simp -dsimp [go_sem, -decide_eq_true_eq, -decide_eq_false_iff_not, hwa, hws, hwm, hwd, hwn]
     repeat' first | apply And.intro | refine hk _ ?_ | intro hg | omega | exact True.intro
     all_goals clear hk k
     refine rg [6,7] ?_
     intro k hk; simp -dsimp (maxSteps := 2000000) [go_sem, -decide_eq_true_eq, -decide_eq_false_iff_not, hwa, hws, hwm, hwd, hwn]
     repeat' first | apply And.intro | refine hk _ ?_ | intro hg | (refine CallK.intro (dc_spec_l1In _ _ _) ?_; simp -dsimp (maxSteps := 2000000) [go_sem, -decide_eq_true_eq, -decide_eq_false_iff_not, hwa, hws, hwm, hwd, hwn]) | omega | exact True.intro
     all_goals clear hk k
     refine rt ?_
     first | (have hk10 : k = 10 := (by omega); subst hk10; simp [go_sem, Try.results70, reckV, small, inR, hwn]; done) | (simp [go_sem, Try.results70, reckV, small, inR, *]; done) | (simp [go_sem, Try.results70, reckV, small, inR, *] <;> omega))
   ·intro hc; try simp at hc
    all_goals try (exfalso; omega; done)
    all_goals (
     refine rg [1,2,9,22] ?_
     intro k hk; simp -dsimp [go_sem, -decide_eq_true_eq, -decide_eq_false_iff_not, hwa, hws, hwm, hwd, hwn]
     repeat' first | apply And.intro | refine hk _ ?_ | intro hg | omega | exact True.intro
     all_goals clear hk k
     refine AW.cond rfl ?_ ?_
     ·intro hc; try simp at hc
      all_goals try (exfalso; omega; done)
      all_goals (
       refine rgN [8] (fun _ h => h) ?_
       intro k hk; simp -dsimp [go_sem, -decide_eq_true_eq, -decide_eq_false_iff_not, hwa, hws, hwm, hwd, hwn]
       repeat' first | apply And.intro | refine hk _ ?_ | intro hg | omega | exact True.intro
       all_goals clear hk k
       refine rg [6,7] ?_
       intro k hk; simp -dsimp (maxSteps := 2000000) [go_sem, -decide_eq_true_eq, -decide_eq_false_iff_not, hwa, hws, hwm, hwd, hwn]
       repeat' first | apply And.intro | refine hk _ ?_ | intro hg | (refine CallK.intro (dc_spec_l1In _ _ _) ?_; simp -dsimp (maxSteps := 2000000) [go_sem, -decide_eq_true_eq, -decide_eq_false_iff_not, hwa, hws, hwm, hwd, hwn]) | omega | exact True.intro
       all_goals clear hk k
       refine rt ?_
       first | (have hk10 : k = 10 := (by omega); subst hk10; simp [go_sem, Try.results70, reckV, small, inR, hwn]; done) | (simp [go_sem, Try.results70, reckV, small, inR, *]; done) | (simp [go_sem, Try.results70, reckV, small, inR, *] <;> omega))
     ·intro hc; try simp at hc
      all_goals try (exfalso; omega; done)
      all_goals (
       refine rg [1,2,9,27] ?_
       intro k hk; simp -dsimp [go_sem, -decide_eq_true_eq, -decide_eq_false_iff_not, hwa, hws, hwm, hwd, hwn]
       repeat' first | apply And.intro | refine hk _ ?_ | intro hg | omega | exact True.intro
       all_goals clear hk k
       refine AW.cond rfl ?_ ?_
       ·intro hc; try simp at hc
        all_goals try (exfalso; omega; done)
        all_goals (
         refine AW.seq ?_
         refine rg [1,2,30] ?_
         intro k hk; simp -dsimp [go_sem, -decide_eq_true_eq, -decide_eq_false_iff_not, hwa, hws, hwm, hwd, hwn]
         repeat' first | apply And.intro | refine hk _ ?_ | intro hg | omega | exact True.intro
         all_goals clear hk k
         refine AW.cond rfl ?_ ?_
         ·intro hc; try simp at hc
          all_goals try (exfalso; omega; done)
          all_goals (
           refine rg [6,7] ?_
           intro k hk; simp -dsimp [go_sem, -decide_eq_true_eq, -decide_eq_false_iff_not, hwa, hws, hwm, hwd, hwn]
           repeat' first | apply And.intro | refine hk _ ?_ | intro hg | omega | exact True.intro
           all_goals clear hk k
           refine rt ?_
           first | (have hk10 : k = 10 := (by omega); subst hk10; simp [go_sem, Try.results70, reckV, small, inR, hwn]; done) | (simp [go_sem, Try.results70, reckV, small, inR, *]; done) | (simp [go_sem, Try.results70, reckV, small, inR, *] <;> omega))
         ·intro hc; try simp at hc
          all_goals try (exfalso; omega; done)
          all_goals (
           refine AW.skipN (fun _ h => h) ?_
           refine rgN [8] (fun _ h => h) ?_
           intro k hk; simp -dsimp [go_sem, -decide_eq_true_eq, -decide_eq_false_iff_not, hwa, hws, hwm, hwd, hwn]
           repeat' first | apply And.intro | refine hk _ ?_ | intro hg | omega | exact True.intro
           all_goals clear hk k
           refine rg [6,7] ?_
           intro k hk; simp -dsimp (maxSteps := 2000000) [go_sem, -decide_eq_true_eq, -decide_eq_false_iff_not, hwa, hws, hwm, hwd, hwn]
           repeat' first | apply And.intro | refine hk _ ?_ | intro hg | (refine CallK.intro (dc_spec_l1In _ _ _) ?_; simp -dsimp (maxSteps := 2000000) [go_sem, -decide_eq_true_eq, -decide_eq_false_iff_not, hwa, hws, hwm, hwd, hwn]) | omega | exact True.intro
           all_goals clear hk k
           refine rt ?_
           first | (have hk10 : k = 10 := (by omega); subst hk10; simp [go_sem, Try.results70, reckV, small, inR, hwn]; done) | (simp [go_sem, Try.results70, reckV, small, inR, *]; done) | (simp [go_sem, Try.results70, reckV, small, inR, *] <;> omega)))
       ·intro hc; try simp at hc
        all_goals try (exfalso; omega; done)
        all_goals (
         refine rg [1,2,9,34] ?_
         intro k hk; simp -dsimp [go_sem, -decide_eq_true_eq, -decide_eq_false_iff_not, hwa, hws, hwm, hwd, hwn]
         repeat' first | apply And.intro | refine hk _ ?_ | intro hg | omega | exact True.intro
         all_goals clear hk k
         refine AW.cond rfl ?_ ?_
         ·intro hc; try simp at hc
          all_goals try (exfalso; omega; done)
          all_goals (
           refine rgN [8] (fun _ h => h) ?_
           intro k hk; simp -dsimp (maxSteps := 2000000) [go_sem, -decide_eq_true_eq, -decide_eq_false_iff_not, hwa, hws, hwm, hwd, hwn]
           repeat' first | apply And.intro | refine hk _ ?_ | intro hg | (refine CallK.intro (dc_spec_l3Bool _) ?_; simp -dsimp (maxSteps := 2000000) [go_sem, -decide_eq_true_eq, -decide_eq_false_iff_not, hwa, hws, hwm, hwd, hwn]) | omega | exact True.intro
           all_goals clear hk k
           refine rg [6,7] ?_
           intro k hk; simp -dsimp (maxSteps := 2000000) [go_sem, -decide_eq_true_eq, -decide_eq_false_iff_not, hwa, hws, hwm, hwd, hwn]
           repeat' first | apply And.intro | refine hk _ ?_ | intro hg | (refine CallK.intro (dc_spec_l1In _ _ _) ?_; simp -dsimp (maxSteps := 2000000) [go_sem, -decide_eq_true_eq, -decide_eq_false_iff_not, hwa, hws, hwm, hwd, hwn]) | omega | exact True.intro
           all_goals clear hk k
           refine rt ?_
           first | (have hk10 : k = 10 := (by omega); subst hk10; simp [go_sem, Try.results70, reckV, small, inR, hwn]; done) | (simp [go_sem, Try.results70, reckV, small, inR, *]; done) | (simp [go_sem, Try.results70, reckV, small, inR, *] <;> omega))
         ·intro hc; try simp at hc
          all_goals try (exfalso; omega; done)
          all_goals (
           refine rg [1,2,9,40] ?_
           intro k hk; simp -dsimp [go_sem, -decide_eq_true_eq, -decide_eq_false_iff_not, hwa, hws, hwm, hwd, hwn]
           repeat' first | apply And.intro | refine hk _ ?_ | intro hg | omega | exact True.intro
           all_goals clear hk k
           refine AW.cond rfl ?_ ?_
           ·intro hc; try simp at hc
            all_goals try (exfalso; omega; done)
            all_goals (
             refine rgN [8] (fun _ h => h) ?_
             intro k hk; simp -dsimp (maxSteps := 2000000) [go_sem, -decide_eq_true_eq, -decide_eq_false_iff_not, hwa, hws, hwm, hwd, hwn]
             repeat' first | apply And.intro | refine hk _ ?_ | intro hg | (refine CallK.intro (dc_spec_l3Bool _) ?_; simp -dsimp (maxSteps := 2000000) [go_sem, -decide_eq_true_eq, -decide_eq_false_iff_not, hwa, hws, hwm, hwd, hwn]) | omega | exact True.intro
             all_goals clear hk k
             refine rg [6,7] ?_
             intro k hk; simp -dsimp (maxSteps := 2000000) [go_sem, -decide_eq_true_eq, -decide_eq_false_iff_not, hwa, hws, hwm, hwd, hwn]
             repeat' first | apply And.intro | refine hk _ ?_ | intro hg | (refine CallK.intro (dc_spec_l1In _ _ _) ?_; simp -dsimp (maxSteps := 2000000) [go_sem, -decide_eq_true_eq, -decide_eq_false_iff_not, hwa, hws, hwm, hwd, hwn]) | omega | exact True.intro
             all_goals clear hk k
             refine rt ?_
             first | (have hk10 : k = 10 := (by omega); subst hk10; simp [go_sem, Try.results70, reckV, small, inR, hwn]; done) | (simp [go_sem, Try.results70, reckV, small, inR, *]; done) | (simp [go_sem, Try.results70, reckV, small, inR, *] <;> omega))
           ·intro hc; try simp at hc
            all_goals try (exfalso; omega; done)
            all_goals (
             refine rg [1,2,46] ?_
             intro k hk; simp -dsimp [go_sem, -decide_eq_true_eq, -decide_eq_false_iff_not, hwa, hws, hwm, hwd, hwn]
             repeat' first | apply And.intro | refine hk _ ?_ | intro hg | omega | exact True.intro
             all_goals clear hk k
             refine AW.cond rfl ?_ ?_
             ·intro hc; try simp at hc
              all_goals try (exfalso; omega; done)
              all_goals (
               refine rgN [8] (fun _ h => h) ?_
               intro k hk; simp -dsimp [go_sem, -decide_eq_true_eq, -decide_eq_false_iff_not, hwa, hws, hwm, hwd, hwn]
               repeat' first | apply And.intro | refine hk _ ?_ | intro hg | omega | exact True.intro
               all_goals clear hk k
               refine rg [6,7] ?_
               intro k hk; simp -dsimp (maxSteps := 2000000) [go_sem, -decide_eq_true_eq, -decide_eq_false_iff_not, hwa, hws, hwm, hwd, hwn]
               repeat' first | apply And.intro | refine hk _ ?_ | intro hg | (refine CallK.intro (dc_spec_l1In _ _ _) ?_; simp -dsimp (maxSteps := 2000000) [go_sem, -decide_eq_true_eq, -decide_eq_false_iff_not, hwa, hws, hwm, hwd, hwn]) | omega | exact True.intro
               all_goals clear hk k
               refine rt ?_
               first | (have hk10 : k = 10 := (by omega); subst hk10; simp [go_sem, Try.results70, reckV, small, inR, hwn]; done) | (simp [go_sem, Try.results70, reckV, small, inR, *]; done) | (simp [go_sem, Try.results70, reckV, small, inR, *] <;> omega))
             ·intro hc; try simp at hc
              all_goals try (exfalso; omega; done)
              all_goals (
               refine rgN [8] (fun _ h => h) ?_
               intro k hk; simp -dsimp [go_sem, -decide_eq_true_eq, -decide_eq_false_iff_not, hwa, hws, hwm, hwd, hwn]
               repeat' first | apply And.intro | refine hk _ ?_ | intro hg | omega | exact True.intro
               all_goals clear hk k
               refine rg [6,7] ?_
               intro k hk; simp -dsimp (maxSteps := 2000000) [go_sem, -decide_eq_true_eq, -decide_eq_false_iff_not, hwa, hws, hwm, hwd, hwn]
               repeat' first | apply And.intro | refine hk _ ?_ | intro hg | (refine CallK.intro (dc_spec_l1In _ _ _) ?_; simp -dsimp (maxSteps := 2000000) [go_sem, -decide_eq_true_eq, -decide_eq_false_iff_not, hwa, hws, hwm, hwd, hwn]) | omega | exact True.intro
               all_goals clear hk k
               refine rt ?_
               first | (have hk10 : k = 10 := (by omega); subst hk10; simp [go_sem, Try.results70, reckV, small, inR, hwn]; done) | (simp [go_sem, Try.results70, reckV, small, inR, *]; done) | (simp [go_sem, Try.results70, reckV, small, inR, *] <;> omega))))))))
end Go.AM
namespace Go.AM
open Go.Proofs
set_option maxHeartbeats 4000000 in
theorem dc_spec_l3Eval (e : List TNode) (vars : List Int) (hn : 1 ≤ e.length ∧ e.length ≤ 16) (hp : PartsOk e e.length) (ht : typU e e.length = false) (hv : vars.length = 4) (hs : ∀ v ∈ vars, small v = true) : DC Try.prog 45 [.isl 4 (e.map TNode.ro), .isl 1 (vars.map I1)] (.tup [.int .i64 (if evalB e vars = true then evalI e vars else 0), .bool (evalB e vars)]) [] := by
 refine DC.intro tiOk Try.func45 rfl rfl rfl rfl rfl rfl rfl rfl [] ?_
 refine rgA [0,1] ?_
 refine rgA [0,1,6] ?_
 refine AW.seq ?_
 refine rgA [0,1,6,7] ?_
 refine AW.block ?_
 refine AW.rename (nd := ?nd_1) 12 58 ?h1_1 ?h2_1 ?h4_1 ?kk_1
 (case h1_1 => exact rfl)
 (case h2_1 => simp [go_sem])
 (case h4_1 => simp [go_sem])
 refine AW.loopI (fun i : Nat => ⟨65, [(0, .isl 4 (e.map TNode.ro)), (1, .isl 1 (vars.map I1)), (6, .sl 58 1 0 i), (7, .int .i64 (i : Nat))], [(58, some ⟨1, (evL e vars i).map I1⟩)]⟩) (fun i => i ≤ e.length ∧ evOk e vars i = true) (fun i => e.length - i) (0) (⟨Nat.zero_le _, rfl⟩) (Less.of rfl (by simp [go_sem, evL]) (by simp [go_sem, evL])) ?_
 rintro i ⟨hi, hok⟩
 refine AW.rename (nd := ?nd_2) 58 12 ?h1_2 ?h2_2 ?h4_2 ?kk_2
 (case h1_2 => exact rfl)
 (case h2_2 => simp [go_sem])
 (case h4_2 => simp [go_sem])
 refine AW.seq ?_
 refine rgA [0,1,6,7,16] ?_
 refine AW.cond rfl ?_ ?_
 ·intro hc; try simp at hc
  all_goals try (exfalso; omega; done)
  all_goals (
   have hlt : i < e.length := by first | assumption | omega
   obtain ⟨x, hx⟩ := at_some hlt
   obtain ⟨f1, f2, f3, f4⟩ := ev_facts hp ht hv hs hx hok
   have hlen := evL_len e vars i
   have htk : List.take i ((evL e vars i).map I1) = (evL e vars i).map I1 := List.take_of_length_le (by simp [hlen])
   have hkb : 1 ≤ x.kind ∧ x.kind ≤ 10 := by have h8 := nodeF_parts (show nodeF x i = 0 by have h7 := hp i hlt; rwa [nodeAt_at hx] at h7); exact ⟨h8.2.2.1, h8.2.2.2.1⟩
   refine AW.skipN (fun _ h => h) ?_
   refine AW.seq ?_
   refine AW.block ?_
   refine rg [0,1,6,7,8] ?_
   intro k hk; simp -dsimp [go_sem, -decide_eq_true_eq, -decide_eq_false_iff_not, hx, hlen]
   repeat' first | apply And.intro | refine hk _ ?_ | intro hg | omega | exact True.intro
   all_goals clear hk k
   refine rg [0,1,6,7,8,9] ?_
   intro k hk; simp -dsimp [go_sem, -decide_eq_true_eq, -decide_eq_false_iff_not, hx, hlen]
   repeat' first | apply And.intro | refine hk _ ?_ | intro hg | omega | exact True.intro
   all_goals clear hk k
   refine AW.seq ?_
   refine rg [0,1,6,7,8,9,27] ?_
   intro k hk; simp -dsimp [go_sem, -decide_eq_true_eq, -decide_eq_false_iff_not, hx, hlen]
   repeat' first | apply And.intro | refine hk _ ?_ | intro hg | omega | exact True.intro
   all_goals clear hk k
   refine AW.cond rfl ?_ ?_
   ·intro hc; try simp at hc
    all_goals try (exfalso; omega; done)
    all_goals (
     have hk2 : x.kind = 2 := by simpa using hc
     obtain ⟨u, hu, hu0, hu2, hu4⟩ := f2 hk2
     have hul := at_lt hu
     have hu3 : ∀ h, vars[x.val.toNat]'h = u := fun h => by have h9 := hu; rw [List.getElem?_eq_getElem h] at h9; exact Option.some.inj h9
     obtain ⟨hev, hbad⟩ := ev_two (out := evL e vars i) hk2 hu2 hu4
     refine rgN [0,1,6,7,8,9] (fun _ h => h) ?_
     intro k hk; simp -dsimp [go_sem, -decide_eq_true_eq, -decide_eq_false_iff_not, hx, hlen, hu, hu3]
     repeat' first | apply And.intro | refine hk _ ?_ | intro hg | omega | exact True.intro
     all_goals clear hk k
     refine AW.seq ?_
     refine rg [0,1,6,7,8,9,35] ?_
     intro k hk; simp -dsimp [go_sem, -decide_eq_true_eq, -decide_eq_false_iff_not, hx, hlen]
     repeat' first | apply And.intro | refine hk _ ?_ | intro hg | omega | exact True.intro
     all_goals clear hk k
     refine AW.cond rfl ?_ ?_
     ·intro hc; try simp at hc
      all_goals try (exfalso; omega; done)
      all_goals (
       have h3k : 3 ≤ x.kind := by first | omega | (simp at hc; omega)
       have hnf := hp i hlt
       rw [nodeAt_at hx] at hnf
       have hlr : 0 ≤ x.left ∧ x.left.toNat < i ∧ 0 ≤ x.right ∧ x.right.toNat < i ∧ x.kind ≤ 10 := by unfold nodeF at hnf; grind
       obtain ⟨g1, g2, g3, g4, g5⟩ := hlr
       obtain ⟨u, hu⟩ := at_some (l := (evL e vars i)) (i := x.left.toNat) (by omega)
       obtain ⟨v, hvv⟩ := at_some (l := (evL e vars i)) (i := x.right.toNat) (by omega)
       have hgu : gI (evL e vars i) x.left = u := by unfold gI; rw [List.getD_eq_getElem?_getD, hu]; rfl
       have hgv : gI (evL e vars i) x.right = v := by unfold gI; rw [List.getD_eq_getElem?_getD, hvv]; rfl
       have su : small u = true := by rw [← hgu]; exact gI_small hok g1 g2
       have sv : small v = true := by rw [← hgv]; exact gI_small hok g3 g4
       obtain ⟨hev, heb⟩ := ev_more (vars := vars) (out := evL e vars i) ⟨h3k, g5⟩ hgu hgv
       have hu3 : ∀ h, (evL e vars i)[x.left.toNat]'h = u := fun h => by have h9 := hu; rw [List.getElem?_eq_getElem h] at h9; exact Option.some.inj h9
       have hvv3 : ∀ h, (evL e vars i)[x.right.toNat]'h = v := fun h => by have h9 := hvv; rw [List.getElem?_eq_getElem h] at h9; exact Option.some.inj h9
       refine rg [0,1,6,7,10,11] ?_
       intro k hk; simp -dsimp (maxSteps := 2000000) [go_sem, -decide_eq_true_eq, -decide_eq_false_iff_not, hx, hlen, hu, hu3, hvv, hvv3]
       repeat' first | (refine Chk.keys ?_; simp only [go_sem, List.map_cons, List.map_nil, List.flatMap_cons, List.flatMap_nil, List.flatMap_append, List.append_nil, List.nil_append, List.cons_append]; decide +kernel) | apply And.intro | refine hk _ ?_ | intro hg | (refine CallK.intro (dc_spec_l3One x.kind u v ⟨h3k, g5⟩ su sv) ?_; simp -dsimp (maxSteps := 2000000) [go_sem, -decide_eq_true_eq, -decide_eq_false_iff_not, hx, hlen, hu, hu3, hvv, hvv3]) | omega | exact True.intro
       all_goals clear hk k
       refine AW.seq ?_
       refine rg [0,1,6,7,10,53] ?_
       intro k hk; simp -dsimp [go_sem, -decide_eq_true_eq, -decide_eq_false_iff_not, hx, hlen]
       repeat' first | apply And.intro | refine hk _ ?_ | intro hg | omega | exact True.intro
       all_goals clear hk k
       refine AW.cond rfl ?_ ?_
       ·intro hc; try simp at hc
        all_goals try (exfalso; omega; done)
        all_goals (
         refine rg [4,5] ?_
         intro k hk; simp -dsimp [go_sem, -decide_eq_true_eq, -decide_eq_false_iff_not, hx, hlen]
         repeat' first | apply And.intro | refine hk _ ?_ | intro hg | omega | exact True.intro
         all_goals clear hk k
         refine rt ?_
         first | (have hbd : evBad x vars (evL e vars i) = true := (by rw [heb]; simp at hc ⊢; grind); rw [ev_bad hlt hx hbd]; simp [go_sem, Try.results45]; done) | (have he : evalB e vars = true := hok; rw [he, hzi]; simp [go_sem, Try.results45]))
       ·intro hc; try simp at hc
        all_goals try (exfalso; omega; done)
        all_goals (
         refine AW.skipN (fun _ h => h) ?_
         have hno : ¬ (x.kind = 6 ∧ v = 0) := by intro h; simp [h] at hc
         have hbad : evBad x vars (evL e vars i) = false := by rw [heb]; simp at hc ⊢; grind
         refine rgN [0,1,6,7,9] (fun _ h => h) ?_
         intro k hk; simp -dsimp [go_sem, -decide_eq_true_eq, -decide_eq_false_iff_not, hx, hlen, hno]
         repeat' first | apply And.intro | refine hk _ ?_ | intro hg | omega | exact True.intro
         all_goals clear hk k
         try (have hk1 : x.kind = 1 := (by omega); obtain ⟨hev, hbad⟩ := ev_one (vars := vars) (out := evL e vars i) hk1 (f1 hk1))
         refine rgN [0,1,6,7] (fun _ h => h) ?_
         intro k hk; simp -dsimp [go_sem, -decide_eq_true_eq, -decide_eq_false_iff_not, hx, hlen]
         repeat' first | apply And.intro | refine hk _ ?_ | intro hg | omega | exact True.intro
         all_goals clear hk k
         refine rgK ?_
         intro k hk; simp -dsimp [go_sem, -decide_eq_true_eq, -decide_eq_false_iff_not, hx, hlen]
         repeat' first | apply And.intro | refine hk _ ?_ | intro hg | omega | exact True.intro
         all_goals clear hk k
         show ∃ _, _
         have hw := wrapi hlt (by omega)
         have hnx : ∃ w : Int, evV x vars (evL e vars i) = w ∧ evBad x vars (evL e vars i) = false := ⟨_, rfl, hbad⟩
         refine ⟨i + 1, ⟨by omega, ev_next hx hok hbad⟩, by omega, Less.of rfl (by simp [go_sem, hw]) (by rw [evL_succ hx, hev]; simp [go_sem, htk])⟩))
     ·intro hc; try simp at hc
      all_goals try (exfalso; omega; done)
      all_goals (
       refine AW.skipN (fun _ h => h) ?_
       try (have hk1 : x.kind = 1 := (by omega); obtain ⟨hev, hbad⟩ := ev_one (vars := vars) (out := evL e vars i) hk1 (f1 hk1))
       refine rgN [0,1,6,7] (fun _ h => h) ?_
       intro k hk; simp -dsimp [go_sem, -decide_eq_true_eq, -decide_eq_false_iff_not, hx, hlen]
       repeat' first | apply And.intro | refine hk _ ?_ | intro hg | omega | exact True.intro
       all_goals clear hk k
       refine rgK ?_
       intro k hk; simp -dsimp [go_sem, -decide_eq_true_eq, -decide_eq_false_iff_not, hx, hlen]
       repeat' first | apply And.intro | refine hk _ ?_ | intro hg | omega | exact True.intro
       all_goals clear hk k
       show ∃ _, _
       have hw := wrapi hlt (by omega)
       have hnx : ∃ w : Int, evV x vars (evL e vars i) = w ∧ evBad x vars (evL e vars i) = false := ⟨_, rfl, hbad⟩
       refine ⟨i + 1, ⟨by omega, ev_next hx hok hbad⟩, by omega, Less.of rfl (by simp [go_sem, hw]) (by rw [evL_succ hx, hev]; simp [go_sem, htk])⟩))
   ·intro hc; try simp at hc
    all_goals try (exfalso; omega; done)
    all_goals (
     refine AW.skipN (fun _ h => h) ?_
     refine AW.seq ?_
     refine rg [0,1,6,7,8,9,35] ?_
     intro k hk; simp -dsimp [go_sem, -decide_eq_true_eq, -decide_eq_false_iff_not, hx, hlen]
     repeat' first | apply And.intro | refine hk _ ?_ | intro hg | omega | exact True.intro
     all_goals clear hk k
     refine AW.cond rfl ?_ ?_
     ·intro hc; try simp at hc
      all_goals try (exfalso; omega; done)
      all_goals (
       have h3k : 3 ≤ x.kind := by first | omega | (simp at hc; omega)
       have hnf := hp i hlt
       rw [nodeAt_at hx] at hnf
       have hlr : 0 ≤ x.left ∧ x.left.toNat < i ∧ 0 ≤ x.right ∧ x.right.toNat < i ∧ x.kind ≤ 10 := by unfold nodeF at hnf; grind
       obtain ⟨g1, g2, g3, g4, g5⟩ := hlr
       obtain ⟨u, hu⟩ := at_some (l := (evL e vars i)) (i := x.left.toNat) (by omega)
       obtain ⟨v, hvv⟩ := at_some (l := (evL e vars i)) (i := x.right.toNat) (by omega)
       have hgu : gI (evL e vars i) x.left = u := by unfold gI; rw [List.getD_eq_getElem?_getD, hu]; rfl
       have hgv : gI (evL e vars i) x.right = v := by unfold gI; rw [List.getD_eq_getElem?_getD, hvv]; rfl
       have su : small u = true := by rw [← hgu]; exact gI_small hok g1 g2
       have sv : small v = true := by rw [← hgv]; exact gI_small hok g3 g4
       obtain ⟨hev, heb⟩ := ev_more (vars := vars) (out := evL e vars i) ⟨h3k, g5⟩ hgu hgv
       have hu3 : ∀ h, (evL e vars i)[x.left.toNat]'h = u := fun h => by have h9 := hu; rw [List.getElem?_eq_getElem h] at h9; exact Option.some.inj h9
       have hvv3 : ∀ h, (evL e vars i)[x.right.toNat]'h = v := fun h => by have h9 := hvv; rw [List.getElem?_eq_getElem h] at h9; exact Option.some.inj h9
       refine rg [0,1,6,7,10,11] ?_
       intro k hk; simp -dsimp (maxSteps := 2000000) [go_sem, -decide_eq_true_eq, -decide_eq_false_iff_not, hx, hlen, hu, hu3, hvv, hvv3]
       repeat' first | (refine Chk.keys ?_; simp only [go_sem, List.map_cons, List.map_nil, List.flatMap_cons, List.flatMap_nil, List.flatMap_append, List.append_nil, List.nil_append, List.cons_append]; decide +kernel) | apply And.intro | refine hk _ ?_ | intro hg | (refine CallK.intro (dc_spec_l3One x.kind u v ⟨h3k, g5⟩ su sv) ?_; simp -dsimp (maxSteps := 2000000) [go_sem, -decide_eq_true_eq, -decide_eq_false_iff_not, hx, hlen, hu, hu3, hvv, hvv3]) | omega | exact True.intro
       all_goals clear hk k
       refine AW.seq ?_
       refine rg [0,1,6,7,10,53] ?_
       intro k hk; simp -dsimp [go_sem, -decide_eq_true_eq, -decide_eq_false_iff_not, hx, hlen]
       repeat' first | apply And.intro | refine hk _ ?_ | intro hg | omega | exact True.intro
       all_goals clear hk k
       refine AW.cond rfl ?_ ?_
       ·intro hc; try simp at hc
        all_goals try (exfalso; omega; done)
        all_goals (
         refine rg [4,5] ?_
         intro k hk; simp -dsimp [go_sem, -decide_eq_true_eq, -decide_eq_false_iff_not, hx, hlen]
         repeat' first | apply And.intro | refine hk _ ?_ | intro hg | omega | exact True.intro
         all_goals clear hk k
         refine rt ?_
         first | (have hbd : evBad x vars (evL e vars i) = true := (by rw [heb]; simp at hc ⊢; grind); rw [ev_bad hlt hx hbd]; simp [go_sem, Try.results45]; done) | (have he : evalB e vars = true := hok; rw [he, hzi]; simp [go_sem, Try.results45]))
       ·intro hc; try simp at hc
        all_goals try (exfalso; omega; done)
        all_goals (
         refine AW.skipN (fun _ h => h) ?_
         have hno : ¬ (x.kind = 6 ∧ v = 0) := by intro h; simp [h] at hc
         have hbad : evBad x vars (evL e vars i) = false := by rw [heb]; simp at hc ⊢; grind
         refine rgN [0,1,6,7,9] (fun _ h => h) ?_
         intro k hk; simp -dsimp [go_sem, -decide_eq_true_eq, -decide_eq_false_iff_not, hx, hlen, hno]
         repeat' first | apply And.intro | refine hk _ ?_ | intro hg | omega | exact True.intro
         all_goals clear hk k
         try (have hk1 : x.kind = 1 := (by omega); obtain ⟨hev, hbad⟩ := ev_one (vars := vars) (out := evL e vars i) hk1 (f1 hk1))
         refine rgN [0,1,6,7] (fun _ h => h) ?_
         intro k hk; simp -dsimp [go_sem, -decide_eq_true_eq, -decide_eq_false_iff_not, hx, hlen]
         repeat' first | apply And.intro | refine hk _ ?_ | intro hg | omega | exact True.intro
         all_goals clear hk k
         refine rgK ?_
         intro k hk; simp -dsimp [go_sem, -decide_eq_true_eq, -decide_eq_false_iff_not, hx, hlen]
         repeat' first | apply And.intro | refine hk _ ?_ | intro hg | omega | exact True.intro
         all_goals clear hk k
         show ∃ _, _
         have hw := wrapi hlt (by omega)
         have hnx : ∃ w : Int, evV x vars (evL e vars i) = w ∧ evBad x vars (evL e vars i) = false := ⟨_, rfl, hbad⟩
         refine ⟨i + 1, ⟨by omega, ev_next hx hok hbad⟩, by omega, Less.of rfl (by simp [go_sem, hw]) (by rw [evL_succ hx, hev]; simp [go_sem, htk])⟩))
     ·intro hc; try simp at hc
      all_goals try (exfalso; omega; done)
      all_goals (
       refine AW.skipN (fun _ h => h) ?_
       try (have hk1 : x.kind = 1 := (by omega); obtain ⟨hev, hbad⟩ := ev_one (vars := vars) (out := evL e vars i) hk1 (f1 hk1))
       refine rgN [0,1,6,7] (fun _ h => h) ?_
       intro k hk; simp -dsimp [go_sem, -decide_eq_true_eq, -decide_eq_false_iff_not, hx, hlen]
       repeat' first | apply And.intro | refine hk _ ?_ | intro hg | omega | exact True.intro
       all_goals clear hk k
       refine rgK ?_
       intro k hk; simp -dsimp [go_sem, -decide_eq_true_eq, -decide_eq_false_iff_not, hx, hlen]
       repeat' first | apply And.intro | refine hk _ ?_ | intro hg | omega | exact True.intro
       all_goals clear hk k
       show ∃ _, _
       have hw := wrapi hlt (by omega)
       have hnx : ∃ w : Int, evV x vars (evL e vars i) = w ∧ evBad x vars (evL e vars i) = false := ⟨_, rfl, hbad⟩
       refine ⟨i + 1, ⟨by omega, ev_next hx hok hbad⟩, by omega, Less.of rfl (by simp [go_sem, hw]) (by rw [evL_succ hx, hev]; simp [go_sem, htk])⟩)))
 ·intro hc; try simp at hc
  all_goals try (exfalso; omega; done)
  all_goals (
   refine AW.exitN (fun _ h => h) ?_
   obtain rfl : i = e.length := (by omega)
   have hlen := evL_len e vars e.length
   have hwl : IntKind.wrap .i64 ((e.length : Int) - 1) = (e.length : Int) - 1 := wrap64 (by omega) (by omega)
   have hnt : ((e.length : Int) - 1).toNat = e.length - 1 := by omega
   obtain ⟨z, hz⟩ := at_some (l := evL e vars e.length) (i := e.length - 1) (by omega)
   have hz3 : ∀ h, (evL e vars e.length)[e.length - 1]'h = z := fun h => by have h9 := hz; rw [List.getElem?_eq_getElem h] at h9; exact Option.some.inj h9
   have hzi : evalI e vars = z := by unfold evalI lastI; rw [hlen, List.getD_eq_getElem?_getD, hz]; rfl
   refine rg [4,5] ?_
   intro k hk; simp -dsimp (maxSteps := 2000000) [go_sem, -decide_eq_true_eq, -decide_eq_false_iff_not, hwl, hnt, hz, hz3, hlen]
   repeat' first | apply And.intro | refine hk _ ?_ | intro hg | omega | exact True.intro
   all_goals clear hk k
   refine rt ?_
   first | (have hbd : evBad x vars (evL e vars i) = true := (by rw [heb]; simp at hc ⊢; grind); rw [ev_bad hlt hx hbd]; simp [go_sem, Try.results45]; done) | (have he : evalB e vars = true := hok; rw [he, hzi]; simp [go_sem, Try.results45]))
end Go.AM
namespace Go.AM
open Go.Proofs
theorem dc_spec_l9Choose (p : List TStep) (hP : ProcOk p) (a : Nat) (ha : a < p.length) (c : TChart) (hw : WfC p c) : DC Try.prog 43 [.isl 6 (p.map TStep.ro), .ip c.ro, .int .i64 (a : Nat)] (.int .i64 (chF p c.vars (kids p (a : Int)))) [] := by
 have hkl := kids_len p (a : Int)
 have hp := hP.len.2
 refine DC.intro tiOk Try.func43 rfl rfl rfl rfl rfl rfl rfl rfl [] ?_
 refine rgA [0,1,2] ?_
 refine rg [0,1,7] ?_
 intro k hk; simp -dsimp (maxSteps := 2000000) [go_sem, -decide_eq_true_eq, -decide_eq_false_iff_not]
 repeat' first | apply And.intro | refine hk _ ?_ | intro hg | (refine CallK.intro (dc_spec_l4Kids p (a : Int) (by omega) (by rw [hP.par0]; omega)) ?_; simp -dsimp (maxSteps := 2000000) [go_sem, -decide_eq_true_eq, -decide_eq_false_iff_not]) | omega | exact True.intro
 all_goals clear hk k
 refine AW.seq ?_
 refine rgA [0,1,7,8] ?_
 refine AW.block ?_
 refine AW.loopI (fun i : Nat => ⟨53, [(0, .isl 6 (p.map TStep.ro)), (1, .ip c.ro), (7, .sl 1014 1 0 (kids p (a : Int)).length), (8, .int .i64 (i : Nat))], [(1014, some ⟨1, (kids p (a : Int)).map I1⟩)]⟩) (fun i => i ≤ (kids p (a : Int)).length ∧ chF p c.vars (kids p (a : Int)) = chF p c.vars ((kids p (a : Int)).drop i)) (fun i => (kids p (a : Int)).length - i) (0) (⟨Nat.zero_le _, rfl⟩) (Less.of rfl (by simp [go_sem]) (by simp [go_sem])) ?_
 rintro i ⟨hi, hinv⟩
 refine AW.seq ?_
 refine rgA [0,1,7,8,18] ?_
 refine AW.cond rfl ?_ ?_
 ·intro hc; try simp [-List.length_eq_zero_iff] at hc
  all_goals try (exfalso; omega; done)
  all_goals (
   have hlt : i < (kids p (a : Int)).length := by first | assumption | omega
   obtain ⟨u, hu⟩ := at_some hlt
   have hum := List.mem_of_getElem? hu
   obtain ⟨m, rfl, ham, hmp, hpm, hme⟩ := hP.kid hum
   have hum2 := kids_bd hum
   obtain ⟨x, hx⟩ := at_some (l := p) (i := m) (by omega)
   have hxn := nS_at hx
   have hst := chF_step (p := p) (vars := c.vars) hu
   have hgd : 0 < (nS p m).cond.length → EGood (nS p m).cond := fun h => hP.cond hmp h
   rw [Int.toNat_natCast] at hst
   rw [hxn] at hst hgd
   have hx3 : ∀ h, p[m]'h = x := fun h => by have h9 := hx; rw [List.getElem?_eq_getElem h] at h9; exact Option.some.inj h9
   have hu3 : ∀ h, (kids p (a : Int))[i]'h = ((m : Nat) : Int) := fun h => by have h9 := hu; rw [List.getElem?_eq_getElem h] at h9; exact Option.some.inj h9
   refine AW.skipN (fun _ h => h) ?_
   refine AW.seq ?_
   refine AW.block ?_
   refine rg [0,1,7,8,9] ?_
   intro k hk; simp -dsimp (maxSteps := 2000000) [go_sem, -decide_eq_true_eq, -decide_eq_false_iff_not, hx, hu, hx3, hu3]
   repeat' first | apply And.intro | refine hk _ ?_ | intro hg | omega | exact True.intro
   all_goals clear hk k
   refine AW.seq ?_
   refine rg [0,1,7,8,9,31] ?_
   intro k hk; simp -dsimp [go_sem, -decide_eq_true_eq, -decide_eq_false_iff_not, hx, hu, hx3, hu3]
   repeat' first | apply And.intro | refine hk _ ?_ | intro hg | omega | exact True.intro
   all_goals clear hk k
   refine AW.cond rfl ?_ ?_
   ·intro hc; try simp [-List.length_eq_zero_iff] at hc
    all_goals try (exfalso; omega; done)
    all_goals (
     refine rg [6] ?_
     intro k hk; simp -dsimp [go_sem, -decide_eq_true_eq, -decide_eq_false_iff_not, hx, hu, hx3, hu3]
     repeat' first | apply And.intro | refine hk _ ?_ | intro hg | omega | exact True.intro
     all_goals clear hk k
     refine rt ?_
     rw [hinv]
     first | (rw [hst, if_pos (show x.cond.length = 0 by first | omega | assumption | contradiction | (exact List.length_pos_iff.2 (by assumption)) | (exact List.length_eq_zero_iff.2 (by assumption)) | (simp_all; done) | (simp_all; omega))]; simp [go_sem, Try.results43]; done) | (rw [hst, if_neg (show ¬ x.cond.length = 0 by first | omega | assumption | contradiction | (exact List.length_pos_iff.2 (by assumption)) | (exact List.length_eq_zero_iff.2 (by assumption)) | (simp_all; done) | (simp_all; omega)), if_pos (show evalB x.cond c.vars = false by first | omega | assumption | contradiction | (exact List.length_pos_iff.2 (by assumption)) | (exact List.length_eq_zero_iff.2 (by assumption)) | (simp_all; done) | (simp_all; omega))]; simp [go_sem, Try.results43]; done) | (rw [hst, if_neg (show ¬ x.cond.length = 0 by first | omega | assumption | contradiction | (exact List.length_pos_iff.2 (by assumption)) | (exact List.length_eq_zero_iff.2 (by assumption)) | (simp_all; done) | (simp_all; omega)), if_neg (show ¬ evalB x.cond c.vars = false by first | omega | assumption | contradiction | (exact List.length_pos_iff.2 (by assumption)) | (exact List.length_eq_zero_iff.2 (by assumption)) | (simp_all; done) | (simp_all; omega)), if_pos (show evalI x.cond c.vars = 1 by first | omega | assumption | contradiction | (exact List.length_pos_iff.2 (by assumption)) | (exact List.length_eq_zero_iff.2 (by assumption)) | (simp_all; done) | (simp_all; omega))]; simp [go_sem, Try.results43]; done) | (rw [List.drop_of_length_le (by omega)]; simp [go_sem, Try.results43, chF]))
   ·intro hc; try simp [-List.length_eq_zero_iff] at hc
    all_goals try (exfalso; omega; done)
    all_goals (
     refine AW.skipN (fun _ h => h) ?_
     have hg := hgd (by first | omega | assumption | contradiction | (exact List.length_pos_iff.2 (by assumption)) | (exact List.length_eq_zero_iff.2 (by assumption)) | (simp_all; done) | (simp_all; omega))
     refine rg [0,1,7,8,10,11] ?_
     intro k hk; simp -dsimp (maxSteps := 2000000) [go_sem, -decide_eq_true_eq, -decide_eq_false_iff_not, hx, hu, hx3, hu3]
     repeat' first | apply And.intro | refine hk _ ?_ | intro hg | (refine CallK.intro (dc_spec_l3Eval x.cond c.vars hg.len hg.parts hg.ty hw.vars hw.small) ?_; simp -dsimp (maxSteps := 2000000) [go_sem, -decide_eq_true_eq, -decide_eq_false_iff_not, hx, hu, hx3, hu3]) | omega | exact True.intro
     all_goals clear hk k
     refine AW.seq ?_
     refine rg [0,1,7,8,10,46] ?_
     intro k hk; simp -dsimp [go_sem, -decide_eq_true_eq, -decide_eq_false_iff_not, hx, hu, hx3, hu3]
     repeat' first | apply And.intro | refine hk _ ?_ | intro hg | omega | exact True.intro
     all_goals clear hk k
     refine AW.cond rfl ?_ ?_
     ·intro hc; try simp [-List.length_eq_zero_iff] at hc
      all_goals try (exfalso; omega; done)
      all_goals (
       refine rg [6] ?_
       intro k hk; simp -dsimp [go_sem, -decide_eq_true_eq, -decide_eq_false_iff_not, hx, hu, hx3, hu3]
       repeat' first | apply And.intro | refine hk _ ?_ | intro hg | omega | exact True.intro
       all_goals clear hk k
       refine rt ?_
       rw [hinv]
       first | (rw [hst, if_pos (show x.cond.length = 0 by first | omega | assumption | contradiction | (exact List.length_pos_iff.2 (by assumption)) | (exact List.length_eq_zero_iff.2 (by assumption)) | (simp_all; done) | (simp_all; omega))]; simp [go_sem, Try.results43]; done) | (rw [hst, if_neg (show ¬ x.cond.length = 0 by first | omega | assumption | contradiction | (exact List.length_pos_iff.2 (by assumption)) | (exact List.length_eq_zero_iff.2 (by assumption)) | (simp_all; done) | (simp_all; omega)), if_pos (show evalB x.cond c.vars = false by first | omega | assumption | contradiction | (exact List.length_pos_iff.2 (by assumption)) | (exact List.length_eq_zero_iff.2 (by assumption)) | (simp_all; done) | (simp_all; omega))]; simp [go_sem, Try.results43]; done) | (rw [hst, if_neg (show ¬ x.cond.length = 0 by first | omega | assumption | contradiction | (exact List.length_pos_iff.2 (by assumption)) | (exact List.length_eq_zero_iff.2 (by assumption)) | (simp_all; done) | (simp_all; omega)), if_neg (show ¬ evalB x.cond c.vars = false by first | omega | assumption | contradiction | (exact List.length_pos_iff.2 (by assumption)) | (exact List.length_eq_zero_iff.2 (by assumption)) | (simp_all; done) | (simp_all; omega)), if_pos (show evalI x.cond c.vars = 1 by first | omega | assumption | contradiction | (exact List.length_pos_iff.2 (by assumption)) | (exact List.length_eq_zero_iff.2 (by assumption)) | (simp_all; done) | (simp_all; omega))]; simp [go_sem, Try.results43]; done) | (rw [List.drop_of_length_le (by omega)]; simp [go_sem, Try.results43, chF]))
     ·intro hc; try simp [-List.length_eq_zero_iff] at hc
      all_goals try (exfalso; omega; done)
      all_goals (
       refine AW.skipN (fun _ h => h) ?_
       refine rg [0,1,7,8,48] ?_
       intro k hk; simp -dsimp [go_sem, -decide_eq_true_eq, -decide_eq_false_iff_not, hx, hu, hx3, hu3]
       repeat' first | apply And.intro | refine hk _ ?_ | intro hg | omega | exact True.intro
       all_goals clear hk k
       refine AW.cond rfl ?_ ?_
       ·intro hc; try simp [-List.length_eq_zero_iff] at hc
        all_goals try (exfalso; omega; done)
        all_goals (
         refine rg [6] ?_
         intro k hk; simp -dsimp [go_sem, -decide_eq_true_eq, -decide_eq_false_iff_not, hx, hu, hx3, hu3]
         repeat' first | apply And.intro | refine hk _ ?_ | intro hg | omega | exact True.intro
         all_goals clear hk k
         refine rt ?_
         rw [hinv]
         first | (rw [hst, if_pos (show x.cond.length = 0 by first | omega | assumption | contradiction | (exact List.length_pos_iff.2 (by assumption)) | (exact List.length_eq_zero_iff.2 (by assumption)) | (simp_all; done) | (simp_all; omega))]; simp [go_sem, Try.results43]; done) | (rw [hst, if_neg (show ¬ x.cond.length = 0 by first | omega | assumption | contradiction | (exact List.length_pos_iff.2 (by assumption)) | (exact List.length_eq_zero_iff.2 (by assumption)) | (simp_all; done) | (simp_all; omega)), if_pos (show evalB x.cond c.vars = false by first | omega | assumption | contradiction | (exact List.length_pos_iff.2 (by assumption)) | (exact List.length_eq_zero_iff.2 (by assumption)) | (simp_all; done) | (simp_all; omega))]; simp [go_sem, Try.results43]; done) | (rw [hst, if_neg (show ¬ x.cond.length = 0 by first | omega | assumption | contradiction | (exact List.length_pos_iff.2 (by assumption)) | (exact List.length_eq_zero_iff.2 (by assumption)) | (simp_all; done) | (simp_all; omega)), if_neg (show ¬ evalB x.cond c.vars = false by first | omega | assumption | contradiction | (exact List.length_pos_iff.2 (by assumption)) | (exact List.length_eq_zero_iff.2 (by assumption)) | (simp_all; done) | (simp_all; omega)), if_pos (show evalI x.cond c.vars = 1 by first | omega | assumption | contradiction | (exact List.length_pos_iff.2 (by assumption)) | (exact List.length_eq_zero_iff.2 (by assumption)) | (simp_all; done) | (simp_all; omega))]; simp [go_sem, Try.results43]; done) | (rw [List.drop_of_length_le (by omega)]; simp [go_sem, Try.results43, chF]))
       ·intro hc; try simp [-List.length_eq_zero_iff] at hc
        all_goals try (exfalso; omega; done)
        all_goals (
         refine AW.skipN (fun _ h => h) ?_
         refine rgK ?_
         intro k hk; simp -dsimp [go_sem, -decide_eq_true_eq, -decide_eq_false_iff_not, hx, hu, hx3, hu3]
         repeat' first | apply And.intro | refine hk _ ?_ | intro hg | omega | exact True.intro
         all_goals clear hk k
         show ∃ _, _
         have hw := wrapi hlt (by omega)
         have h1 : ¬ x.cond.length = 0 := by first | omega | assumption | contradiction | (exact List.length_pos_iff.2 (by assumption)) | (exact List.length_eq_zero_iff.2 (by assumption)) | (simp_all; done) | (simp_all; omega)
         have h2 : ¬ evalB x.cond c.vars = false := by first | omega | assumption | contradiction | (exact List.length_pos_iff.2 (by assumption)) | (exact List.length_eq_zero_iff.2 (by assumption)) | (simp_all; done) | (simp_all; omega)
         have h3 : ¬ evalI x.cond c.vars = 1 := by first | omega | assumption | contradiction | (exact List.length_pos_iff.2 (by assumption)) | (exact List.length_eq_zero_iff.2 (by assumption)) | (simp_all; done) | (simp_all; omega)
         rw [if_neg h1, if_neg h2, if_neg h3] at hst
         refine ⟨i + 1, ⟨by omega, by rw [hinv, hst]⟩, by omega, Less.of rfl (by simp [go_sem, hw]) (by simp [go_sem])⟩))))
 ·intro hc; try simp [-List.length_eq_zero_iff] at hc
  all_goals try (exfalso; omega; done)
  all_goals (
   refine AW.exitN (fun _ h => h) ?_
   refine rgA [6] ?_
   refine rt ?_
   rw [hinv]
   first | (rw [hst, if_pos (show x.cond.length = 0 by first | omega | assumption | contradiction | (exact List.length_pos_iff.2 (by assumption)) | (exact List.length_eq_zero_iff.2 (by assumption)) | (simp_all; done) | (simp_all; omega))]; simp [go_sem, Try.results43]; done) | (rw [hst, if_neg (show ¬ x.cond.length = 0 by first | omega | assumption | contradiction | (exact List.length_pos_iff.2 (by assumption)) | (exact List.length_eq_zero_iff.2 (by assumption)) | (simp_all; done) | (simp_all; omega)), if_pos (show evalB x.cond c.vars = false by first | omega | assumption | contradiction | (exact List.length_pos_iff.2 (by assumption)) | (exact List.length_eq_zero_iff.2 (by assumption)) | (simp_all; done) | (simp_all; omega))]; simp [go_sem, Try.results43]; done) | (rw [hst, if_neg (show ¬ x.cond.length = 0 by first | omega | assumption | contradiction | (exact List.length_pos_iff.2 (by assumption)) | (exact List.length_eq_zero_iff.2 (by assumption)) | (simp_all; done) | (simp_all; omega)), if_neg (show ¬ evalB x.cond c.vars = false by first | omega | assumption | contradiction | (exact List.length_pos_iff.2 (by assumption)) | (exact List.length_eq_zero_iff.2 (by assumption)) | (simp_all; done) | (simp_all; omega)), if_pos (show evalI x.cond c.vars = 1 by first | omega | assumption | contradiction | (exact List.length_pos_iff.2 (by assumption)) | (exact List.length_eq_zero_iff.2 (by assumption)) | (simp_all; done) | (simp_all; omega))]; simp [go_sem, Try.results43]; done) | (rw [List.drop_of_length_le (by omega)]; simp [go_sem, Try.results43, chF]))
end Go.AM
namespace Go.AM
open Go.Proofs
theorem dc_spec_l9End (p : List TStep) (hp : p.length ≤ 24) (c : TChart) (hw : WfC p c) (st : Int) : DC Try.prog 44 [.op (crow c), .int .i64 st] (.tup []) [(0, .op (crow (endF p.length st c)))] := by
 have hwa := hw.acts
 have hwd := hw.dues
 refine DC.introG tiOk Try.func44 rfl rfl rfl rfl rfl rfl rfl (by simp [noW, noWo]) [] ?_
 refine rgA [0] ?_
 refine AW.thaw (nd := ?nd_1) (c := ?c_1) (l := ?l_1) (es := ?es_1) 1900 0 3 7001 ?h1_1 ?h2_1 ?h3_1 ?h45_1 ?kk_1
 (case h1_1 => exact rfl)
 (case h2_1 => exact rfl)
 (case h3_1 => exact rfl)
 (case h45_1 => simp [go_sem])
 refine AW.thaw (nd := ?nd_2) (c := ?c_2) (l := ?l_2) (es := ?es_2) 1900 0 4 7002 ?h1_2 ?h2_2 ?h3_2 ?h45_2 ?kk_2
 (case h1_2 => exact rfl)
 (case h2_2 => exact rfl)
 (case h3_2 => exact rfl)
 (case h45_2 => simp [go_sem])
 refine rgA [0,4] ?_
 refine AW.block ?_
 refine AW.loopI (fun i : Nat => ⟨30, [(0, .ptr 1900 5 0 0), (4, .int .i64 (i : Nat))], [(7001, some ⟨1, (mkP z0 c.acts 0 i).map I1⟩), (7002, some ⟨1, (mkP z0 c.dues 0 i).map I1⟩), (1900, some ⟨5, [[.int .i64 st, .int .i64 c.now, .osl 1 (c.vars.map I1), .sl 7001 1 0 p.length, .sl 7002 1 0 p.length]]⟩)]⟩) (fun i => i ≤ p.length) (fun i => p.length - i) (0) (Nat.zero_le _) (Less.of rfl (by simp [go_sem]) (by simp [go_sem, mkP_zero, hwa, hwd])) ?_
 rintro i hi
 refine AW.seq ?_
 refine rgA [0,4,15] ?_
 refine AW.cond rfl ?_ ?_
 ·intro hc; try simp at hc
  all_goals (
   have hlt : i < p.length := by first | assumption | omega
   have hac : (mkP z0 c.acts 0 i).length = p.length := by rw [mkP_len (by rw [hw.acts]; omega), hw.acts]
   have hdc : (mkP z0 c.dues 0 i).length = p.length := by rw [mkP_len (by rw [hw.dues]; omega), hw.dues]
   obtain ⟨u, hu⟩ := at_some (l := mkP z0 c.acts 0 i) (i := i) (by omega)
   obtain ⟨v, hv⟩ := at_some (l := mkP z0 c.dues 0 i) (i := i) (by omega)
   have hst := endN_step (c := c) (st := st) (i := i) (by rw [hw.acts]; exact hlt) (by rw [hw.dues]; exact hlt)
   refine AW.skipN (fun _ h => h) ?_
   refine AW.seq ?_
   refine AW.block ?_
   refine rg [0,4] ?_
   intro k hk; simp -dsimp (maxSteps := 2000000) [go_sem, -decide_eq_true_eq, -decide_eq_false_iff_not, hac, hdc, hwa, hwd]
   repeat' first | apply And.intro | refine hk _ ?_ | intro hg | omega | exact True.intro
   all_goals clear hk k
   refine rgN [0,4] (fun _ h => h) ?_
   intro k hk; simp -dsimp (maxSteps := 2000000) [go_sem, -decide_eq_true_eq, -decide_eq_false_iff_not, hac, hdc, hwa, hwd]
   repeat' first | apply And.intro | refine hk _ ?_ | intro hg | omega | exact True.intro
   all_goals clear hk k
   refine rgK ?_
   intro k hk; simp -dsimp [go_sem, -decide_eq_true_eq, -decide_eq_false_iff_not, hac, hdc, hwa, hwd]
   repeat' first | apply And.intro | refine hk _ ?_ | intro hg | omega | exact True.intro
   all_goals clear hk k
   show ∃ _, _
   have hww := wrapi hlt (by omega)
   simp only [endN, TChart.mk.injEq] at hst
   refine ⟨i + 1, by omega, by omega, Less.of rfl (by simp [go_sem, hww]) (by rw [hst.2.2.2.1, hst.2.2.2.2]; simp [go_sem, List.map_set, hu, hv])⟩)
 ·intro hc; try simp at hc
  all_goals (
   refine AW.exit ?_
   refine And.intro (.inl rfl) ?_
   obtain rfl : i = p.length := (by omega)
   refine Gh.fold 1900 0 3 7001 rfl rfl rfl rfl (by rw [List.length_map, mkP_len (by omega), hwa]) (by decide) (by simp [go_sem]) ?_
   refine Gh.fold 1900 0 4 7002 rfl rfl rfl rfl (by rw [List.length_map, mkP_len (by omega), hwd]) (by decide) (by simp [go_sem]) ?_
   refine Gh.done ?_
   rw [← endN_end hw st]; simp [go_sem, Try.results44, endN])
end Go.AM
namespace Go.AM
open Go.Proofs
set_option maxHeartbeats 8000000 in
theorem dc_spec_l9Enter (p : List TStep) (hP : ProcOk p) (f : Nat) (hE : ∀ (k : Int) (c : TChart), 0 ≤ k → k.toNat < p.length → WfC p c → mE (pars p) k.toNat ≤ f → DC Try.prog 22 [.isl 6 (p.map TStep.ro), .op (crow c), .int .i64 k] (.tup []) [(1, .op (crow (goF p f true k.toNat c)))]) (hO : ∀ (k : Int) (c : TChart), 0 ≤ k → k.toNat < p.length → WfC p c → mO (pars p) k.toNat ≤ f → DC Try.prog 46 [.isl 6 (p.map TStep.ro), .op (crow c), .int .i64 k] (.tup []) [(1, .op (crow (goF p f false k.toNat c)))]) (a : Nat) (ha : a < p.length) (c : TChart) (hw : WfC p c) (hm : mE (pars p) a ≤ f + 1) : DC Try.prog 22 [.isl 6 (p.map TStep.ro), .op (crow c), .int .i64 (a : Nat)] (.tup []) [(1, .op (crow (goF p (f + 1) true a c)))] := by
 have hkl := kids_len p (a : Int)
 have hp := hP.len.2
 have hpl := pars_len p
 obtain ⟨x, hx⟩ := at_some ha
 have hxn := nS_at hx
 have hx3 : ∀ h, p[a]'h = x := fun h => by have h9 := hx; rw [List.getElem?_eq_getElem h] at h9; exact Option.some.inj h9
 have hac := hw.acts
 have hdc := hw.dues
 have hvc := hw.vars
 have hw1 := hw.setA (a : Int) 1
 have hkE : ∀ k ∈ (kids p (a : Int)), 0 ≤ k ∧ k.toNat < p.length ∧ mE (pars p) k.toNat ≤ f := fun k hk => by obtain ⟨m, rfl, h1, h2, h3, h4⟩ := hP.kid hk; rw [Int.toNat_natCast]; omega
 have hmo : mO (pars p) a ≤ f := by have := mE_over hP.pre (a := a) (by omega) (by omega); omega
 have hnow := inR_iff.1 hw.now
 have hmany := hP.many ha
 have harg := fun h => hP.arg ha h
 rw [hxn] at hmany harg
 refine DC.introG tiOk Try.func22 rfl rfl rfl rfl rfl rfl rfl (by simp [noW, noWo]) [] ?_
 refine AW.seq ?_
 refine rg [0,1,2,15] ?_
 intro k hk; simp -dsimp [go_sem, -decide_eq_true_eq, -decide_eq_false_iff_not, -List.map_set, set_I1, set_I1b, hac, hdc, hx, hx3, setA_vars]
 repeat' first | apply And.intro | refine hk _ ?_ | intro hg | omega | exact True.intro
 all_goals clear hk k
 refine AW.cond rfl ?_ ?_
 ·intro hc; try simp [-List.length_eq_zero_iff] at hc
  all_goals try (exfalso; first | omega | contradiction; done)
  all_goals (
   refine AW.ret ⟨.inr rfl, ?_⟩
   try (refine Gh.fold 1901 0 4 7002 rfl rfl rfl rfl (by simp [hdc]) (by decide) (by simp [go_sem]) ?_)
   refine Gh.done ?_
   first | (rw [go_off (by simpa using hc)]; simp [go_sem, Try.results22]; done) | (have h9 := go_seq (p := p) (f := f) (a := a) hs (by rw [hxn]; exact hq1); rw [h9]; simp [go_sem, Try.results22]; done) | (have h9 := go_and (p := p) (f := f) (a := a) hs (by rw [hxn]; exact hq4); rw [← goN_end (i := i) (by omega)] at h9; rw [h9]; simp [go_sem, Try.results22]; done) | (have h9 := go_xor (p := p) (f := f) (a := a) hs (by rw [hxn]; exact hq3); first | (rw [if_pos (by omega)] at h9; rw [h9]; simp [go_sem, Try.results22]; done) | (rw [if_neg (by omega)] at h9; rw [h9]; simp [go_sem, Try.results22]; done)) | (have h9 := go_guard (p := p) (f := f) (a := a) hs (by rw [hxn]; exact hq8); rw [hxn] at h9; rw [h9]; simp [go_sem, Try.results22]; done) | (have h9 := go_timer (p := p) (f := f) (a := a) hs (by rw [hxn]; exact hq6); rw [hxn] at h9; rw [h9]; simp [go_sem, Try.results22, setA, setD, -List.map_set, set_I1, set_I1b]; done) | (have h9 := go_set (p := p) (f := f) (a := a) hs (by rw [hxn]; exact hq7); rw [hxn, if_pos (show evalB x.expr c.vars = false by simpa using hc)] at h9; rw [h9]; simp [go_sem, Try.results22]; done) | (have h9 := go_set (p := p) (f := f) (a := a) hs (by rw [hxn]; exact hq7); rw [hxn, if_neg (show ¬ evalB x.expr c.vars = false by rw [hb]; decide)] at h9; rw [h9]; simp [go_sem, Try.results22]; done) | (rw [go_rest hs (by rw [hxn]; exact n1) (by rw [hxn]; exact n4) (by rw [hxn]; exact n3) (by rw [hxn]; exact n8) (by rw [hxn]; exact n6) (by rw [hxn]; simpa using hc)]; simp [go_sem, Try.results22, setA, -List.map_set, set_I1, set_I1b]))
 ·intro hc; try simp [-List.length_eq_zero_iff] at hc
  all_goals try (exfalso; first | omega | contradiction; done)
  all_goals (
   refine AW.skipN (fun _ h => h) ?_
   have hs : c.status = 1 := by simpa using hc
   refine AW.thaw (nd := ?nd_1) (c := ?c_1) (l := ?l_1) (es := ?es_1) 1901 0 3 7001 ?h1_1 ?h2_1 ?h3_1 ?h45_1 ?kk_1
   (case h1_1 => exact rfl)
   (case h2_1 => exact rfl)
   (case h3_1 => exact rfl)
   (case h45_1 => simp [go_sem])
   refine rg [0,1,2] ?_
   intro k hk; simp -dsimp (maxSteps := 2000000) [go_sem, -decide_eq_true_eq, -decide_eq_false_iff_not, -List.map_set, set_I1, set_I1b, hac, hdc, hx, hx3, setA_vars]
   repeat' first | apply And.intro | refine hk _ ?_ | intro hg | omega | exact True.intro
   all_goals clear hk k
   refine AW.fold (nd := ?nd_2) (c := ?c_2) (l := ?l_2) (es := ?es_2) (n := ?n_2) 1901 0 3 7001 ?h1_2 ?h2_2 ?h4_2 ?h3_2 ?hn_2 (by decide) ?h6_2 ?kk_2
   (case h1_2 => exact rfl)
   (case h2_2 => exact rfl)
   (case h4_2 => exact rfl)
   (case h3_2 => exact rfl)
   (case hn_2 => simp [hac, hdc, hvc])
   (case h6_2 => simp [go_sem, hac, hdc, hvc])
   refine rg [0,1,2,6] ?_
   intro k hk; simp -dsimp (maxSteps := 2000000) [go_sem, -decide_eq_true_eq, -decide_eq_false_iff_not, -List.map_set, set_I1, set_I1b, hac, hdc, hx, hx3, setA_vars]
   repeat' first | apply And.intro | refine hk _ ?_ | intro hg | (refine CallK.intro (dc_spec_l4Kids p (a : Int) hp (by rw [hP.par0]; omega)) ?_; simp -dsimp (maxSteps := 2000000) [go_sem, -decide_eq_true_eq, -decide_eq_false_iff_not, -List.map_set, set_I1, set_I1b, hac, hdc, hx, hx3, setA_vars]) | omega | exact True.intro
   all_goals clear hk k
   refine rg [0,1,2,6,29] ?_
   intro k hk; simp -dsimp [go_sem, -decide_eq_true_eq, -decide_eq_false_iff_not, -List.map_set, set_I1, set_I1b, hac, hdc, hx, hx3, setA_vars]
   repeat' first | apply And.intro | refine hk _ ?_ | intro hg | omega | exact True.intro
   all_goals clear hk k
   refine AW.block ?_
   refine rg [0,1,2,6,29,30] ?_
   intro k hk; simp -dsimp [go_sem, -decide_eq_true_eq, -decide_eq_false_iff_not, -List.map_set, set_I1, set_I1b, hac, hdc, hx, hx3, setA_vars]
   repeat' first | apply And.intro | refine hk _ ?_ | intro hg | omega | exact True.intro
   all_goals clear hk k
   refine AW.cond rfl ?_ ?_
   ·intro hc; try simp [-List.length_eq_zero_iff] at hc
    all_goals try (exfalso; first | omega | contradiction; done)
    all_goals (
     have hq1 : x.kind = 1 := by simpa using hc
     have hkn : (kids p (a : Int)) ≠ [] := by intro e; rw [e, hq1] at hmany; simp [kidLo] at hmany
     have hhd := head_at hkn
     have hhm := List.mem_of_getElem? hhd
     have hke := hkE _ hhm
     have hhd3 : ∀ h, (kids p (a : Int))[0]'h = headI (kids p (a : Int)) := fun h => by have h9 := hhd; rw [List.getElem?_eq_getElem h] at h9; exact Option.some.inj h9
     have hkp := List.length_pos_iff.2 hkn
     refine rgE (fun _ => [1]) ?_
     intro k hk; simp -dsimp (maxSteps := 2000000) [go_sem, -decide_eq_true_eq, -decide_eq_false_iff_not, -List.map_set, set_I1, set_I1b, hac, hdc, hx, hx3, setA_vars, hhd, hhd3]
     repeat' first | apply And.intro | refine hk _ ?_ | intro hg | (refine CallK.intro (hE (headI (kids p (a : Int))) (setA c (a : Int) 1) hke.1 hke.2.1 hw1 hke.2.2) ?_; simp -dsimp (maxSteps := 2000000) [go_sem, -decide_eq_true_eq, -decide_eq_false_iff_not, -List.map_set, set_I1, set_I1b, hac, hdc, hx, hx3, setA_vars, hhd, hhd3]) | omega | exact True.intro
     all_goals clear hk k
     refine ⟨.intro, And.intro (.inl rfl) ?_⟩
     try (refine Gh.fold 1901 0 4 7002 rfl rfl rfl rfl (by simp [hdc]) (by decide) (by simp [go_sem]) ?_)
     refine Gh.done ?_
     first | (rw [go_off (by simpa using hc)]; simp [go_sem, Try.results22]; done) | (have h9 := go_seq (p := p) (f := f) (a := a) hs (by rw [hxn]; exact hq1); rw [h9]; simp [go_sem, Try.results22]; done) | (have h9 := go_and (p := p) (f := f) (a := a) hs (by rw [hxn]; exact hq4); rw [← goN_end (i := i) (by omega)] at h9; rw [h9]; simp [go_sem, Try.results22]; done) | (have h9 := go_xor (p := p) (f := f) (a := a) hs (by rw [hxn]; exact hq3); first | (rw [if_pos (by omega)] at h9; rw [h9]; simp [go_sem, Try.results22]; done) | (rw [if_neg (by omega)] at h9; rw [h9]; simp [go_sem, Try.results22]; done)) | (have h9 := go_guard (p := p) (f := f) (a := a) hs (by rw [hxn]; exact hq8); rw [hxn] at h9; rw [h9]; simp [go_sem, Try.results22]; done) | (have h9 := go_timer (p := p) (f := f) (a := a) hs (by rw [hxn]; exact hq6); rw [hxn] at h9; rw [h9]; simp [go_sem, Try.results22, setA, setD, -List.map_set, set_I1, set_I1b]; done) | (have h9 := go_set (p := p) (f := f) (a := a) hs (by rw [hxn]; exact hq7); rw [hxn, if_pos (show evalB x.expr c.vars = false by simpa using hc)] at h9; rw [h9]; simp [go_sem, Try.results22]; done) | (have h9 := go_set (p := p) (f := f) (a := a) hs (by rw [hxn]; exact hq7); rw [hxn, if_neg (show ¬ evalB x.expr c.vars = false by rw [hb]; decide)] at h9; rw [h9]; simp [go_sem, Try.results22]; done) | (rw [go_rest hs (by rw [hxn]; exact n1) (by rw [hxn]; exact n4) (by rw [hxn]; exact n3) (by rw [hxn]; exact n8) (by rw [hxn]; exact n6) (by rw [hxn]; simpa using hc)]; simp [go_sem, Try.results22, setA, -List.map_set, set_I1, set_I1b]))
   ·intro hc; try simp [-List.length_eq_zero_iff] at hc
    all_goals try (exfalso; first | omega | contradiction; done)
    all_goals (
     have n1 : x.kind ≠ 1 := by simpa using hc
     refine rg [0,1,2,6,29,38] ?_
     intro k hk; simp -dsimp [go_sem, -decide_eq_true_eq, -decide_eq_false_iff_not, -List.map_set, set_I1, set_I1b, hac, hdc, hx, hx3, setA_vars]
     repeat' first | apply And.intro | refine hk _ ?_ | intro hg | omega | exact True.intro
     all_goals clear hk k
     refine AW.cond rfl ?_ ?_
     ·intro hc; try simp [-List.length_eq_zero_iff] at hc
      all_goals try (exfalso; first | omega | contradiction; done)
      all_goals (
       have hq4 : x.kind = 4 := by simpa using hc
       refine rg [0,1,6,7] ?_
       intro k hk; simp -dsimp [go_sem, -decide_eq_true_eq, -decide_eq_false_iff_not, -List.map_set, set_I1, set_I1b, hac, hdc, hx, hx3, setA_vars]
       repeat' first | apply And.intro | refine hk _ ?_ | intro hg | omega | exact True.intro
       all_goals clear hk k
       refine AW.block ?_
       refine AW.loopI (fun i : Nat => ⟨143, [(0, .isl 6 (p.map TStep.ro)), (1, .ptr 1901 5 0 0), (6, .sl 1024 1 0 (kids p (a : Int)).length), (7, .int .i64 (i : Nat))], [(1024, some ⟨1, (kids p (a : Int)).map I1⟩), (1901, some ⟨5, [crow (goN p f (kids p (a : Int)) (setA c (a : Int) 1) i)]⟩)]⟩) (fun i => i ≤ (kids p (a : Int)).length) (fun i => (kids p (a : Int)).length - i) (0) (Nat.zero_le _) (Less.of rfl (by simp [go_sem]) (by simp [go_sem, goN_zero, setA])) ?_
       rintro i hi
       refine AW.seq ?_
       refine rg [0,1,6,7,43] ?_
       intro k hk; simp -dsimp [go_sem, -decide_eq_true_eq, -decide_eq_false_iff_not, -List.map_set, set_I1, set_I1b, hac, hdc, hx, hx3, setA_vars]
       repeat' first | apply And.intro | refine hk _ ?_ | intro hg | omega | exact True.intro
       all_goals clear hk k
       refine AW.cond rfl ?_ ?_
       ·intro hc; try simp [-List.length_eq_zero_iff] at hc
        all_goals try (exfalso; first | omega | contradiction; done)
        all_goals (
         have hlt : i < (kids p (a : Int)).length := by first | assumption | omega
         obtain ⟨u, hu⟩ := at_some hlt
         have hku := hkE u (List.mem_of_getElem? hu)
         have hst := goN_step (p := p) (f := f) (c := (setA c (a : Int) 1)) hu
         have hwN := goN_wf (f := f) hP (l := (kids p (a : Int))) (i := i) hw1
         have hu3 : ∀ h, (kids p (a : Int))[i]'h = u := fun h => by have h9 := hu; rw [List.getElem?_eq_getElem h] at h9; exact Option.some.inj h9
         refine AW.skipN (fun _ h => h) ?_
         refine AW.seq ?_
         refine AW.block ?_
         refine AW.regN tiOk (fun _ => [1]) [0,1,6,7] (fun _ h => h) ?_
         intro k hk; simp -dsimp (maxSteps := 2000000) [go_sem, -decide_eq_true_eq, -decide_eq_false_iff_not, -List.map_set, set_I1, set_I1b, hac, hdc, hx, hx3, setA_vars, hu, hu3]
         repeat' first | apply And.intro | refine hk _ ?_ | intro hg | (refine CallK.intro (hE u (goN p f (kids p (a : Int)) (setA c (a : Int) 1) i) hku.1 hku.2.1 hwN hku.2.2) ?_; simp -dsimp (maxSteps := 2000000) [go_sem, -decide_eq_true_eq, -decide_eq_false_iff_not, -List.map_set, set_I1, set_I1b, hac, hdc, hx, hx3, setA_vars, hu, hu3]) | omega | exact True.intro
         all_goals clear hk k
         refine rgK ?_
         intro k hk; simp -dsimp [go_sem, -decide_eq_true_eq, -decide_eq_false_iff_not, -List.map_set, set_I1, set_I1b, hac, hdc, hx, hx3, setA_vars, hu, hu3]
         repeat' first | apply And.intro | refine hk _ ?_ | intro hg | omega | exact True.intro
         all_goals clear hk k
         show ∃ _, _
         have hww := wrapi hlt (by omega)
         refine ⟨i + 1, by omega, by omega, Less.of rfl (by simp [go_sem, hww]) (by rw [hst]; simp [go_sem])⟩)
       ·intro hc; try simp [-List.length_eq_zero_iff] at hc
        all_goals try (exfalso; first | omega | contradiction; done)
        all_goals (
         refine AW.exit ?_
         refine And.intro (.inl rfl) ?_
         try (refine Gh.fold 1901 0 4 7002 rfl rfl rfl rfl (by simp [hdc]) (by decide) (by simp [go_sem]) ?_)
         refine Gh.done ?_
         first | (rw [go_off (by simpa using hc)]; simp [go_sem, Try.results22]; done) | (have h9 := go_seq (p := p) (f := f) (a := a) hs (by rw [hxn]; exact hq1); rw [h9]; simp [go_sem, Try.results22]; done) | (have h9 := go_and (p := p) (f := f) (a := a) hs (by rw [hxn]; exact hq4); rw [← goN_end (i := i) (by omega)] at h9; rw [h9]; simp [go_sem, Try.results22]; done) | (have h9 := go_xor (p := p) (f := f) (a := a) hs (by rw [hxn]; exact hq3); first | (rw [if_pos (by omega)] at h9; rw [h9]; simp [go_sem, Try.results22]; done) | (rw [if_neg (by omega)] at h9; rw [h9]; simp [go_sem, Try.results22]; done)) | (have h9 := go_guard (p := p) (f := f) (a := a) hs (by rw [hxn]; exact hq8); rw [hxn] at h9; rw [h9]; simp [go_sem, Try.results22]; done) | (have h9 := go_timer (p := p) (f := f) (a := a) hs (by rw [hxn]; exact hq6); rw [hxn] at h9; rw [h9]; simp [go_sem, Try.results22, setA, setD, -List.map_set, set_I1, set_I1b]; done) | (have h9 := go_set (p := p) (f := f) (a := a) hs (by rw [hxn]; exact hq7); rw [hxn, if_pos (show evalB x.expr c.vars = false by simpa using hc)] at h9; rw [h9]; simp [go_sem, Try.results22]; done) | (have h9 := go_set (p := p) (f := f) (a := a) hs (by rw [hxn]; exact hq7); rw [hxn, if_neg (show ¬ evalB x.expr c.vars = false by rw [hb]; decide)] at h9; rw [h9]; simp [go_sem, Try.results22]; done) | (rw [go_rest hs (by rw [hxn]; exact n1) (by rw [hxn]; exact n4) (by rw [hxn]; exact n3) (by rw [hxn]; exact n8) (by rw [hxn]; exact n6) (by rw [hxn]; simpa using hc)]; simp [go_sem, Try.results22, setA, -List.map_set, set_I1, set_I1b])))
     ·intro hc; try simp [-List.length_eq_zero_iff] at hc
      all_goals try (exfalso; first | omega | contradiction; done)
      all_goals (
       have n4 : x.kind ≠ 4 := by simpa using hc
       refine rg [0,1,2,6,29,53] ?_
       intro k hk; simp -dsimp [go_sem, -decide_eq_true_eq, -decide_eq_false_iff_not, -List.map_set, set_I1, set_I1b, hac, hdc, hx, hx3, setA_vars]
       repeat' first | apply And.intro | refine hk _ ?_ | intro hg | omega | exact True.intro
       all_goals clear hk k
       refine AW.cond rfl ?_ ?_
       ·intro hc; try simp [-List.length_eq_zero_iff] at hc
        all_goals try (exfalso; first | omega | contradiction; done)
        all_goals (
         have hq3 : x.kind = 3 := by simpa using hc
         refine rg [0,1,8] ?_
         intro k hk; simp -dsimp (maxSteps := 2000000) [go_sem, -decide_eq_true_eq, -decide_eq_false_iff_not, -List.map_set, set_I1, set_I1b, hac, hdc, hx, hx3, setA_vars]
         repeat' first | apply And.intro | refine hk _ ?_ | intro hg | (refine CallK.intro (dc_spec_l9Choose p hP a ha (setA c (a : Int) 1) hw1) ?_; simp -dsimp (maxSteps := 2000000) [go_sem, -decide_eq_true_eq, -decide_eq_false_iff_not, -List.map_set, set_I1, set_I1b, hac, hdc, hx, hx3, setA_vars]) | omega | exact True.intro
         all_goals clear hk k
         refine AW.seq ?_
         refine rg [0,1,8,60] ?_
         intro k hk; simp -dsimp [go_sem, -decide_eq_true_eq, -decide_eq_false_iff_not, -List.map_set, set_I1, set_I1b, hac, hdc, hx, hx3, setA_vars]
         repeat' first | apply And.intro | refine hk _ ?_ | intro hg | omega | exact True.intro
         all_goals clear hk k
         refine AW.cond rfl ?_ ?_
         ·intro hc; try simp [-List.length_eq_zero_iff] at hc
          all_goals try (exfalso; first | omega | contradiction; done)
          all_goals (
           refine AW.reg tiOk (fun _ => [0]) [1] ?_
           intro k hk; simp -dsimp (maxSteps := 2000000) [go_sem, -decide_eq_true_eq, -decide_eq_false_iff_not, -List.map_set, set_I1, set_I1b, hac, hdc, hx, hx3, setA_vars]
           repeat' first | apply And.intro | refine hk _ ?_ | intro hg | (refine CallK.intro (dc_spec_l9End p hp (setA c (a : Int) 1) hw1 3) ?_; simp -dsimp (maxSteps := 2000000) [go_sem, -decide_eq_true_eq, -decide_eq_false_iff_not, -List.map_set, set_I1, set_I1b, hac, hdc, hx, hx3, setA_vars]) | omega | exact True.intro
           all_goals clear hk k
           refine AW.ret ⟨.inr rfl, ?_⟩
           try (refine Gh.fold 1901 0 4 7002 rfl rfl rfl rfl (by simp [hdc]) (by decide) (by simp [go_sem]) ?_)
           refine Gh.done ?_
           first | (rw [go_off (by simpa using hc)]; simp [go_sem, Try.results22]; done) | (have h9 := go_seq (p := p) (f := f) (a := a) hs (by rw [hxn]; exact hq1); rw [h9]; simp [go_sem, Try.results22]; done) | (have h9 := go_and (p := p) (f := f) (a := a) hs (by rw [hxn]; exact hq4); rw [← goN_end (i := i) (by omega)] at h9; rw [h9]; simp [go_sem, Try.results22]; done) | (have h9 := go_xor (p := p) (f := f) (a := a) hs (by rw [hxn]; exact hq3); first | (rw [if_pos (by omega)] at h9; rw [h9]; simp [go_sem, Try.results22]; done) | (rw [if_neg (by omega)] at h9; rw [h9]; simp [go_sem, Try.results22]; done)) | (have h9 := go_guard (p := p) (f := f) (a := a) hs (by rw [hxn]; exact hq8); rw [hxn] at h9; rw [h9]; simp [go_sem, Try.results22]; done) | (have h9 := go_timer (p := p) (f := f) (a := a) hs (by rw [hxn]; exact hq6); rw [hxn] at h9; rw [h9]; simp [go_sem, Try.results22, setA, setD, -List.map_set, set_I1, set_I1b]; done) | (have h9 := go_set (p := p) (f := f) (a := a) hs (by rw [hxn]; exact hq7); rw [hxn, if_pos (show evalB x.expr c.vars = false by simpa using hc)] at h9; rw [h9]; simp [go_sem, Try.results22]; done) | (have h9 := go_set (p := p) (f := f) (a := a) hs (by rw [hxn]; exact hq7); rw [hxn, if_neg (show ¬ evalB x.expr c.vars = false by rw [hb]; decide)] at h9; rw [h9]; simp [go_sem, Try.results22]; done) | (rw [go_rest hs (by rw [hxn]; exact n1) (by rw [hxn]; exact n4) (by rw [hxn]; exact n3) (by rw [hxn]; exact n8) (by rw [hxn]; exact n6) (by rw [hxn]; simpa using hc)]; simp [go_sem, Try.results22, setA, -List.map_set, set_I1, set_I1b]))
         ·intro hc; try simp [-List.length_eq_zero_iff] at hc
          all_goals try (exfalso; first | omega | contradiction; done)
          all_goals (
           refine AW.skipN (fun _ h => h) ?_
           have h6 : 0 ≤ chF p c.vars (kids p (a : Int)) := by first | omega | simpa using hc
           have hkc := hkE _ (hP.chF (by rw [hxn]; exact hq3) c.vars h6)
           refine rgE (fun _ => [1]) ?_
           intro k hk; simp -dsimp (maxSteps := 2000000) [go_sem, -decide_eq_true_eq, -decide_eq_false_iff_not, -List.map_set, set_I1, set_I1b, hac, hdc, hx, hx3, setA_vars]
           repeat' first | apply And.intro | refine hk _ ?_ | intro hg | (refine CallK.intro (hE (chF p c.vars (kids p (a : Int))) (setA c (a : Int) 1) hkc.1 hkc.2.1 hw1 hkc.2.2) ?_; simp -dsimp (maxSteps := 2000000) [go_sem, -decide_eq_true_eq, -decide_eq_false_iff_not, -List.map_set, set_I1, set_I1b, hac, hdc, hx, hx3, setA_vars]) | omega | exact True.intro
           all_goals clear hk k
           refine ⟨.intro, And.intro (.inl rfl) ?_⟩
           try (refine Gh.fold 1901 0 4 7002 rfl rfl rfl rfl (by simp [hdc]) (by decide) (by simp [go_sem]) ?_)
           refine Gh.done ?_
           first | (rw [go_off (by simpa using hc)]; simp [go_sem, Try.results22]; done) | (have h9 := go_seq (p := p) (f := f) (a := a) hs (by rw [hxn]; exact hq1); rw [h9]; simp [go_sem, Try.results22]; done) | (have h9 := go_and (p := p) (f := f) (a := a) hs (by rw [hxn]; exact hq4); rw [← goN_end (i := i) (by omega)] at h9; rw [h9]; simp [go_sem, Try.results22]; done) | (have h9 := go_xor (p := p) (f := f) (a := a) hs (by rw [hxn]; exact hq3); first | (rw [if_pos (by omega)] at h9; rw [h9]; simp [go_sem, Try.results22]; done) | (rw [if_neg (by omega)] at h9; rw [h9]; simp [go_sem, Try.results22]; done)) | (have h9 := go_guard (p := p) (f := f) (a := a) hs (by rw [hxn]; exact hq8); rw [hxn] at h9; rw [h9]; simp [go_sem, Try.results22]; done) | (have h9 := go_timer (p := p) (f := f) (a := a) hs (by rw [hxn]; exact hq6); rw [hxn] at h9; rw [h9]; simp [go_sem, Try.results22, setA, setD, -List.map_set, set_I1, set_I1b]; done) | (have h9 := go_set (p := p) (f := f) (a := a) hs (by rw [hxn]; exact hq7); rw [hxn, if_pos (show evalB x.expr c.vars = false by simpa using hc)] at h9; rw [h9]; simp [go_sem, Try.results22]; done) | (have h9 := go_set (p := p) (f := f) (a := a) hs (by rw [hxn]; exact hq7); rw [hxn, if_neg (show ¬ evalB x.expr c.vars = false by rw [hb]; decide)] at h9; rw [h9]; simp [go_sem, Try.results22]; done) | (rw [go_rest hs (by rw [hxn]; exact n1) (by rw [hxn]; exact n4) (by rw [hxn]; exact n3) (by rw [hxn]; exact n8) (by rw [hxn]; exact n6) (by rw [hxn]; simpa using hc)]; simp [go_sem, Try.results22, setA, -List.map_set, set_I1, set_I1b])))
       ·intro hc; try simp [-List.length_eq_zero_iff] at hc
        all_goals try (exfalso; first | omega | contradiction; done)
        all_goals (
         have n3 : x.kind ≠ 3 := by simpa using hc
         refine rg [0,1,2,6,29,67] ?_
         intro k hk; simp -dsimp [go_sem, -decide_eq_true_eq, -decide_eq_false_iff_not, -List.map_set, set_I1, set_I1b, hac, hdc, hx, hx3, setA_vars]
         repeat' first | apply And.intro | refine hk _ ?_ | intro hg | omega | exact True.intro
         all_goals clear hk k
         refine AW.cond rfl ?_ ?_
         ·intro hc; try simp [-List.length_eq_zero_iff] at hc
          all_goals try (exfalso; first | omega | contradiction; done)
          all_goals (
           have hq8 : x.kind = 8 := by simpa using hc
           have hkn : (kids p (a : Int)) ≠ [] := by intro e; rw [e, hq8] at hmany; simp [kidLo] at hmany
           have hhd := head_at hkn
           have hhm := List.mem_of_getElem? hhd
           have hke := hkE _ hhm
           have hhd3 : ∀ h, (kids p (a : Int))[0]'h = headI (kids p (a : Int)) := fun h => by have h9 := hhd; rw [List.getElem?_eq_getElem h] at h9; exact Option.some.inj h9
           have hkp := List.length_pos_iff.2 hkn
           have harg2 := harg (by omega)
           rw [hq8] at harg2
           simp [lowA, highA] at harg2
           have hwn : IntKind.wrap .i64 (c.now + x.arg) = c.now + x.arg := wrap64 (by omega) (by omega)
           refine AW.thaw (nd := ?nd_3) (c := ?c_3) (l := ?l_3) (es := ?es_3) 1901 0 4 7002 ?h1_3 ?h2_3 ?h3_3 ?h45_3 ?kk_3
           (case h1_3 => exact rfl)
           (case h2_3 => exact rfl)
           (case h3_3 => exact rfl)
           (case h45_3 => simp [go_sem])
           refine rg [0,1,6] ?_
           intro k hk; simp -dsimp (maxSteps := 2000000) [go_sem, -decide_eq_true_eq, -decide_eq_false_iff_not, -List.map_set, set_I1, set_I1b, hac, hdc, hx, hx3, setA_vars, hwn]
           repeat' first | (refine Chk.keys ?_; simp only [go_sem, List.map_cons, List.map_nil, List.flatMap_cons, List.flatMap_nil, List.flatMap_append, List.append_nil, List.nil_append, List.cons_append]; decide +kernel) | apply And.intro | refine hk _ ?_ | intro hg | omega | exact True.intro
           all_goals clear hk k
           refine AW.fold (nd := ?nd_4) (c := ?c_4) (l := ?l_4) (es := ?es_4) (n := ?n_4) 1901 0 4 7002 ?h1_4 ?h2_4 ?h4_4 ?h3_4 ?hn_4 (by decide) ?h6_4 ?kk_4
           (case h1_4 => exact rfl)
           (case h2_4 => exact rfl)
           (case h4_4 => exact rfl)
           (case h3_4 => exact rfl)
           (case hn_4 => simp [hac, hdc, hvc])
           (case h6_4 => simp [go_sem, hac, hdc, hvc])
           refine rgE (fun _ => [1]) ?_
           intro k hk; simp -dsimp (maxSteps := 2000000) [go_sem, -decide_eq_true_eq, -decide_eq_false_iff_not, -List.map_set, set_I1, set_I1b, hac, hdc, hx, hx3, setA_vars, hhd, hhd3]
           repeat' first | apply And.intro | refine hk _ ?_ | intro hg | (refine CallK.intro (hE (headI (kids p (a : Int))) (setD (setA c (a : Int) 1) (a : Int) (c.now + x.arg)) hke.1 hke.2.1 (hw1.setD _ _) hke.2.2) ?_; simp -dsimp (maxSteps := 2000000) [go_sem, -decide_eq_true_eq, -decide_eq_false_iff_not, -List.map_set, set_I1, set_I1b, hac, hdc, hx, hx3, setA_vars, hhd, hhd3]) | omega | exact True.intro
           all_goals clear hk k
           refine ⟨.intro, And.intro (.inl rfl) ?_⟩
           try (refine Gh.fold 1901 0 4 7002 rfl rfl rfl rfl (by simp [hdc]) (by decide) (by simp [go_sem]) ?_)
           refine Gh.done ?_
           first | (rw [go_off (by simpa using hc)]; simp [go_sem, Try.results22]; done) | (have h9 := go_seq (p := p) (f := f) (a := a) hs (by rw [hxn]; exact hq1); rw [h9]; simp [go_sem, Try.results22]; done) | (have h9 := go_and (p := p) (f := f) (a := a) hs (by rw [hxn]; exact hq4); rw [← goN_end (i := i) (by omega)] at h9; rw [h9]; simp [go_sem, Try.results22]; done) | (have h9 := go_xor (p := p) (f := f) (a := a) hs (by rw [hxn]; exact hq3); first | (rw [if_pos (by omega)] at h9; rw [h9]; simp [go_sem, Try.results22]; done) | (rw [if_neg (by omega)] at h9; rw [h9]; simp [go_sem, Try.results22]; done)) | (have h9 := go_guard (p := p) (f := f) (a := a) hs (by rw [hxn]; exact hq8); rw [hxn] at h9; rw [h9]; simp [go_sem, Try.results22]; done) | (have h9 := go_timer (p := p) (f := f) (a := a) hs (by rw [hxn]; exact hq6); rw [hxn] at h9; rw [h9]; simp [go_sem, Try.results22, setA, setD, -List.map_set, set_I1, set_I1b]; done) | (have h9 := go_set (p := p) (f := f) (a := a) hs (by rw [hxn]; exact hq7); rw [hxn, if_pos (show evalB x.expr c.vars = false by simpa using hc)] at h9; rw [h9]; simp [go_sem, Try.results22]; done) | (have h9 := go_set (p := p) (f := f) (a := a) hs (by rw [hxn]; exact hq7); rw [hxn, if_neg (show ¬ evalB x.expr c.vars = false by rw [hb]; decide)] at h9; rw [h9]; simp [go_sem, Try.results22]; done) | (rw [go_rest hs (by rw [hxn]; exact n1) (by rw [hxn]; exact n4) (by rw [hxn]; exact n3) (by rw [hxn]; exact n8) (by rw [hxn]; exact n6) (by rw [hxn]; simpa using hc)]; simp [go_sem, Try.results22, setA, -List.map_set, set_I1, set_I1b]))
         ·intro hc; try simp [-List.length_eq_zero_iff] at hc
          all_goals try (exfalso; first | omega | contradiction; done)
          all_goals (
           have n8 : x.kind ≠ 8 := by simpa using hc
           refine rg [0,1,2,29,91] ?_
           intro k hk; simp -dsimp [go_sem, -decide_eq_true_eq, -decide_eq_false_iff_not, -List.map_set, set_I1, set_I1b, hac, hdc, hx, hx3, setA_vars]
           repeat' first | apply And.intro | refine hk _ ?_ | intro hg | omega | exact True.intro
           all_goals clear hk k
           refine AW.cond rfl ?_ ?_
           ·intro hc; try simp [-List.length_eq_zero_iff] at hc
            all_goals try (exfalso; first | omega | contradiction; done)
            all_goals (
             have hq6 : x.kind = 6 := by simpa using hc
             have harg2 := harg (by omega)
             rw [hq6] at harg2
             simp [lowA, highA] at harg2
             have hwn : IntKind.wrap .i64 (c.now + x.arg) = c.now + x.arg := wrap64 (by omega) (by omega)
             refine AW.thaw (nd := ?nd_5) (c := ?c_5) (l := ?l_5) (es := ?es_5) 1901 0 4 7002 ?h1_5 ?h2_5 ?h3_5 ?h45_5 ?kk_5
             (case h1_5 => exact rfl)
             (case h2_5 => exact rfl)
             (case h3_5 => exact rfl)
             (case h45_5 => simp [go_sem])
             refine rgE (fun _ => []) ?_
             intro k hk; simp -dsimp (maxSteps := 2000000) [go_sem, -decide_eq_true_eq, -decide_eq_false_iff_not, -List.map_set, set_I1, set_I1b, hac, hdc, hx, hx3, setA_vars, hwn]
             repeat' first | (refine Chk.keys ?_; simp only [go_sem, List.map_cons, List.map_nil, List.flatMap_cons, List.flatMap_nil, List.flatMap_append, List.append_nil, List.nil_append, List.cons_append]; decide +kernel) | apply And.intro | refine hk _ ?_ | intro hg | omega | exact True.intro
             all_goals clear hk k
             refine ⟨.intro, And.intro (.inl rfl) ?_⟩
             try (refine Gh.fold 1901 0 4 7002 rfl rfl rfl rfl (by simp [hdc]) (by decide) (by simp [go_sem]) ?_)
             refine Gh.done ?_
             first | (rw [go_off (by simpa using hc)]; simp [go_sem, Try.results22]; done) | (have h9 := go_seq (p := p) (f := f) (a := a) hs (by rw [hxn]; exact hq1); rw [h9]; simp [go_sem, Try.results22]; done) | (have h9 := go_and (p := p) (f := f) (a := a) hs (by rw [hxn]; exact hq4); rw [← goN_end (i := i) (by omega)] at h9; rw [h9]; simp [go_sem, Try.results22]; done) | (have h9 := go_xor (p := p) (f := f) (a := a) hs (by rw [hxn]; exact hq3); first | (rw [if_pos (by omega)] at h9; rw [h9]; simp [go_sem, Try.results22]; done) | (rw [if_neg (by omega)] at h9; rw [h9]; simp [go_sem, Try.results22]; done)) | (have h9 := go_guard (p := p) (f := f) (a := a) hs (by rw [hxn]; exact hq8); rw [hxn] at h9; rw [h9]; simp [go_sem, Try.results22]; done) | (have h9 := go_timer (p := p) (f := f) (a := a) hs (by rw [hxn]; exact hq6); rw [hxn] at h9; rw [h9]; simp [go_sem, Try.results22, setA, setD, -List.map_set, set_I1, set_I1b]; done) | (have h9 := go_set (p := p) (f := f) (a := a) hs (by rw [hxn]; exact hq7); rw [hxn, if_pos (show evalB x.expr c.vars = false by simpa using hc)] at h9; rw [h9]; simp [go_sem, Try.results22]; done) | (have h9 := go_set (p := p) (f := f) (a := a) hs (by rw [hxn]; exact hq7); rw [hxn, if_neg (show ¬ evalB x.expr c.vars = false by rw [hb]; decide)] at h9; rw [h9]; simp [go_sem, Try.results22]; done) | (rw [go_rest hs (by rw [hxn]; exact n1) (by rw [hxn]; exact n4) (by rw [hxn]; exact n3) (by rw [hxn]; exact n8) (by rw [hxn]; exact n6) (by rw [hxn]; simpa using hc)]; simp [go_sem, Try.results22, setA, -List.map_set, set_I1, set_I1b]))
           ·intro hc; try simp [-List.length_eq_zero_iff] at hc
            all_goals try (exfalso; first | omega | contradiction; done)
            all_goals (
             have n6 : x.kind ≠ 6 := by simpa using hc
             refine rg [0,1,2,109] ?_
             intro k hk; simp -dsimp [go_sem, -decide_eq_true_eq, -decide_eq_false_iff_not, -List.map_set, set_I1, set_I1b, hac, hdc, hx, hx3, setA_vars]
             repeat' first | apply And.intro | refine hk _ ?_ | intro hg | omega | exact True.intro
             all_goals clear hk k
             refine AW.cond rfl ?_ ?_
             ·intro hc; try simp [-List.length_eq_zero_iff] at hc
              all_goals try (exfalso; first | omega | contradiction; done)
              all_goals (
               have hq7 : x.kind = 7 := by simpa using hc
               have hg := hP.expr ha (by rw [hxn]; exact hq7)
               rw [hxn] at hg
               refine AW.thaw (nd := ?nd_6) (c := ?c_6) (l := ?l_6) (es := ?es_6) 1901 0 2 7003 ?h1_6 ?h2_6 ?h3_6 ?h45_6 ?kk_6
               (case h1_6 => exact rfl)
               (case h2_6 => exact rfl)
               (case h3_6 => exact rfl)
               (case h45_6 => simp [go_sem])
               refine rg [0,1,2,9,10] ?_
               intro k hk; simp -dsimp (maxSteps := 2000000) [go_sem, -decide_eq_true_eq, -decide_eq_false_iff_not, -List.map_set, set_I1, set_I1b, hac, hdc, hx, hx3, setA_vars]
               repeat' first | (refine Chk.keys ?_; simp only [go_sem, List.map_cons, List.map_nil, List.flatMap_cons, List.flatMap_nil, List.flatMap_append, List.append_nil, List.nil_append, List.cons_append]; decide +kernel) | apply And.intro | refine hk _ ?_ | intro hg | (refine CallK.intro (dc_spec_l3Eval x.expr c.vars hg.len hg.parts hg.ty hw.vars hw.small) ?_; simp -dsimp (maxSteps := 2000000) [go_sem, -decide_eq_true_eq, -decide_eq_false_iff_not, -List.map_set, set_I1, set_I1b, hac, hdc, hx, hx3, setA_vars]) | omega | exact True.intro
               all_goals clear hk k
               refine AW.seq ?_
               refine rg [0,1,2,9,125] ?_
               intro k hk; simp -dsimp [go_sem, -decide_eq_true_eq, -decide_eq_false_iff_not, -List.map_set, set_I1, set_I1b, hac, hdc, hx, hx3, setA_vars]
               repeat' first | apply And.intro | refine hk _ ?_ | intro hg | omega | exact True.intro
               all_goals clear hk k
               refine AW.cond rfl ?_ ?_
               ·intro hc; try simp [-List.length_eq_zero_iff] at hc
                all_goals try (exfalso; first | omega | contradiction; done)
                all_goals (
                 refine AW.fold (nd := ?nd_7) (c := ?c_7) (l := ?l_7) (es := ?es_7) (n := ?n_7) 1901 0 2 7003 ?h1_7 ?h2_7 ?h4_7 ?h3_7 ?hn_7 (by decide) ?h6_7 ?kk_7
                 (case h1_7 => exact rfl)
                 (case h2_7 => exact rfl)
                 (case h4_7 => exact rfl)
                 (case h3_7 => exact rfl)
                 (case hn_7 => simp [hac, hdc, hvc])
                 (case h6_7 => simp [go_sem, hac, hdc, hvc])
                 refine AW.reg tiOk (fun _ => [0]) [1] ?_
                 intro k hk; simp -dsimp (maxSteps := 2000000) [go_sem, -decide_eq_true_eq, -decide_eq_false_iff_not, -List.map_set, set_I1, set_I1b, hac, hdc, hx, hx3, setA_vars]
                 repeat' first | apply And.intro | refine hk _ ?_ | intro hg | (refine CallK.intro (dc_spec_l9End p hp (setA c (a : Int) 1) hw1 3) ?_; simp -dsimp (maxSteps := 2000000) [go_sem, -decide_eq_true_eq, -decide_eq_false_iff_not, -List.map_set, set_I1, set_I1b, hac, hdc, hx, hx3, setA_vars]) | omega | exact True.intro
                 all_goals clear hk k
                 refine AW.ret ⟨.inr rfl, ?_⟩
                 try (refine Gh.fold 1901 0 4 7002 rfl rfl rfl rfl (by simp [hdc]) (by decide) (by simp [go_sem]) ?_)
                 refine Gh.done ?_
                 first | (rw [go_off (by simpa using hc)]; simp [go_sem, Try.results22]; done) | (have h9 := go_seq (p := p) (f := f) (a := a) hs (by rw [hxn]; exact hq1); rw [h9]; simp [go_sem, Try.results22]; done) | (have h9 := go_and (p := p) (f := f) (a := a) hs (by rw [hxn]; exact hq4); rw [← goN_end (i := i) (by omega)] at h9; rw [h9]; simp [go_sem, Try.results22]; done) | (have h9 := go_xor (p := p) (f := f) (a := a) hs (by rw [hxn]; exact hq3); first | (rw [if_pos (by omega)] at h9; rw [h9]; simp [go_sem, Try.results22]; done) | (rw [if_neg (by omega)] at h9; rw [h9]; simp [go_sem, Try.results22]; done)) | (have h9 := go_guard (p := p) (f := f) (a := a) hs (by rw [hxn]; exact hq8); rw [hxn] at h9; rw [h9]; simp [go_sem, Try.results22]; done) | (have h9 := go_timer (p := p) (f := f) (a := a) hs (by rw [hxn]; exact hq6); rw [hxn] at h9; rw [h9]; simp [go_sem, Try.results22, setA, setD, -List.map_set, set_I1, set_I1b]; done) | (have h9 := go_set (p := p) (f := f) (a := a) hs (by rw [hxn]; exact hq7); rw [hxn, if_pos (show evalB x.expr c.vars = false by simpa using hc)] at h9; rw [h9]; simp [go_sem, Try.results22]; done) | (have h9 := go_set (p := p) (f := f) (a := a) hs (by rw [hxn]; exact hq7); rw [hxn, if_neg (show ¬ evalB x.expr c.vars = false by rw [hb]; decide)] at h9; rw [h9]; simp [go_sem, Try.results22]; done) | (rw [go_rest hs (by rw [hxn]; exact n1) (by rw [hxn]; exact n4) (by rw [hxn]; exact n3) (by rw [hxn]; exact n8) (by rw [hxn]; exact n6) (by rw [hxn]; simpa using hc)]; simp [go_sem, Try.results22, setA, -List.map_set, set_I1, set_I1b]))
               ·intro hc; try simp [-List.length_eq_zero_iff] at hc
                all_goals try (exfalso; first | omega | contradiction; done)
                all_goals (
                 refine AW.skipN (fun _ h => h) ?_
                 have hb : evalB x.expr c.vars = true := by simpa using hc
                 have harg2 := harg (by omega)
                 rw [hq7] at harg2
                 simp [lowA, highA] at harg2
                 refine rg [0,1,2] ?_
                 intro k hk; simp -dsimp (maxSteps := 2000000) [go_sem, -decide_eq_true_eq, -decide_eq_false_iff_not, -List.map_set, set_I1, set_I1b, hac, hdc, hx, hx3, setA_vars, hb, hvc]
                 repeat' first | (refine Chk.keys ?_; simp only [go_sem, List.map_cons, List.map_nil, List.flatMap_cons, List.flatMap_nil, List.flatMap_append, List.append_nil, List.nil_append, List.cons_append]; decide +kernel) | apply And.intro | refine hk _ ?_ | intro hg | omega | exact True.intro
                 all_goals clear hk k
                 refine AW.fold (nd := ?nd_8) (c := ?c_8) (l := ?l_8) (es := ?es_8) (n := ?n_8) 1901 0 2 7003 ?h1_8 ?h2_8 ?h4_8 ?h3_8 ?hn_8 (by decide) ?h6_8 ?kk_8
                 (case h1_8 => exact rfl)
                 (case h2_8 => exact rfl)
                 (case h4_8 => exact rfl)
                 (case h3_8 => exact rfl)
                 (case hn_8 => simp [hac, hdc, hvc])
                 (case h6_8 => simp [go_sem, hac, hdc, hvc])
                 refine rgE (fun _ => [1]) ?_
                 intro k hk; simp -dsimp (maxSteps := 2000000) [go_sem, -decide_eq_true_eq, -decide_eq_false_iff_not, -List.map_set, set_I1, set_I1b, hac, hdc, hx, hx3, setA_vars]
                 repeat' first | apply And.intro | refine hk _ ?_ | intro hg | (refine CallK.intro (hO (a : Int) (setV (setA c (a : Int) 1) x.arg (evalI x.expr c.vars)) (by omega) (by omega) (hw1.setV _ _ (evalI_small (by have := hg.len; omega) hb)) (by rw [Int.toNat_natCast]; exact hmo)) ?_; simp -dsimp (maxSteps := 2000000) [go_sem, -decide_eq_true_eq, -decide_eq_false_iff_not, -List.map_set, set_I1, set_I1b, hac, hdc, hx, hx3, setA_vars]) | omega | exact True.intro
                 all_goals clear hk k
                 refine ⟨.intro, And.intro (.inl rfl) ?_⟩
                 try (refine Gh.fold 1901 0 4 7002 rfl rfl rfl rfl (by simp [hdc]) (by decide) (by simp [go_sem]) ?_)
                 refine Gh.done ?_
                 first | (rw [go_off (by simpa using hc)]; simp [go_sem, Try.results22]; done) | (have h9 := go_seq (p := p) (f := f) (a := a) hs (by rw [hxn]; exact hq1); rw [h9]; simp [go_sem, Try.results22]; done) | (have h9 := go_and (p := p) (f := f) (a := a) hs (by rw [hxn]; exact hq4); rw [← goN_end (i := i) (by omega)] at h9; rw [h9]; simp [go_sem, Try.results22]; done) | (have h9 := go_xor (p := p) (f := f) (a := a) hs (by rw [hxn]; exact hq3); first | (rw [if_pos (by omega)] at h9; rw [h9]; simp [go_sem, Try.results22]; done) | (rw [if_neg (by omega)] at h9; rw [h9]; simp [go_sem, Try.results22]; done)) | (have h9 := go_guard (p := p) (f := f) (a := a) hs (by rw [hxn]; exact hq8); rw [hxn] at h9; rw [h9]; simp [go_sem, Try.results22]; done) | (have h9 := go_timer (p := p) (f := f) (a := a) hs (by rw [hxn]; exact hq6); rw [hxn] at h9; rw [h9]; simp [go_sem, Try.results22, setA, setD, -List.map_set, set_I1, set_I1b]; done) | (have h9 := go_set (p := p) (f := f) (a := a) hs (by rw [hxn]; exact hq7); rw [hxn, if_pos (show evalB x.expr c.vars = false by simpa using hc)] at h9; rw [h9]; simp [go_sem, Try.results22]; done) | (have h9 := go_set (p := p) (f := f) (a := a) hs (by rw [hxn]; exact hq7); rw [hxn, if_neg (show ¬ evalB x.expr c.vars = false by rw [hb]; decide)] at h9; rw [h9]; simp [go_sem, Try.results22]; done) | (rw [go_rest hs (by rw [hxn]; exact n1) (by rw [hxn]; exact n4) (by rw [hxn]; exact n3) (by rw [hxn]; exact n8) (by rw [hxn]; exact n6) (by rw [hxn]; simpa using hc)]; simp [go_sem, Try.results22, setA, -List.map_set, set_I1, set_I1b])))
             ·intro hc; try simp [-List.length_eq_zero_iff] at hc
              all_goals try (exfalso; first | omega | contradiction; done)
              all_goals (
               refine AW.skip ?_
               refine And.intro (.inl rfl) ?_
               try (refine Gh.fold 1901 0 4 7002 rfl rfl rfl rfl (by simp [hdc]) (by decide) (by simp [go_sem]) ?_)
               refine Gh.done ?_
               first | (rw [go_off (by simpa using hc)]; simp [go_sem, Try.results22]; done) | (have h9 := go_seq (p := p) (f := f) (a := a) hs (by rw [hxn]; exact hq1); rw [h9]; simp [go_sem, Try.results22]; done) | (have h9 := go_and (p := p) (f := f) (a := a) hs (by rw [hxn]; exact hq4); rw [← goN_end (i := i) (by omega)] at h9; rw [h9]; simp [go_sem, Try.results22]; done) | (have h9 := go_xor (p := p) (f := f) (a := a) hs (by rw [hxn]; exact hq3); first | (rw [if_pos (by omega)] at h9; rw [h9]; simp [go_sem, Try.results22]; done) | (rw [if_neg (by omega)] at h9; rw [h9]; simp [go_sem, Try.results22]; done)) | (have h9 := go_guard (p := p) (f := f) (a := a) hs (by rw [hxn]; exact hq8); rw [hxn] at h9; rw [h9]; simp [go_sem, Try.results22]; done) | (have h9 := go_timer (p := p) (f := f) (a := a) hs (by rw [hxn]; exact hq6); rw [hxn] at h9; rw [h9]; simp [go_sem, Try.results22, setA, setD, -List.map_set, set_I1, set_I1b]; done) | (have h9 := go_set (p := p) (f := f) (a := a) hs (by rw [hxn]; exact hq7); rw [hxn, if_pos (show evalB x.expr c.vars = false by simpa using hc)] at h9; rw [h9]; simp [go_sem, Try.results22]; done) | (have h9 := go_set (p := p) (f := f) (a := a) hs (by rw [hxn]; exact hq7); rw [hxn, if_neg (show ¬ evalB x.expr c.vars = false by rw [hb]; decide)] at h9; rw [h9]; simp [go_sem, Try.results22]; done) | (rw [go_rest hs (by rw [hxn]; exact n1) (by rw [hxn]; exact n4) (by rw [hxn]; exact n3) (by rw [hxn]; exact n8) (by rw [hxn]; exact n6) (by rw [hxn]; simpa using hc)]; simp [go_sem, Try.results22, setA, -List.map_set, set_I1, set_I1b]))))))))
end Go.AM
namespace Go.AM
open Go.Proofs
theorem dc_spec_l9After (p : List TStep) (hp : p.length ≤ 24) (hso : StepsOk p) (a : Nat) (ha : a < p.length) (h0 : 0 < a) : DC Try.prog 72 [.isl 6 (p.map TStep.ro), .int .i64 (a : Nat)] (.int .i64 (sib (pars p) a)) [] := by
 have hpl := pars_len p
 obtain ⟨x, hx⟩ := at_some ha
 have hxn := nS_at hx
 obtain ⟨j, hj⟩ := kids_has (p := p) (a := (nS p a).par) h0 ha (pars_get ha)
 have hjl := at_lt hj
 have hkl := kids_len p (nS p a).par
 rw [hxn] at hj hjl hkl
 have hp0 : (nS p 0).par ≠ x.par := by have h8 := hso.par0; have h9 := (hso.parI h0 ha).1; rw [hxn] at h9; omega
 refine DC.intro tiOk Try.func72 rfl rfl rfl rfl rfl rfl rfl rfl [] ?_
 refine rg [0,1] ?_
 intro k hk; simp -dsimp [go_sem, -decide_eq_true_eq, -decide_eq_false_iff_not, hx]
 repeat' first | apply And.intro | refine hk _ ?_ | intro hg | omega | exact True.intro
 all_goals clear hk k
 refine rg [1,5] ?_
 intro k hk; simp -dsimp (maxSteps := 2000000) [go_sem, -decide_eq_true_eq, -decide_eq_false_iff_not, hx]
 repeat' first | apply And.intro | refine hk _ ?_ | intro hg | (refine CallK.intro (dc_spec_l4Kids p x.par hp hp0) ?_; simp -dsimp (maxSteps := 2000000) [go_sem, -decide_eq_true_eq, -decide_eq_false_iff_not, hx]) | omega | exact True.intro
 all_goals clear hk k
 refine AW.seq ?_
 refine rg [1,5,6] ?_
 intro k hk; simp -dsimp [go_sem, -decide_eq_true_eq, -decide_eq_false_iff_not, hx]
 repeat' first | apply And.intro | refine hk _ ?_ | intro hg | omega | exact True.intro
 all_goals clear hk k
 refine AW.block ?_
 refine AW.loopI (fun i : Nat => ⟨32, [(1, .int .i64 (a : Nat)), (5, .sl 1013 1 0 (kids p x.par).length), (6, .int .i64 (i : Nat))], [(1013, some ⟨1, (kids p x.par).map I1⟩)]⟩) (fun i => i ≤ j) (fun i => j + 1 - i) (0) (Nat.zero_le _) (Less.of rfl (by simp [go_sem]) (by simp [go_sem])) ?_
 rintro i hi
 refine AW.seq ?_
 refine rg [1,5,6,18] ?_
 intro k hk; simp -dsimp [go_sem, -decide_eq_true_eq, -decide_eq_false_iff_not, hx]
 repeat' first | apply And.intro | refine hk _ ?_ | intro hg | omega | exact True.intro
 all_goals clear hk k
 refine AW.cond rfl ?_ ?_
 ·intro hc; try simp at hc
  all_goals try (exfalso; first | omega | contradiction; done)
  all_goals (
   have hw0 : IntKind.wrap .i64 ((i : Int) + 1) = (i : Int) + 1 := wrap64 (by omega) (by omega)
   have hlt : i + 1 < (kids p x.par).length := by first | omega | (simp [hw0] at hc; omega)
   obtain ⟨u, hu⟩ := at_some (l := kids p x.par) (i := i) (by omega)
   obtain ⟨v, hv⟩ := at_some (l := kids p x.par) (i := i + 1) hlt
   refine AW.skipN (fun _ h => h) ?_
   refine AW.seq ?_
   refine AW.block ?_
   refine rg [1,5,6,26] ?_
   intro k hk; simp -dsimp [go_sem, -decide_eq_true_eq, -decide_eq_false_iff_not, hx, hu, hv, hw0]
   repeat' first | apply And.intro | refine hk _ ?_ | intro hg | omega | exact True.intro
   all_goals clear hk k
   refine AW.cond rfl ?_ ?_
   ·intro hc; try simp at hc
    all_goals try (exfalso; first | omega | contradiction; done)
    all_goals (
     refine rg [4] ?_
     intro k hk; simp -dsimp [go_sem, -decide_eq_true_eq, -decide_eq_false_iff_not, hx, hu, hv, hw0]
     repeat' first | apply And.intro | refine hk _ ?_ | intro hg | omega | exact True.intro
     all_goals clear hk k
     refine rt ?_
     first | (have he : u = (a : Int) := (by first | omega | simpa using hc); rw [kids_next (by rw [← he]; exact hu) hv]; simp [go_sem, Try.results72]; done) | (have hw0 : IntKind.wrap .i64 ((i : Int) + 1) = (i : Int) + 1 := wrap64 (by omega) (by omega); rw [hw0] at hc; rw [kids_last hj (by omega)]; simp [go_sem, Try.results72]))
   ·intro hc; try simp at hc
    all_goals try (exfalso; first | omega | contradiction; done)
    all_goals (
     refine AW.skipN (fun _ h => h) ?_
     refine rgK ?_
     intro k hk; simp -dsimp [go_sem, -decide_eq_true_eq, -decide_eq_false_iff_not, hx, hu, hv, hw0]
     repeat' first | apply And.intro | refine hk _ ?_ | intro hg | omega | exact True.intro
     all_goals clear hk k
     show ∃ _, _
     have hne : i ≠ j := by rintro rfl; rw [hu] at hj; have h9 := Option.some.inj hj; first | omega | contradiction
     refine ⟨i + 1, by omega, by omega, Less.of rfl (by simp [go_sem, hw0]) (by simp [go_sem])⟩))
 ·intro hc; try simp at hc
  all_goals try (exfalso; first | omega | contradiction; done)
  all_goals (
   refine AW.exitN (fun _ h => h) ?_
   refine rg [4] ?_
   intro k hk; simp -dsimp [go_sem, -decide_eq_true_eq, -decide_eq_false_iff_not, hx]
   repeat' first | apply And.intro | refine hk _ ?_ | intro hg | omega | exact True.intro
   all_goals clear hk k
   refine rt ?_
   first | (have he : u = (a : Int) := (by first | omega | simpa using hc); rw [kids_next (by rw [← he]; exact hu) hv]; simp [go_sem, Try.results72]; done) | (have hw0 : IntKind.wrap .i64 ((i : Int) + 1) = (i : Int) + 1 := wrap64 (by omega) (by omega); rw [hw0] at hc; rw [kids_last hj (by omega)]; simp [go_sem, Try.results72]))
end Go.AM
namespace Go.AM
open Go.Proofs
theorem dc_spec_l9All (p : List TStep) (hp : p.length ≤ 24) (c : TChart) (hac : c.acts.length = p.length) (a : Int) (h0 : (nS p 0).par ≠ a) : DC Try.prog 73 [.isl 6 (p.map TStep.ro), .ip c.ro, .int .i64 a] (.bool ((kids p a).all fun k => decide (actA c k = 2))) [] := by
 have hkl := kids_len p a
 refine DC.intro tiOk Try.func73 rfl rfl rfl rfl rfl rfl rfl rfl [] ?_
 refine rgA [0,1,2] ?_
 refine rg [1,7] ?_
 intro k hk; simp -dsimp (maxSteps := 2000000) [go_sem, -decide_eq_true_eq, -decide_eq_false_iff_not]
 repeat' first | apply And.intro | refine hk _ ?_ | intro hg | (refine CallK.intro (dc_spec_l4Kids p a hp h0) ?_; simp -dsimp (maxSteps := 2000000) [go_sem, -decide_eq_true_eq, -decide_eq_false_iff_not]) | omega | exact True.intro
 all_goals clear hk k
 refine AW.seq ?_
 refine rgA [1,7,8] ?_
 refine AW.block ?_
 refine AW.loopI (fun i : Nat => ⟨29, [(1, .ip c.ro), (7, .sl 1011 1 0 (kids p a).length), (8, .int .i64 (i : Nat))], [(1011, some ⟨1, (kids p a).map I1⟩)]⟩) (fun i => i ≤ (kids p a).length ∧ ((kids p a).take i).all (fun k => decide (actA c k = 2)) = true) (fun i => (kids p a).length - i) (0) (by simp) (Less.of rfl (by simp [go_sem]) (by simp [go_sem])) ?_
 rintro i ⟨hi, hall⟩
 refine AW.seq ?_
 refine rgA [1,7,8,15] ?_
 refine AW.cond rfl ?_ ?_
 ·intro hc; try simp at hc
  all_goals (
   have hlt : i < (kids p a).length := by first | assumption | omega
   obtain ⟨u, hu⟩ := at_some hlt
   have hub := kids_bd (List.mem_of_getElem? hu)
   have hua := actA_at (c := c) (k := u) (by rw [hac]; exact hub.2)
   refine AW.skipN (fun _ h => h) ?_
   refine AW.seq ?_
   refine AW.block ?_
   refine rg [1,7,8,28] ?_
   intro k hk; simp -dsimp (maxSteps := 2000000) [go_sem, -decide_eq_true_eq, -decide_eq_false_iff_not, hu, hub.1, hub.2, hua]
   repeat' first | (refine Chk.keys ?_; simp only [go_sem, List.map_cons, List.map_nil, List.flatMap_cons, List.flatMap_nil, List.flatMap_append, List.append_nil, List.nil_append, List.cons_append]; decide +kernel) | apply And.intro | refine hk _ ?_ | intro hg | omega | exact True.intro
   all_goals clear hk k
   refine AW.cond rfl ?_ ?_
   ·intro hc; try simp at hc
    all_goals (
     refine rg [6] ?_
     intro k hk; simp -dsimp [go_sem, -decide_eq_true_eq, -decide_eq_false_iff_not, hu, hub.1, hub.2, hua]
     repeat' first | apply And.intro | refine hk _ ?_ | intro hg | omega | exact True.intro
     all_goals clear hk k
     refine rt ?_
     first | (have hf : ((kids p a).all fun k => decide (actA c k = 2)) = false := (by rw [List.all_eq_false]; exact ⟨u, List.mem_of_getElem? hu, by simpa using hc⟩); rw [hf]; simp [go_sem, Try.results73]; done) | (rw [List.take_of_length_le (by omega)] at hall; rw [hall]; simp [go_sem, Try.results73]))
   ·intro hc; try simp at hc
    all_goals (
     refine AW.skipN (fun _ h => h) ?_
     refine rgK ?_
     intro k hk; simp -dsimp [go_sem, -decide_eq_true_eq, -decide_eq_false_iff_not, hu, hub.1, hub.2, hua]
     repeat' first | apply And.intro | refine hk _ ?_ | intro hg | omega | exact True.intro
     all_goals clear hk k
     show ∃ _, _
     have hw := wrapi hlt (by omega)
     refine ⟨i + 1, ⟨by omega, by rw [all_take hu hall]; simpa using hc⟩, by omega, Less.of rfl (by simp [go_sem, hw]) (by simp [go_sem])⟩))
 ·intro hc; try simp at hc
  all_goals (
   refine AW.exitN (fun _ h => h) ?_
   refine rgA [6] ?_
   refine rt ?_
   first | (have hf : ((kids p a).all fun k => decide (actA c k = 2)) = false := (by rw [List.all_eq_false]; exact ⟨u, List.mem_of_getElem? hu, by simpa using hc⟩); rw [hf]; simp [go_sem, Try.results73]; done) | (rw [List.take_of_length_le (by omega)] at hall; rw [hall]; simp [go_sem, Try.results73]))
end Go.AM
namespace Go.AM
open Go.Proofs
theorem dc_spec_l9Idle (p : List TStep) (hp : p.length ≤ 24) (hl : PreOk (pars p)) (a : Nat) (ha : a < p.length) (c : TChart) (hw : WfC p c) : DC Try.prog 71 [.isl 6 (p.map TStep.ro), .op (crow c), .int .i64 (a : Nat)] (.tup []) [(1, .op (crow (idleF p a c)))] := by
 have hul := undL_len p a p.length
 refine DC.intro tiOk Try.func71 rfl rfl rfl rfl rfl rfl rfl (by simp [noW, noWo]) [] ?_
 refine rg [1,6] ?_
 intro k hk; simp -dsimp (maxSteps := 2000000) [go_sem, -decide_eq_true_eq, -decide_eq_false_iff_not]
 repeat' first | apply And.intro | refine hk _ ?_ | intro hg | (refine CallK.intro (dc_spec_l4Under p hp hl a ha) ?_; simp -dsimp (maxSteps := 2000000) [go_sem, -decide_eq_true_eq, -decide_eq_false_iff_not]) | omega | exact True.intro
 all_goals clear hk k
 refine rgA [1,6,7] ?_
 refine AW.block ?_
 refine AW.loopI (fun i : Nat => ⟨35, [(1, .ptr 1901 5 0 0), (6, .sl 1010 1 0 (undL p a p.length).length), (7, .int .i64 (i : Nat))], [(1010, some ⟨1, (undL p a p.length).map I1⟩), (1901, some ⟨5, [crow (idleN c (undL p a p.length) i)]⟩)]⟩) (fun i => i ≤ (undL p a p.length).length) (fun i => (undL p a p.length).length - i) (0) (Nat.zero_le _) (Less.of rfl (by simp [go_sem]) (by simp [go_sem, idleN_zero])) ?_
 rintro i hi
 refine AW.seq ?_
 refine rgA [1,6,7,14] ?_
 refine AW.cond rfl ?_ ?_
 ·intro hc; try simp at hc
  all_goals (
   have hlt : i < (undL p a p.length).length := by first | assumption | omega
   obtain ⟨x, hx⟩ := at_some hlt
   have hxb := undL_mem (List.mem_of_getElem? hx)
   have hst := idleN_step (c := c) hx
   have hwi := idleN_wf hw (undL p a p.length) i
   have hac := hwi.acts
   have hdc := hwi.dues
   have hx3 : ∀ h, (undL p a p.length)[i]'h = x := fun h => by have h9 := hx; rw [List.getElem?_eq_getElem h] at h9; exact Option.some.inj h9
   refine AW.skipN (fun _ h => h) ?_
   refine AW.seq ?_
   refine AW.block ?_
   refine AW.thaw (nd := ?nd_1) (c := ?c_1) (l := ?l_1) (es := ?es_1) 1901 0 3 7001 ?h1_1 ?h2_1 ?h3_1 ?h45_1 ?kk_1
   (case h1_1 => exact rfl)
   (case h2_1 => exact rfl)
   (case h3_1 => exact rfl)
   (case h45_1 => simp [go_sem])
   refine AW.thaw (nd := ?nd_2) (c := ?c_2) (l := ?l_2) (es := ?es_2) 1901 0 4 7002 ?h1_2 ?h2_2 ?h3_2 ?h45_2 ?kk_2
   (case h1_2 => exact rfl)
   (case h2_2 => exact rfl)
   (case h3_2 => exact rfl)
   (case h45_2 => simp [go_sem])
   refine rg [1,6,7] ?_
   intro k hk; simp -dsimp (maxSteps := 2000000) [go_sem, -decide_eq_true_eq, -decide_eq_false_iff_not, hx, hx3, hxb.1, hxb.2, hac, hdc]
   repeat' first | (refine Chk.keys ?_; simp only [go_sem, List.map_cons, List.map_nil, List.flatMap_cons, List.flatMap_nil, List.flatMap_append, List.append_nil, List.nil_append, List.cons_append]; decide +kernel) | apply And.intro | refine hk _ ?_ | intro hg | omega | exact True.intro
   all_goals clear hk k
   refine rgN [1,6,7] (fun _ h => h) ?_
   intro k hk; simp -dsimp (maxSteps := 2000000) [go_sem, -decide_eq_true_eq, -decide_eq_false_iff_not, hx, hx3, hxb.1, hxb.2, hac, hdc]
   repeat' first | (refine Chk.keys ?_; simp only [go_sem, List.map_cons, List.map_nil, List.flatMap_cons, List.flatMap_nil, List.flatMap_append, List.append_nil, List.nil_append, List.cons_append]; decide +kernel) | apply And.intro | refine hk _ ?_ | intro hg | omega | exact True.intro
   all_goals clear hk k
   refine AW.fold (nd := ?nd_3) (c := ?c_3) (l := ?l_3) (es := ?es_3) (n := ?n_3) 1901 0 3 7001 ?h1_3 ?h2_3 ?h4_3 ?h3_3 ?hn_3 (by decide) ?h6_3 ?kk_3
   (case h1_3 => exact rfl)
   (case h2_3 => exact rfl)
   (case h4_3 => exact rfl)
   (case h3_3 => exact rfl)
   (case hn_3 => simp [hac, hdc])
   (case h6_3 => simp [go_sem, hac, hdc])
   refine AW.fold (nd := ?nd_4) (c := ?c_4) (l := ?l_4) (es := ?es_4) (n := ?n_4) 1901 0 4 7002 ?h1_4 ?h2_4 ?h4_4 ?h3_4 ?hn_4 (by decide) ?h6_4 ?kk_4
   (case h1_4 => exact rfl)
   (case h2_4 => exact rfl)
   (case h4_4 => exact rfl)
   (case h3_4 => exact rfl)
   (case hn_4 => simp [hac, hdc])
   (case h6_4 => simp [go_sem, hac, hdc])
   refine rgK ?_
   intro k hk; simp -dsimp [go_sem, -decide_eq_true_eq, -decide_eq_false_iff_not, hx, hx3, hxb.1, hxb.2, hac, hdc]
   repeat' first | apply And.intro | refine hk _ ?_ | intro hg | omega | exact True.intro
   all_goals clear hk k
   show ∃ _, _
   have hww := wrapi hlt (by omega)
   refine ⟨i + 1, by omega, by omega, Less.of rfl (by simp [go_sem, hww]) (by rw [hst]; simp [go_sem, List.map_set])⟩)
 ·intro hc; try simp at hc
  all_goals (
   refine AW.exit ?_
   refine And.intro (.inl rfl) ?_
   rw [← idleN_end (c := c) (show (undL p a p.length).length ≤ i by omega)]; simp [go_sem, Try.results71])
end Go.AM
namespace Go.AM
open Go.Proofs
set_option maxHeartbeats 8000000 in
theorem dc_spec_l9Over (p : List TStep) (hP : ProcOk p) (f : Nat) (hE : ∀ (k : Int) (c : TChart), 0 ≤ k → k.toNat < p.length → WfC p c → mE (pars p) k.toNat ≤ f → DC Try.prog 22 [.isl 6 (p.map TStep.ro), .op (crow c), .int .i64 k] (.tup []) [(1, .op (crow (goF p f true k.toNat c)))]) (hO : ∀ (k : Int) (c : TChart), 0 ≤ k → k.toNat < p.length → WfC p c → mO (pars p) k.toNat ≤ f → DC Try.prog 46 [.isl 6 (p.map TStep.ro), .op (crow c), .int .i64 k] (.tup []) [(1, .op (crow (goF p f false k.toNat c)))]) (a : Nat) (ha : a < p.length) (c : TChart) (hw : WfC p c) (hm : mO (pars p) a ≤ f + 1) : DC Try.prog 46 [.isl 6 (p.map TStep.ro), .op (crow c), .int .i64 (a : Nat)] (.tup []) [(1, .op (crow (goF p (f + 1) false a c)))] := by
 have hp := hP.len.2
 have hpl := pars_len p
 obtain ⟨x, hx⟩ := at_some ha
 have hxn := nS_at hx
 have hx3 : ∀ h, p[a]'h = x := fun h => by have h9 := hx; rw [List.getElem?_eq_getElem h] at h9; exact Option.some.inj h9
 have hwi := hw.idle a
 have hac := hwi.acts
 have hdc := hwi.dues
 refine DC.introG tiOk Try.func46 rfl rfl rfl rfl rfl rfl rfl (by simp [noW, noWo]) [] ?_
 refine AW.reg tiOk (fun _ => [1]) [0,1,2] ?_
 intro k hk; simp -dsimp (maxSteps := 2000000) [go_sem, -decide_eq_true_eq, -decide_eq_false_iff_not, -List.map_set, set_I1, set_I1b, hac, hdc, hx, hx3]
 repeat' first | apply And.intro | refine hk _ ?_ | intro hg | (refine CallK.intro (dc_spec_l9Idle p hp hP.pre a ha c hw) ?_; simp -dsimp (maxSteps := 2000000) [go_sem, -decide_eq_true_eq, -decide_eq_false_iff_not, -List.map_set, set_I1, set_I1b, hac, hdc, hx, hx3]) | omega | exact True.intro
 all_goals clear hk k
 refine rg [0,1,2,6] ?_
 intro k hk; simp -dsimp [go_sem, -decide_eq_true_eq, -decide_eq_false_iff_not, -List.map_set, set_I1, set_I1b, hac, hdc, hx, hx3]
 repeat' first | apply And.intro | refine hk _ ?_ | intro hg | omega | exact True.intro
 all_goals clear hk k
 refine AW.seq ?_
 refine rg [0,1,2,6,18] ?_
 intro k hk; simp -dsimp [go_sem, -decide_eq_true_eq, -decide_eq_false_iff_not, -List.map_set, set_I1, set_I1b, hac, hdc, hx, hx3]
 repeat' first | apply And.intro | refine hk _ ?_ | intro hg | omega | exact True.intro
 all_goals clear hk k
 refine AW.cond rfl ?_ ?_
 ·intro hc; try simp [-List.length_eq_zero_iff] at hc
  all_goals try (exfalso; first | omega | contradiction; done)
  all_goals (
   have ha0 : a = 0 := by rcases Nat.eq_zero_or_pos a with h | h; exact h; have h9 := hP.parI h ha; rw [hxn] at h9; omega
   refine AW.reg tiOk (fun _ => [0]) [1] ?_
   intro k hk; simp -dsimp (maxSteps := 2000000) [go_sem, -decide_eq_true_eq, -decide_eq_false_iff_not, -List.map_set, set_I1, set_I1b, hac, hdc, hx, hx3]
   repeat' first | apply And.intro | refine hk _ ?_ | intro hg | (refine CallK.intro (dc_spec_l9End p hp (idleF p a c) hwi 2) ?_; simp -dsimp (maxSteps := 2000000) [go_sem, -decide_eq_true_eq, -decide_eq_false_iff_not, -List.map_set, set_I1, set_I1b, hac, hdc, hx, hx3]) | omega | exact True.intro
   all_goals clear hk k
   refine AW.ret ⟨.inr rfl, ?_⟩
   refine Gh.done ?_
   first | (obtain rfl : a = 0 := (by omega); rw [ov_top]; simp [go_sem, Try.results46]; done) | (rw [ov_next h0 (by rw [hnq]; exact hk1) hs0]; simp [go_sem, Try.results46]; done) | (rw [ov_seq h0 (by rw [hnq]; exact hk1) (by omega), hxn, hq]; simp [go_sem, Try.results46]; done) | (have h9 := ov_and (p := p) (f := f) (c := c) h0 (by rw [hnq]; exact hk4); rw [hxn, hq, Int.toNat_natCast] at h9; first | (rw [if_pos (by simpa using hc)] at h9; rw [h9]; simp [go_sem, Try.results46]; done) | (rw [if_neg (by simpa using hc)] at h9; rw [h9]; simp [go_sem, Try.results46, setA, -List.map_set, set_I1, set_I1b]; done)) | (rw [ov_rest h0 (by rw [hnq]; exact n1) (by rw [hnq]; simpa using hc), hxn, hq]; simp [go_sem, Try.results46]; done))
 ·intro hc; try simp [-List.length_eq_zero_iff] at hc
  all_goals try (exfalso; first | omega | contradiction; done)
  all_goals (
   refine AW.skipN (fun _ h => h) ?_
   refine AW.seq ?_
   have h0 : a ≠ 0 := by first | omega | (intro e; subst e; have h9 := hP.par0; rw [hxn] at h9; omega)
   have hpr := hP.parI (by omega) ha
   rw [hxn] at hpr
   obtain ⟨q, hq⟩ : ∃ q : Nat, x.par = q := ⟨_, (Int.toNat_of_nonneg hpr.1).symm⟩
   obtain ⟨y, hy⟩ := at_some (l := p) (i := q) (by omega)
   have hyn := nS_at hy
   have hy3 : ∀ h, p[q]'h = y := fun h => by have h9 := hy; rw [List.getElem?_eq_getElem h] at h9; exact Option.some.inj h9
   have hpq : (pars p).getD a 0 = (q : Int) := by rw [pars_get ha, hxn, hq]
   have hmq := mO_up hP.pre (by omega) hpq
   have hnq : nS p (nS p a).par.toNat = y := by rw [hxn, hq, Int.toNat_natCast]; exact hyn
   have hkl := kids_len p (q : Int)
   obtain ⟨j, hj⟩ := kids_has (p := p) (a := (q : Int)) (by omega) ha hpq
   have hjl := at_lt hj
   refine rg [0,1,2,6,25] ?_
   intro k hk; simp -dsimp [go_sem, -decide_eq_true_eq, -decide_eq_false_iff_not, -List.map_set, set_I1, set_I1b, hac, hdc, hx, hx3, hy, hy3, hq]
   repeat' first | apply And.intro | refine hk _ ?_ | intro hg | omega | exact True.intro
   all_goals clear hk k
   refine AW.block ?_
   refine rg [0,1,2,6,25,26] ?_
   intro k hk; simp -dsimp [go_sem, -decide_eq_true_eq, -decide_eq_false_iff_not, -List.map_set, set_I1, set_I1b, hac, hdc, hx, hx3]
   repeat' first | apply And.intro | refine hk _ ?_ | intro hg | omega | exact True.intro
   all_goals clear hk k
   refine AW.cond rfl ?_ ?_
   ·intro hc; try simp [-List.length_eq_zero_iff] at hc
    all_goals try (exfalso; first | omega | contradiction; done)
    all_goals (
     have hk1 : y.kind = 1 := by simpa using hc
     refine rg [0,1,6,7] ?_
     intro k hk; simp -dsimp (maxSteps := 2000000) [go_sem, -decide_eq_true_eq, -decide_eq_false_iff_not, -List.map_set, set_I1, set_I1b, hac, hdc, hx, hx3]
     repeat' first | apply And.intro | refine hk _ ?_ | intro hg | (refine CallK.intro (dc_spec_l9After p hp hP.steps' a ha (by omega)) ?_; simp -dsimp (maxSteps := 2000000) [go_sem, -decide_eq_true_eq, -decide_eq_false_iff_not, -List.map_set, set_I1, set_I1b, hac, hdc, hx, hx3]) | omega | exact True.intro
     all_goals clear hk k
     refine rg [0,1,6,7,32] ?_
     intro k hk; simp -dsimp [go_sem, -decide_eq_true_eq, -decide_eq_false_iff_not, -List.map_set, set_I1, set_I1b, hac, hdc, hx, hx3]
     repeat' first | apply And.intro | refine hk _ ?_ | intro hg | omega | exact True.intro
     all_goals clear hk k
     refine AW.cond rfl ?_ ?_
     ·intro hc; try simp [-List.length_eq_zero_iff] at hc
      all_goals try (exfalso; first | omega | contradiction; done)
      all_goals (
       have hs0 : 0 ≤ sib (pars p) a := by first | omega | simpa using hc
       obtain ⟨s, hs1, hs3⟩ : ∃ s : Nat, sib (pars p) a = s ∧ s < (pars p).length := by (rcases sib_ok (pars p) a with h | ⟨s, h1, h2, h3, _⟩; exact absurd h.1 (by omega); exact ⟨s, h1, h3⟩)
       refine AW.reg tiOk (fun _ => [1]) [1] ?_
       intro k hk; simp -dsimp (maxSteps := 2000000) [go_sem, -decide_eq_true_eq, -decide_eq_false_iff_not, -List.map_set, set_I1, set_I1b, hac, hdc, hx, hx3]
       repeat' first | apply And.intro | refine hk _ ?_ | intro hg | (refine CallK.intro (hE (sib (pars p) a) (idleF p a c) hs0 (by rw [hs1, Int.toNat_natCast]; omega) hwi (by have h7 := mO_next hs1; rw [hs1, Int.toNat_natCast]; omega)) ?_; simp -dsimp (maxSteps := 2000000) [go_sem, -decide_eq_true_eq, -decide_eq_false_iff_not, -List.map_set, set_I1, set_I1b, hac, hdc, hx, hx3]) | omega | exact True.intro
       all_goals clear hk k
       refine AW.ret ⟨.inr rfl, ?_⟩
       refine Gh.done ?_
       first | (obtain rfl : a = 0 := (by omega); rw [ov_top]; simp [go_sem, Try.results46]; done) | (rw [ov_next h0 (by rw [hnq]; exact hk1) hs0]; simp [go_sem, Try.results46]; done) | (rw [ov_seq h0 (by rw [hnq]; exact hk1) (by omega), hxn, hq]; simp [go_sem, Try.results46]; done) | (have h9 := ov_and (p := p) (f := f) (c := c) h0 (by rw [hnq]; exact hk4); rw [hxn, hq, Int.toNat_natCast] at h9; first | (rw [if_pos (by simpa using hc)] at h9; rw [h9]; simp [go_sem, Try.results46]; done) | (rw [if_neg (by simpa using hc)] at h9; rw [h9]; simp [go_sem, Try.results46, setA, -List.map_set, set_I1, set_I1b]; done)) | (rw [ov_rest h0 (by rw [hnq]; exact n1) (by rw [hnq]; simpa using hc), hxn, hq]; simp [go_sem, Try.results46]; done))
     ·intro hc; try simp [-List.length_eq_zero_iff] at hc
      all_goals try (exfalso; first | omega | contradiction; done)
      all_goals (
       refine AW.skipN (fun _ h => h) ?_
       refine rgE (fun _ => [1]) ?_
       intro k hk; simp -dsimp (maxSteps := 2000000) [go_sem, -decide_eq_true_eq, -decide_eq_false_iff_not, -List.map_set, set_I1, set_I1b, hac, hdc, hx, hx3, hq]
       repeat' first | apply And.intro | refine hk _ ?_ | intro hg | ((first | refine CallK.intro (hO (q : Int) (idleF p a c) (by omega) (by omega) hwi (by rw [Int.toNat_natCast]; omega)) ?_ | refine CallK.intro (hO (q : Int) (setA (idleF p a c) (a : Int) 2) (by omega) (by omega) (hwi.setA _ _) (by rw [Int.toNat_natCast]; omega)) ?_); simp -dsimp (maxSteps := 2000000) [go_sem, -decide_eq_true_eq, -decide_eq_false_iff_not, -List.map_set, set_I1, set_I1b, hac, hdc, hx, hx3, hq]) | omega | exact True.intro
       all_goals clear hk k
       refine ⟨.intro, And.intro (.inl rfl) ?_⟩
       refine Gh.done ?_
       first | (obtain rfl : a = 0 := (by omega); rw [ov_top]; simp [go_sem, Try.results46]; done) | (rw [ov_next h0 (by rw [hnq]; exact hk1) hs0]; simp [go_sem, Try.results46]; done) | (rw [ov_seq h0 (by rw [hnq]; exact hk1) (by omega), hxn, hq]; simp [go_sem, Try.results46]; done) | (have h9 := ov_and (p := p) (f := f) (c := c) h0 (by rw [hnq]; exact hk4); rw [hxn, hq, Int.toNat_natCast] at h9; first | (rw [if_pos (by simpa using hc)] at h9; rw [h9]; simp [go_sem, Try.results46]; done) | (rw [if_neg (by simpa using hc)] at h9; rw [h9]; simp [go_sem, Try.results46, setA, -List.map_set, set_I1, set_I1b]; done)) | (rw [ov_rest h0 (by rw [hnq]; exact n1) (by rw [hnq]; simpa using hc), hxn, hq]; simp [go_sem, Try.results46]; done)))
   ·intro hc; try simp [-List.length_eq_zero_iff] at hc
    all_goals try (exfalso; first | omega | contradiction; done)
    all_goals (
     have n1 : y.kind ≠ 1 := by simpa using hc
     refine rg [0,1,2,6,37] ?_
     intro k hk; simp -dsimp [go_sem, -decide_eq_true_eq, -decide_eq_false_iff_not, -List.map_set, set_I1, set_I1b, hac, hdc, hx, hx3]
     repeat' first | apply And.intro | refine hk _ ?_ | intro hg | omega | exact True.intro
     all_goals clear hk k
     refine AW.cond rfl ?_ ?_
     ·intro hc; try simp [-List.length_eq_zero_iff] at hc
      all_goals try (exfalso; first | omega | contradiction; done)
      all_goals (
       have hk4 : y.kind = 4 := by simpa using hc
       refine AW.thaw (nd := ?nd_1) (c := ?c_1) (l := ?l_1) (es := ?es_1) 1901 0 3 7001 ?h1_1 ?h2_1 ?h3_1 ?h45_1 ?kk_1
       (case h1_1 => exact rfl)
       (case h2_1 => exact rfl)
       (case h3_1 => exact rfl)
       (case h45_1 => simp [go_sem])
       refine rg [0,1,6] ?_
       intro k hk; simp -dsimp (maxSteps := 2000000) [go_sem, -decide_eq_true_eq, -decide_eq_false_iff_not, -List.map_set, set_I1, set_I1b, hac, hdc, hx, hx3]
       repeat' first | apply And.intro | refine hk _ ?_ | intro hg | omega | exact True.intro
       all_goals clear hk k
       refine AW.fold (nd := ?nd_2) (c := ?c_2) (l := ?l_2) (es := ?es_2) (n := ?n_2) 1901 0 3 7001 ?h1_2 ?h2_2 ?h4_2 ?h3_2 ?hn_2 (by decide) ?h6_2 ?kk_2
       (case h1_2 => exact rfl)
       (case h2_2 => exact rfl)
       (case h4_2 => exact rfl)
       (case h3_2 => exact rfl)
       (case hn_2 => simp [hac, hdc])
       (case h6_2 => simp [go_sem, hac, hdc])
       refine rg [0,1,6,49] ?_
       intro k hk; simp -dsimp (maxSteps := 2000000) [go_sem, -decide_eq_true_eq, -decide_eq_false_iff_not, -List.map_set, set_I1, set_I1b, hac, hdc, hx, hx3, hq]
       repeat' first | apply And.intro | refine hk _ ?_ | intro hg | (refine CallK.intro (dc_spec_l9All p hp (setA (idleF p a c) (a : Int) 2) (by rw [(hwi.setA (a : Int) 2).acts]) (q : Int) (by rw [hP.par0]; omega)) ?_; simp -dsimp (maxSteps := 2000000) [go_sem, -decide_eq_true_eq, -decide_eq_false_iff_not, -List.map_set, set_I1, set_I1b, hac, hdc, hx, hx3, hq]) | omega | exact True.intro
       all_goals clear hk k
       refine AW.cond rfl ?_ ?_
       ·intro hc; try simp [-List.length_eq_zero_iff] at hc
        all_goals try (exfalso; first | omega | contradiction; done)
        all_goals (
         refine AW.ret ⟨.inr rfl, ?_⟩
         refine Gh.done ?_
         first | (obtain rfl : a = 0 := (by omega); rw [ov_top]; simp [go_sem, Try.results46]; done) | (rw [ov_next h0 (by rw [hnq]; exact hk1) hs0]; simp [go_sem, Try.results46]; done) | (rw [ov_seq h0 (by rw [hnq]; exact hk1) (by omega), hxn, hq]; simp [go_sem, Try.results46]; done) | (have h9 := ov_and (p := p) (f := f) (c := c) h0 (by rw [hnq]; exact hk4); rw [hxn, hq, Int.toNat_natCast] at h9; first | (rw [if_pos (by simpa using hc)] at h9; rw [h9]; simp [go_sem, Try.results46]; done) | (rw [if_neg (by simpa using hc)] at h9; rw [h9]; simp [go_sem, Try.results46, setA, -List.map_set, set_I1, set_I1b]; done)) | (rw [ov_rest h0 (by rw [hnq]; exact n1) (by rw [hnq]; simpa using hc), hxn, hq]; simp [go_sem, Try.results46]; done))
       ·intro hc; try simp [-List.length_eq_zero_iff] at hc
        all_goals try (exfalso; first | omega | contradiction; done)
        all_goals (
         refine AW.skipN (fun _ h => h) ?_
         refine rgE (fun _ => [1]) ?_
         intro k hk; simp -dsimp (maxSteps := 2000000) [go_sem, -decide_eq_true_eq, -decide_eq_false_iff_not, -List.map_set, set_I1, set_I1b, hac, hdc, hx, hx3, hq]
         repeat' first | apply And.intro | refine hk _ ?_ | intro hg | ((first | refine CallK.intro (hO (q : Int) (idleF p a c) (by omega) (by omega) hwi (by rw [Int.toNat_natCast]; omega)) ?_ | refine CallK.intro (hO (q : Int) (setA (idleF p a c) (a : Int) 2) (by omega) (by omega) (hwi.setA _ _) (by rw [Int.toNat_natCast]; omega)) ?_); simp -dsimp (maxSteps := 2000000) [go_sem, -decide_eq_true_eq, -decide_eq_false_iff_not, -List.map_set, set_I1, set_I1b, hac, hdc, hx, hx3, hq]) | omega | exact True.intro
         all_goals clear hk k
         refine ⟨.intro, And.intro (.inl rfl) ?_⟩
         refine Gh.done ?_
         first | (obtain rfl : a = 0 := (by omega); rw [ov_top]; simp [go_sem, Try.results46]; done) | (rw [ov_next h0 (by rw [hnq]; exact hk1) hs0]; simp [go_sem, Try.results46]; done) | (rw [ov_seq h0 (by rw [hnq]; exact hk1) (by omega), hxn, hq]; simp [go_sem, Try.results46]; done) | (have h9 := ov_and (p := p) (f := f) (c := c) h0 (by rw [hnq]; exact hk4); rw [hxn, hq, Int.toNat_natCast] at h9; first | (rw [if_pos (by simpa using hc)] at h9; rw [h9]; simp [go_sem, Try.results46]; done) | (rw [if_neg (by simpa using hc)] at h9; rw [h9]; simp [go_sem, Try.results46, setA, -List.map_set, set_I1, set_I1b]; done)) | (rw [ov_rest h0 (by rw [hnq]; exact n1) (by rw [hnq]; simpa using hc), hxn, hq]; simp [go_sem, Try.results46]; done)))
     ·intro hc; try simp [-List.length_eq_zero_iff] at hc
      all_goals try (exfalso; first | omega | contradiction; done)
      all_goals (
       refine AW.skipN (fun _ h => h) ?_
       refine rgE (fun _ => [1]) ?_
       intro k hk; simp -dsimp (maxSteps := 2000000) [go_sem, -decide_eq_true_eq, -decide_eq_false_iff_not, -List.map_set, set_I1, set_I1b, hac, hdc, hx, hx3, hq]
       repeat' first | apply And.intro | refine hk _ ?_ | intro hg | ((first | refine CallK.intro (hO (q : Int) (idleF p a c) (by omega) (by omega) hwi (by rw [Int.toNat_natCast]; omega)) ?_ | refine CallK.intro (hO (q : Int) (setA (idleF p a c) (a : Int) 2) (by omega) (by omega) (hwi.setA _ _) (by rw [Int.toNat_natCast]; omega)) ?_); simp -dsimp (maxSteps := 2000000) [go_sem, -decide_eq_true_eq, -decide_eq_false_iff_not, -List.map_set, set_I1, set_I1b, hac, hdc, hx, hx3, hq]) | omega | exact True.intro
       all_goals clear hk k
       refine ⟨.intro, And.intro (.inl rfl) ?_⟩
       refine Gh.done ?_
       first | (obtain rfl : a = 0 := (by omega); rw [ov_top]; simp [go_sem, Try.results46]; done) | (rw [ov_next h0 (by rw [hnq]; exact hk1) hs0]; simp [go_sem, Try.results46]; done) | (rw [ov_seq h0 (by rw [hnq]; exact hk1) (by omega), hxn, hq]; simp [go_sem, Try.results46]; done) | (have h9 := ov_and (p := p) (f := f) (c := c) h0 (by rw [hnq]; exact hk4); rw [hxn, hq, Int.toNat_natCast] at h9; first | (rw [if_pos (by simpa using hc)] at h9; rw [h9]; simp [go_sem, Try.results46]; done) | (rw [if_neg (by simpa using hc)] at h9; rw [h9]; simp [go_sem, Try.results46, setA, -List.map_set, set_I1, set_I1b]; done)) | (rw [ov_rest h0 (by rw [hnq]; exact n1) (by rw [hnq]; simpa using hc), hxn, hq]; simp [go_sem, Try.results46]; done))))
end Go.AM
namespace Go.AM
open Go.Proofs
theorem dc_go_impl (p : List TStep) (hP : ProcOk p) : ∀ f : Nat, (∀ (k : Int) (c : TChart), 0 ≤ k → k.toNat < p.length → WfC p c → mE (pars p) k.toNat ≤ f → DC Try.prog 30 [.op (brow p c), .int .i64 k] (.tup []) [(0, .op (brow p (goF p f true k.toNat c)))]) ∧
    (∀ (k : Int) (c : TChart), 0 ≤ k → k.toNat < p.length → WfC p c → mO (pars p) k.toNat ≤ f → DC Try.prog 58 [.op (brow p c), .int .i64 k] (.tup []) [(0, .op (brow p (goF p f false k.toNat c)))]) := by
 intro f
 induction f with
 | zero =>
  refine ⟨fun k c h0 hk hw hm => ?_, fun k c h0 hk hw hm => ?_⟩
  · exfalso; unfold mE at hm; rw [pars_len] at hm; omega
  · exfalso; unfold mO at hm; omega
 | succ f ih =>
  refine ⟨fun k c h0 hk hw hm => ?_, fun k c h0 hk hw hm => ?_⟩
  · obtain ⟨a, rfl⟩ : ∃ a : Nat, k = a := ⟨_, (Int.toNat_of_nonneg h0).symm⟩
    rw [Int.toNat_natCast] at hk hm ⊢
    exact dc_impl_board_enter p hP f ih.1 ih.2 a hk c hw hm
  · obtain ⟨a, rfl⟩ : ∃ a : Nat, k = a := ⟨_, (Int.toNat_of_nonneg h0).symm⟩
    rw [Int.toNat_natCast] at hk hm ⊢
    exact dc_impl_board_over p hP f ih.1 ih.2 a hk c hw hm
theorem dc_enter_impl (p : List TStep) (hP : ProcOk p) (k : Int) (c : TChart) (h0 : 0 ≤ k) (hk : k.toNat < p.length) (hw : WfC p c) : DC Try.prog 30 [.op (brow p c), .int .i64 k] (.tup []) [(0, .op (brow p (goF p 800 true k.toNat c)))] :=
 (dc_go_impl p hP 800).1 k c h0 hk hw (mE_bd (by rw [pars_len]; exact hP.len.2))
theorem dc_go_spec (p : List TStep) (hP : ProcOk p) : ∀ f : Nat, (∀ (k : Int) (c : TChart), 0 ≤ k → k.toNat < p.length → WfC p c → mE (pars p) k.toNat ≤ f → DC Try.prog 22 [.isl 6 (p.map TStep.ro), .op (crow c), .int .i64 k] (.tup []) [(1, .op (crow (goF p f true k.toNat c)))]) ∧
    (∀ (k : Int) (c : TChart), 0 ≤ k → k.toNat < p.length → WfC p c → mO (pars p) k.toNat ≤ f → DC Try.prog 46 [.isl 6 (p.map TStep.ro), .op (crow c), .int .i64 k] (.tup []) [(1, .op (crow (goF p f false k.toNat c)))]) := by
 intro f
 induction f with
 | zero =>
  refine ⟨fun k c h0 hk hw hm => ?_, fun k c h0 hk hw hm => ?_⟩
  · exfalso; unfold mE at hm; rw [pars_len] at hm; omega
  · exfalso; unfold mO at hm; omega
 | succ f ih =>
  refine ⟨fun k c h0 hk hw hm => ?_, fun k c h0 hk hw hm => ?_⟩
  · obtain ⟨a, rfl⟩ : ∃ a : Nat, k = a := ⟨_, (Int.toNat_of_nonneg h0).symm⟩
    rw [Int.toNat_natCast] at hk hm ⊢
    exact dc_spec_l9Enter p hP f ih.1 ih.2 a hk c hw hm
  · obtain ⟨a, rfl⟩ : ∃ a : Nat, k = a := ⟨_, (Int.toNat_of_nonneg h0).symm⟩
    rw [Int.toNat_natCast] at hk hm ⊢
    exact dc_spec_l9Over p hP f ih.1 ih.2 a hk c hw hm
theorem dc_enter_spec (p : List TStep) (hP : ProcOk p) (k : Int) (c : TChart) (h0 : 0 ≤ k) (hk : k.toNat < p.length) (hw : WfC p c) : DC Try.prog 22 [.isl 6 (p.map TStep.ro), .op (crow c), .int .i64 k] (.tup []) [(1, .op (crow (goF p 800 true k.toNat c)))] :=
 (dc_go_spec p hP 800).1 k c h0 hk hw (mE_bd (by rw [pars_len]; exact hP.len.2))
end Go.AM
namespace Go.AM
theorem wf_new {p : List TStep} {now : Int} {v : List Int} (hv : varsF v = 0) (hn : inR now 0 1000000 = true) : WfC p ⟨1, now, v, List.replicate p.length 0, List.replicate p.length 0⟩ := ⟨by simp, by simp, (varsOk hv).1, (varsOk hv).2, hn⟩
end Go.AM
namespace Go.AM
open Go.Proofs
theorem dc_begin_impl (p : List TStep) (hP : ProcOk p) (v : List Int) (now : Int) (hw : WfC p (⟨1, now, v, List.replicate p.length 0, List.replicate p.length 0⟩ : TChart)) : DC Try.prog 30 [.op [.isl 6 (p.map TStep.ro), .int .i64 1, .int .i64 now, .osl 1 (v.map I1), .osl 1 (List.replicate p.length [.int .i64 0]), .osl 1 (List.replicate p.length [.int .i64 0])], .int .i64 0] (.tup []) [(0, .op (brow p (goF p 800 true 0 (⟨1, now, v, List.replicate p.length 0, List.replicate p.length 0⟩ : TChart))))] := by
 have h := dc_enter_impl p hP 0 (⟨1, now, v, List.replicate p.length 0, List.replicate p.length 0⟩ : TChart) (by omega) (by have := hP.len; simp; omega) hw
 rw [zset]
 exact h
set_option maxHeartbeats 4000000 in
theorem dc_impl_StartChart_bad1 (p : List TStep) (hp : p.length ≤ 9223372036854775807) (hg : ∀ e ∈ p, e.gok) (v : List Int) (gv : v.length ≤ 9223372036854775807) (now : Int) (h1 : procF p ≠ 0) : DC Try.prog 8 [.isl 6 (p.map TStep.ro), .isl 1 (v.map I1), .int .i64 now] (.agg [.int .i64 (procF p), .int .i64 0, .int .i64 0, .isl 1 [], .isl 1 [], .isl 1 []]) [] := by
 refine DC.intro tiOk Try.func8 rfl rfl rfl rfl rfl rfl rfl rfl [1000] ?_
 refine rg [0,1,2,6] ?_
 intro k hk; simp -dsimp [go_sem, -decide_eq_true_eq, -decide_eq_false_iff_not, h1, firstC_cons, firstC_nil]
 repeat' first | apply And.intro | refine hk _ ?_ | intro hg | omega | exact True.intro
 all_goals clear hk k
 refine AW.seq ?_
 refine rg [0,1,2,6,7] ?_
 intro k hk; simp -dsimp (maxSteps := 2000000) [go_sem, -decide_eq_true_eq, -decide_eq_false_iff_not, h1, firstC_cons, firstC_nil]
 repeat' first | apply And.intro | refine hk _ ?_ | intro hg | ((first | refine CallK.intro (dc_impl_ProcFault p hp hg) ?_ | refine CallK.intro (dc_impl_VarsFault v gv) ?_ | refine CallK.intro (dc_impl_isTime _) ?_ | refine CallK.intro (dc_impl_codeIf _ _) ?_ | refine CallK.intro (dc_impl_firstCode [_, _] (by simp)) ?_ | refine CallK.intro (dc_impl_firstCode [_, _, _] (by simp)) ?_ | refine CallK.intro (dc_impl_firstCode [_, _, _, _] (by simp)) ?_); simp -dsimp (maxSteps := 2000000) [go_sem, -decide_eq_true_eq, -decide_eq_false_iff_not, h1, firstC_cons, firstC_nil]) | omega | exact True.intro
 all_goals clear hk k
 refine rg [0,1,2,6,7,20] ?_
 intro k hk; simp -dsimp [go_sem, -decide_eq_true_eq, -decide_eq_false_iff_not, h1, firstC_cons, firstC_nil]
 repeat' first | apply And.intro | refine hk _ ?_ | intro hg | omega | exact True.intro
 all_goals clear hk k
 refine AW.cond rfl ?_ ?_
 ·intro hc; try simp [h1] at hc
  all_goals try (exfalso; first | omega | contradiction | (simp_all; done); done)
  all_goals (
   refine rg [6] ?_
   intro k hk; simp -dsimp [go_sem, -decide_eq_true_eq, -decide_eq_false_iff_not, h1, firstC_cons, firstC_nil]
   repeat' first | apply And.intro | refine hk _ ?_ | intro hg | omega | exact True.intro
   all_goals clear hk k
   refine rt ?_
   simp [go_sem, Try.results8, h1])
 ·intro hc; try simp [h1] at hc
  all_goals try (exfalso; first | omega | contradiction | (simp_all; done); done)
  all_goals (
   refine AW.skipN (fun _ h => h) ?_
   skip)
set_option maxHeartbeats 4000000 in
theorem dc_impl_StartChart_bad2 (p : List TStep) (hp : p.length ≤ 9223372036854775807) (hg : ∀ e ∈ p, e.gok) (v : List Int) (gv : v.length ≤ 9223372036854775807) (now : Int) (h1 : procF p = 0) (h2 : varsF v ≠ 0) : DC Try.prog 8 [.isl 6 (p.map TStep.ro), .isl 1 (v.map I1), .int .i64 now] (.agg [.int .i64 (varsF v), .int .i64 0, .int .i64 0, .isl 1 [], .isl 1 [], .isl 1 []]) [] := by
 refine DC.intro tiOk Try.func8 rfl rfl rfl rfl rfl rfl rfl rfl [1000] ?_
 refine rg [0,1,2,6] ?_
 intro k hk; simp -dsimp [go_sem, -decide_eq_true_eq, -decide_eq_false_iff_not, h1, h2, firstC_cons, firstC_nil]
 repeat' first | apply And.intro | refine hk _ ?_ | intro hg | omega | exact True.intro
 all_goals clear hk k
 refine AW.seq ?_
 refine rg [0,1,2,6,7] ?_
 intro k hk; simp -dsimp (maxSteps := 2000000) [go_sem, -decide_eq_true_eq, -decide_eq_false_iff_not, h1, h2, firstC_cons, firstC_nil]
 repeat' first | apply And.intro | refine hk _ ?_ | intro hg | ((first | refine CallK.intro (dc_impl_ProcFault p hp hg) ?_ | refine CallK.intro (dc_impl_VarsFault v gv) ?_ | refine CallK.intro (dc_impl_isTime _) ?_ | refine CallK.intro (dc_impl_codeIf _ _) ?_ | refine CallK.intro (dc_impl_firstCode [_, _] (by simp)) ?_ | refine CallK.intro (dc_impl_firstCode [_, _, _] (by simp)) ?_ | refine CallK.intro (dc_impl_firstCode [_, _, _, _] (by simp)) ?_); simp -dsimp (maxSteps := 2000000) [go_sem, -decide_eq_true_eq, -decide_eq_false_iff_not, h1, h2, firstC_cons, firstC_nil]) | omega | exact True.intro
 all_goals clear hk k
 refine rg [0,1,2,6,7,20] ?_
 intro k hk; simp -dsimp [go_sem, -decide_eq_true_eq, -decide_eq_false_iff_not, h1, h2, firstC_cons, firstC_nil]
 repeat' first | apply And.intro | refine hk _ ?_ | intro hg | omega | exact True.intro
 all_goals clear hk k
 refine AW.cond rfl ?_ ?_
 ·intro hc; try simp [h1, h2] at hc
  all_goals try (exfalso; first | omega | contradiction | (simp_all; done); done)
  all_goals (
   refine rg [6] ?_
   intro k hk; simp -dsimp [go_sem, -decide_eq_true_eq, -decide_eq_false_iff_not, h1, h2, firstC_cons, firstC_nil]
   repeat' first | apply And.intro | refine hk _ ?_ | intro hg | omega | exact True.intro
   all_goals clear hk k
   refine rt ?_
   simp [go_sem, Try.results8, h1, h2])
 ·intro hc; try simp [h1, h2] at hc
  all_goals try (exfalso; first | omega | contradiction | (simp_all; done); done)
  all_goals (
   refine AW.skipN (fun _ h => h) ?_
   skip)
set_option maxHeartbeats 4000000 in
theorem dc_impl_StartChart_bad3 (p : List TStep) (hp : p.length ≤ 9223372036854775807) (hg : ∀ e ∈ p, e.gok) (v : List Int) (gv : v.length ≤ 9223372036854775807) (now : Int) (h1 : procF p = 0) (h2 : varsF v = 0) (h3 : inR now 0 1000000 = false) : DC Try.prog 8 [.isl 6 (p.map TStep.ro), .isl 1 (v.map I1), .int .i64 now] (.agg [.int .i64 3, .int .i64 0, .int .i64 0, .isl 1 [], .isl 1 [], .isl 1 []]) [] := by
 refine DC.intro tiOk Try.func8 rfl rfl rfl rfl rfl rfl rfl rfl [1000] ?_
 refine rg [0,1,2,6] ?_
 intro k hk; simp -dsimp [go_sem, -decide_eq_true_eq, -decide_eq_false_iff_not, h1, h2, h3, firstC_cons, firstC_nil]
 repeat' first | apply And.intro | refine hk _ ?_ | intro hg | omega | exact True.intro
 all_goals clear hk k
 refine AW.seq ?_
 refine rg [0,1,2,6,7] ?_
 intro k hk; simp -dsimp (maxSteps := 2000000) [go_sem, -decide_eq_true_eq, -decide_eq_false_iff_not, h1, h2, h3, firstC_cons, firstC_nil]
 repeat' first | apply And.intro | refine hk _ ?_ | intro hg | ((first | refine CallK.intro (dc_impl_ProcFault p hp hg) ?_ | refine CallK.intro (dc_impl_VarsFault v gv) ?_ | refine CallK.intro (dc_impl_isTime _) ?_ | refine CallK.intro (dc_impl_codeIf _ _) ?_ | refine CallK.intro (dc_impl_firstCode [_, _] (by simp)) ?_ | refine CallK.intro (dc_impl_firstCode [_, _, _] (by simp)) ?_ | refine CallK.intro (dc_impl_firstCode [_, _, _, _] (by simp)) ?_); simp -dsimp (maxSteps := 2000000) [go_sem, -decide_eq_true_eq, -decide_eq_false_iff_not, h1, h2, h3, firstC_cons, firstC_nil]) | omega | exact True.intro
 all_goals clear hk k
 refine rg [0,1,2,6,7,20] ?_
 intro k hk; simp -dsimp [go_sem, -decide_eq_true_eq, -decide_eq_false_iff_not, h1, h2, h3, firstC_cons, firstC_nil]
 repeat' first | apply And.intro | refine hk _ ?_ | intro hg | omega | exact True.intro
 all_goals clear hk k
 refine AW.cond rfl ?_ ?_
 ·intro hc; try simp [h1, h2, h3] at hc
  all_goals try (exfalso; first | omega | contradiction | (simp_all; done); done)
  all_goals (
   refine rg [6] ?_
   intro k hk; simp -dsimp [go_sem, -decide_eq_true_eq, -decide_eq_false_iff_not, h1, h2, h3, firstC_cons, firstC_nil]
   repeat' first | apply And.intro | refine hk _ ?_ | intro hg | omega | exact True.intro
   all_goals clear hk k
   refine rt ?_
   simp [go_sem, Try.results8, h1, h2, h3])
 ·intro hc; try simp [h1, h2, h3] at hc
  all_goals try (exfalso; first | omega | contradiction | (simp_all; done); done)
  all_goals (
   refine AW.skipN (fun _ h => h) ?_
   skip)
set_option maxHeartbeats 4000000 in
theorem dc_impl_StartChart_ok (p : List TStep) (hp : p.length ≤ 9223372036854775807) (hg : ∀ e ∈ p, e.gok) (v : List Int) (gv : v.length ≤ 9223372036854775807) (now : Int) (h1 : procF p = 0) (h2 : varsF v = 0) (h3 : inR now 0 1000000 = true) (X : TChart) (hX : goF p 800 true 0 (⟨1, now, v, List.replicate p.length 0, List.replicate p.length 0⟩ : TChart) = X) : DC Try.prog 8 [.isl 6 (p.map TStep.ro), .isl 1 (v.map I1), .int .i64 now] (.agg [.int .i64 0, .int .i64 X.status, .int .i64 X.now, .osl 1 (X.vars.map I1), .osl 1 (X.acts.map I1), .osl 1 (X.dues.map I1)]) [] := by
 have hP := procOk h1
 have hlen := hP.len
 have hw := wf_new (p := p) h2 h3
 have hv4 := (varsOk h2).1
 have nv : v ≠ [] := by intro e; rw [e] at hv4; simp at hv4
 refine DC.intro tiOk Try.func8 rfl rfl rfl rfl rfl rfl rfl rfl [1000] ?_
 refine rg [0,1,2,6] ?_
 intro k hk; simp -dsimp [go_sem, -decide_eq_true_eq, -decide_eq_false_iff_not, h1, h2, h3, firstC_cons, firstC_nil]
 repeat' first | apply And.intro | refine hk _ ?_ | intro hg | omega | exact True.intro
 all_goals clear hk k
 refine AW.seq ?_
 refine rg [0,1,2,6,7] ?_
 intro k hk; simp -dsimp (maxSteps := 2000000) [go_sem, -decide_eq_true_eq, -decide_eq_false_iff_not, h1, h2, h3, firstC_cons, firstC_nil]
 repeat' first | apply And.intro | refine hk _ ?_ | intro hg | ((first | refine CallK.intro (dc_impl_ProcFault p hp hg) ?_ | refine CallK.intro (dc_impl_VarsFault v gv) ?_ | refine CallK.intro (dc_impl_isTime _) ?_ | refine CallK.intro (dc_impl_codeIf _ _) ?_ | refine CallK.intro (dc_impl_firstCode [_, _] (by simp)) ?_ | refine CallK.intro (dc_impl_firstCode [_, _, _] (by simp)) ?_ | refine CallK.intro (dc_impl_firstCode [_, _, _, _] (by simp)) ?_); simp -dsimp (maxSteps := 2000000) [go_sem, -decide_eq_true_eq, -decide_eq_false_iff_not, h1, h2, h3, firstC_cons, firstC_nil]) | omega | exact True.intro
 all_goals clear hk k
 refine rg [0,1,2,6,7,20] ?_
 intro k hk; simp -dsimp [go_sem, -decide_eq_true_eq, -decide_eq_false_iff_not, h1, h2, h3, firstC_cons, firstC_nil]
 repeat' first | apply And.intro | refine hk _ ?_ | intro hg | omega | exact True.intro
 all_goals clear hk k
 refine AW.cond rfl ?_ ?_
 ·intro hc; try simp [h1, h2, h3] at hc
  all_goals try (exfalso; first | omega | contradiction | (simp_all; done); done)
  all_goals (
   skip)
 ·intro hc; try simp [h1, h2, h3] at hc
  all_goals try (exfalso; first | omega | contradiction | (simp_all; done); done)
  all_goals (
   refine AW.skipN (fun _ h => h) ?_
   refine rg [6,8] ?_
   intro k hk; simp -dsimp (maxSteps := 2000000) [go_sem, -decide_eq_true_eq, -decide_eq_false_iff_not, h1, h2, h3, firstC_cons, firstC_nil]
   repeat' first | (refine Chk.keys ?_; simp only [go_sem, List.map_cons, List.map_nil, List.flatMap_cons, List.flatMap_nil, List.flatMap_append, List.append_nil, List.nil_append, List.cons_append]; decide +kernel) | apply And.intro | refine hk _ ?_ | intro hg | (refine CallK.intro (dc_CloneI v nv (by omega)) ?_; simp -dsimp (maxSteps := 2000000) [go_sem, -decide_eq_true_eq, -decide_eq_false_iff_not, h1, h2, h3, firstC_cons, firstC_nil]) | omega | exact True.intro
   all_goals clear hk k
   refine AW.fold (nd := ?nd_1) (c := ?c_1) (l := ?l_1) (es := ?es_1) (n := ?n_1) 35 0 3 1026 ?h1_1 ?h2_1 ?h4_1 ?h3_1 ?hn_1 (by decide) ?h6_1 ?kk_1
   (case h1_1 => exact rfl)
   (case h2_1 => exact rfl)
   (case h4_1 => exact rfl)
   (case h3_1 => exact rfl)
   (case hn_1 => simp)
   (case h6_1 => simp [go_sem])
   refine AW.fold (nd := ?nd_2) (c := ?c_2) (l := ?l_2) (es := ?es_2) (n := ?n_2) 35 0 4 29 ?h1_2 ?h2_2 ?h4_2 ?h3_2 ?hn_2 (by decide) ?h6_2 ?kk_2
   (case h1_2 => exact rfl)
   (case h2_2 => exact rfl)
   (case h4_2 => exact rfl)
   (case h3_2 => exact rfl)
   (case hn_2 => simp)
   (case h6_2 => simp [go_sem])
   refine AW.fold (nd := ?nd_3) (c := ?c_3) (l := ?l_3) (es := ?es_3) (n := ?n_3) 35 0 5 32 ?h1_3 ?h2_3 ?h4_3 ?h3_3 ?hn_3 (by decide) ?h6_3 ?kk_3
   (case h1_3 => exact rfl)
   (case h2_3 => exact rfl)
   (case h4_3 => exact rfl)
   (case h3_3 => exact rfl)
   (case hn_3 => simp)
   (case h6_3 => simp [go_sem])
   refine AW.reg tiOk (fun _ => [0]) [6,8] ?_
   intro k hk; simp -dsimp (maxSteps := 2000000) [go_sem, -decide_eq_true_eq, -decide_eq_false_iff_not, h1, h2, h3, firstC_cons, firstC_nil]
   repeat' first | apply And.intro | refine hk _ ?_ | intro hg | (refine CallK.intro (dc_begin_impl p hP v now hw) ?_; simp -dsimp (maxSteps := 2000000) [go_sem, -decide_eq_true_eq, -decide_eq_false_iff_not, h1, h2, h3, firstC_cons, firstC_nil]) | omega | exact True.intro
   all_goals clear hk k
   refine AW.thaw (nd := ?nd_4) (c := ?c_4) (l := ?l_4) (es := ?es_4) 35 0 3 7001 ?h1_4 ?h2_4 ?h3_4 ?h45_4 ?kk_4
   (case h1_4 => exact rfl)
   (case h2_4 => exact rfl)
   (case h3_4 => exact rfl)
   (case h45_4 => simp [go_sem])
   refine AW.thaw (nd := ?nd_5) (c := ?c_5) (l := ?l_5) (es := ?es_5) 35 0 4 7002 ?h1_5 ?h2_5 ?h3_5 ?h45_5 ?kk_5
   (case h1_5 => exact rfl)
   (case h2_5 => exact rfl)
   (case h3_5 => exact rfl)
   (case h45_5 => simp [go_sem])
   refine AW.thaw (nd := ?nd_6) (c := ?c_6) (l := ?l_6) (es := ?es_6) 35 0 5 7003 ?h1_6 ?h2_6 ?h3_6 ?h45_6 ?kk_6
   (case h1_6 => exact rfl)
   (case h2_6 => exact rfl)
   (case h3_6 => exact rfl)
   (case h45_6 => simp [go_sem])
   refine rg [6] ?_
   intro k hk; simp -dsimp [go_sem, -decide_eq_true_eq, -decide_eq_false_iff_not, h1, h2, h3, firstC_cons, firstC_nil]
   repeat' first | apply And.intro | refine hk _ ?_ | intro hg | omega | exact True.intro
   all_goals clear hk k
   refine rt ?_
   simp [go_sem, Try.results8, h1, h2, h3, hX])
end Go.AM
namespace Go.AM
open Go.Proofs
theorem dc_spec_l3Walk_n (e : List TNode) (hP : PartsOk e e.length) (h16 : e.length ≤ 16) (i : Nat) (hi : i < e.length) (ihn : ∀ j : Nat, j < i → DC Try.prog 91 [.isl 4 (e.map TNode.ro), .int .i64 ((j : Nat) : Int), .nils] (.osl 1 ((wkF e j []).map N1)) []) (iho : ∀ j : Nat, j < i → ∀ out : List Nat, out.length ≤ 40 → DC Try.prog 91 [.isl 4 (e.map TNode.ro), .int .i64 ((j : Nat) : Int), .osl 1 (out.map N1)] (.osl 1 ((wkF e j out).map N1)) []) : DC Try.prog 91 [.isl 4 (e.map TNode.ro), .int .i64 ((i : Nat) : Int), .nils] (.osl 1 ((wkF e i []).map N1)) [] := by
 obtain ⟨x, hx⟩ := at_some hi
 have hxA := nA_at hx
 have hpx := hP i hi
 rw [nodeAt_at hx] at hpx
 have hq := nodeF_parts hpx
 refine DC.intro tiOk Try.func91 rfl rfl rfl rfl rfl rfl rfl rfl [1000] ?_
 refine rg [0,1,2] ?_
 intro k hk; simp -dsimp [go_sem, -decide_eq_true_eq, -decide_eq_false_iff_not, hx, hxA]
 repeat' first | apply And.intro | refine hk _ ?_ | intro hg | omega | exact True.intro
 all_goals clear hk k
 refine AW.seq ?_
 refine rg [0,1,2,9] ?_
 intro k hk; simp -dsimp [go_sem, -decide_eq_true_eq, -decide_eq_false_iff_not, hx, hxA]
 repeat' first | apply And.intro | refine hk _ ?_ | intro hg | omega | exact True.intro
 all_goals clear hk k
 refine AW.cond rfl ?_ ?_
 ·intro hc; try simp at hc
  all_goals try (exfalso; first | omega | (have hk9 := inR_iff.1 hc; omega); done)
  all_goals (
   refine rg [6] ?_
   intro k hk; simp -dsimp [go_sem, -decide_eq_true_eq, -decide_eq_false_iff_not, hx, hxA]
   repeat' first | apply And.intro | refine hk _ ?_ | intro hg | omega | exact True.intro
   all_goals clear hk k
   refine rt ?_
   rw [wkF_eq hP hi]; (try (first | rw [if_neg (show ¬ 16 < out.length by omega)] | rw [if_pos (show 16 < out.length by omega)])); simp [go_sem, Try.results91, *] <;> first | (intro h9; omega) | (simp_all; done) | omega | grind)
 ·intro hc; try simp at hc
  all_goals try (exfalso; first | omega | (have hk9 := inR_iff.1 hc; omega); done)
  all_goals (
   refine AW.skipN (fun _ h => h) ?_
   refine AW.seq ?_
   refine rg [0,1,2,16] ?_
   intro k hk; simp -dsimp [go_sem, -decide_eq_true_eq, -decide_eq_false_iff_not, hx, hxA]
   repeat' first | apply And.intro | refine hk _ ?_ | intro hg | omega | exact True.intro
   all_goals clear hk k
   refine AW.cond rfl ?_ ?_
   ·intro hc; try simp at hc
    all_goals try (exfalso; first | omega | (have hk9 := inR_iff.1 hc; omega); done)
    all_goals (
     have hk0 : 2 < x.kind := by simpa using hc
     have hl := left_of hpx hk0
     obtain ⟨a, ha⟩ : ∃ a : Nat, x.left = a := ⟨_, (Int.toNat_of_nonneg hl.1).symm⟩
     have hla : x.left.toNat = a := by omega
     have hwa := wkF_len (e := e) (i := a) (out := []) (by first | assumption | simp) (by omega)
     refine AW.regN tiOk (fun i => if i = 7 then [2] else []) [0,1,2] (fun _ h => h) ?_
     intro k hk; simp -dsimp (maxSteps := 2000000) [go_sem, -decide_eq_true_eq, -decide_eq_false_iff_not, hx, hxA, ha]
     repeat' first | apply And.intro | refine hk _ ?_ | intro hg | ((first | refine CallK.intro (ihn a (by omega)) ?_ | refine CallK.intro (iho b (by omega) _ hwa) ?_); simp -dsimp (maxSteps := 2000000) [go_sem, -decide_eq_true_eq, -decide_eq_false_iff_not, hx, hxA, ha]) | omega | exact True.intro
     all_goals clear hk k
     refine AW.seq ?_
     refine rg [0,1,2,30] ?_
     intro k hk; simp -dsimp (maxSteps := 2000000) [go_sem, -decide_eq_true_eq, -decide_eq_false_iff_not, hx, hxA]
     repeat' first | apply And.intro | refine hk _ ?_ | intro hg | (refine CallK.intro (dc_spec_l3Two _) ?_; simp -dsimp (maxSteps := 2000000) [go_sem, -decide_eq_true_eq, -decide_eq_false_iff_not, hx, hxA]) | omega | exact True.intro
     all_goals clear hk k
     refine AW.cond rfl ?_ ?_
     ·intro hc; try simp at hc
      all_goals try (exfalso; first | omega | (have hk9 := inR_iff.1 hc; omega); done)
      all_goals (
       have hk2 : isTwoB x.kind = true := by simpa using hc
       have hr := hq.2.1 hk2
       have hk3 := inR_iff.1 hk2
       obtain ⟨b, hb⟩ : ∃ b : Nat, x.right = b := ⟨_, (Int.toNat_of_nonneg hr.2.2.1).symm⟩
       have hrb : x.right.toNat = b := by omega
       refine AW.regN tiOk (fun i => if i = 7 then [2] else []) [1,2] (fun _ h => h) ?_
       intro k hk; simp -dsimp (maxSteps := 2000000) [go_sem, -decide_eq_true_eq, -decide_eq_false_iff_not, hx, hxA, hb]
       repeat' first | apply And.intro | refine hk _ ?_ | intro hg | ((first | refine CallK.intro (ihn a (by omega)) ?_ | refine CallK.intro (iho b (by omega) _ hwa) ?_); simp -dsimp (maxSteps := 2000000) [go_sem, -decide_eq_true_eq, -decide_eq_false_iff_not, hx, hxA, hb]) | omega | exact True.intro
       all_goals clear hk k
       try (have hwb := wkF_len (e := e) (i := b) hwa (by omega))
       refine rg [6] ?_
       intro k hk; simp -dsimp [go_sem, -decide_eq_true_eq, -decide_eq_false_iff_not, hx, hxA]
       repeat' first | apply And.intro | refine hk _ ?_ | intro hg | omega | exact True.intro
       all_goals clear hk k
       refine rt ?_
       rw [wkF_eq hP hi]; (try (first | rw [if_neg (show ¬ 16 < out.length by omega)] | rw [if_pos (show 16 < out.length by omega)])); simp [go_sem, Try.results91, *] <;> first | (intro h9; omega) | (simp_all; done) | omega | grind)
     ·intro hc; try simp at hc
      all_goals try (exfalso; first | omega | (have hk9 := inR_iff.1 hc; omega); done)
      all_goals (
       refine AW.skipN (fun _ h => h) ?_
       try (have hwb := wkF_len (e := e) (i := b) hwa (by omega))
       refine rg [6] ?_
       intro k hk; simp -dsimp [go_sem, -decide_eq_true_eq, -decide_eq_false_iff_not, hx, hxA]
       repeat' first | apply And.intro | refine hk _ ?_ | intro hg | omega | exact True.intro
       all_goals clear hk k
       refine rt ?_
       rw [wkF_eq hP hi]; (try (first | rw [if_neg (show ¬ 16 < out.length by omega)] | rw [if_pos (show 16 < out.length by omega)])); simp [go_sem, Try.results91, *] <;> first | (intro h9; omega) | (simp_all; done) | omega | grind))
   ·intro hc; try simp at hc
    all_goals try (exfalso; first | omega | (have hk9 := inR_iff.1 hc; omega); done)
    all_goals (
     refine AW.skipN (fun _ h => h) ?_
     refine AW.seq ?_
     refine rg [0,1,2,30] ?_
     intro k hk; simp -dsimp (maxSteps := 2000000) [go_sem, -decide_eq_true_eq, -decide_eq_false_iff_not, hx, hxA]
     repeat' first | apply And.intro | refine hk _ ?_ | intro hg | (refine CallK.intro (dc_spec_l3Two _) ?_; simp -dsimp (maxSteps := 2000000) [go_sem, -decide_eq_true_eq, -decide_eq_false_iff_not, hx, hxA]) | omega | exact True.intro
     all_goals clear hk k
     refine AW.cond rfl ?_ ?_
     ·intro hc; try simp at hc
      all_goals try (exfalso; first | omega | (have hk9 := inR_iff.1 hc; omega); done)
      all_goals (
       have hk2 : isTwoB x.kind = true := by simpa using hc
       have hr := hq.2.1 hk2
       have hk3 := inR_iff.1 hk2
       obtain ⟨b, hb⟩ : ∃ b : Nat, x.right = b := ⟨_, (Int.toNat_of_nonneg hr.2.2.1).symm⟩
       have hrb : x.right.toNat = b := by omega
       refine AW.regN tiOk (fun i => if i = 7 then [2] else []) [1,2] (fun _ h => h) ?_
       intro k hk; simp -dsimp (maxSteps := 2000000) [go_sem, -decide_eq_true_eq, -decide_eq_false_iff_not, hx, hxA, hb]
       repeat' first | apply And.intro | refine hk _ ?_ | intro hg | ((first | refine CallK.intro (ihn a (by omega)) ?_ | refine CallK.intro (iho b (by omega) _ hwa) ?_); simp -dsimp (maxSteps := 2000000) [go_sem, -decide_eq_true_eq, -decide_eq_false_iff_not, hx, hxA, hb]) | omega | exact True.intro
       all_goals clear hk k
       try (have hwb := wkF_len (e := e) (i := b) hwa (by omega))
       refine rg [6] ?_
       intro k hk; simp -dsimp [go_sem, -decide_eq_true_eq, -decide_eq_false_iff_not, hx, hxA]
       repeat' first | apply And.intro | refine hk _ ?_ | intro hg | omega | exact True.intro
       all_goals clear hk k
       refine rt ?_
       rw [wkF_eq hP hi]; (try (first | rw [if_neg (show ¬ 16 < out.length by omega)] | rw [if_pos (show 16 < out.length by omega)])); simp [go_sem, Try.results91, *] <;> first | (intro h9; omega) | (simp_all; done) | omega | grind)
     ·intro hc; try simp at hc
      all_goals try (exfalso; first | omega | (have hk9 := inR_iff.1 hc; omega); done)
      all_goals (
       refine AW.skipN (fun _ h => h) ?_
       try (have hwb := wkF_len (e := e) (i := b) hwa (by omega))
       refine rg [6] ?_
       intro k hk; simp -dsimp [go_sem, -decide_eq_true_eq, -decide_eq_false_iff_not, hx, hxA]
       repeat' first | apply And.intro | refine hk _ ?_ | intro hg | omega | exact True.intro
       all_goals clear hk k
       refine rt ?_
       rw [wkF_eq hP hi]; (try (first | rw [if_neg (show ¬ 16 < out.length by omega)] | rw [if_pos (show 16 < out.length by omega)])); simp [go_sem, Try.results91, *] <;> first | (intro h9; omega) | (simp_all; done) | omega | grind)))
theorem dc_spec_l3Walk_o (e : List TNode) (hP : PartsOk e e.length) (h16 : e.length ≤ 16) (i : Nat) (hi : i < e.length) (out : List Nat) (ho : out.length ≤ 40) (ihn : ∀ j : Nat, j < i → DC Try.prog 91 [.isl 4 (e.map TNode.ro), .int .i64 ((j : Nat) : Int), .nils] (.osl 1 ((wkF e j []).map N1)) []) (iho : ∀ j : Nat, j < i → ∀ out : List Nat, out.length ≤ 40 → DC Try.prog 91 [.isl 4 (e.map TNode.ro), .int .i64 ((j : Nat) : Int), .osl 1 (out.map N1)] (.osl 1 ((wkF e j out).map N1)) []) : DC Try.prog 91 [.isl 4 (e.map TNode.ro), .int .i64 ((i : Nat) : Int), .osl 1 (out.map N1)] (.osl 1 ((wkF e i out).map N1)) [] := by
 obtain ⟨x, hx⟩ := at_some hi
 have hxA := nA_at hx
 have hpx := hP i hi
 rw [nodeAt_at hx] at hpx
 have hq := nodeF_parts hpx
 refine DC.intro tiOk Try.func91 rfl rfl rfl rfl rfl rfl rfl rfl [1000] ?_
 refine rg [0,1,2] ?_
 intro k hk; simp -dsimp [go_sem, -decide_eq_true_eq, -decide_eq_false_iff_not, hx, hxA]
 repeat' first | apply And.intro | refine hk _ ?_ | intro hg | omega | exact True.intro
 all_goals clear hk k
 refine AW.seq ?_
 refine rg [0,1,2,9] ?_
 intro k hk; simp -dsimp [go_sem, -decide_eq_true_eq, -decide_eq_false_iff_not, hx, hxA]
 repeat' first | apply And.intro | refine hk _ ?_ | intro hg | omega | exact True.intro
 all_goals clear hk k
 refine AW.cond rfl ?_ ?_
 ·intro hc; try simp at hc
  all_goals try (exfalso; first | omega | (have hk9 := inR_iff.1 hc; omega); done)
  all_goals (
   refine rg [6] ?_
   intro k hk; simp -dsimp [go_sem, -decide_eq_true_eq, -decide_eq_false_iff_not, hx, hxA]
   repeat' first | apply And.intro | refine hk _ ?_ | intro hg | omega | exact True.intro
   all_goals clear hk k
   refine rt ?_
   rw [wkF_eq hP hi]; (try (first | rw [if_neg (show ¬ 16 < out.length by omega)] | rw [if_pos (show 16 < out.length by omega)])); simp [go_sem, Try.results91, *] <;> first | (intro h9; omega) | (simp_all; done) | omega | grind)
 ·intro hc; try simp at hc
  all_goals try (exfalso; first | omega | (have hk9 := inR_iff.1 hc; omega); done)
  all_goals (
   refine AW.skipN (fun _ h => h) ?_
   refine AW.seq ?_
   refine rg [0,1,2,16] ?_
   intro k hk; simp -dsimp [go_sem, -decide_eq_true_eq, -decide_eq_false_iff_not, hx, hxA]
   repeat' first | apply And.intro | refine hk _ ?_ | intro hg | omega | exact True.intro
   all_goals clear hk k
   refine AW.cond rfl ?_ ?_
   ·intro hc; try simp at hc
    all_goals try (exfalso; first | omega | (have hk9 := inR_iff.1 hc; omega); done)
    all_goals (
     have hk0 : 2 < x.kind := by simpa using hc
     have hl := left_of hpx hk0
     obtain ⟨a, ha⟩ : ∃ a : Nat, x.left = a := ⟨_, (Int.toNat_of_nonneg hl.1).symm⟩
     have hla : x.left.toNat = a := by omega
     have hwa := wkF_len (e := e) (i := a) (out := out) (by first | assumption | simp) (by omega)
     refine AW.regN tiOk (fun i => if i = 7 then [2] else []) [0,1,2] (fun _ h => h) ?_
     intro k hk; simp -dsimp (maxSteps := 2000000) [go_sem, -decide_eq_true_eq, -decide_eq_false_iff_not, hx, hxA, ha]
     repeat' first | apply And.intro | refine hk _ ?_ | intro hg | ((first | refine CallK.intro (iho a (by omega) _ ho) ?_ | refine CallK.intro (iho b (by omega) _ hwa) ?_); simp -dsimp (maxSteps := 2000000) [go_sem, -decide_eq_true_eq, -decide_eq_false_iff_not, hx, hxA, ha]) | omega | exact True.intro
     all_goals clear hk k
     refine AW.seq ?_
     refine rg [0,1,2,30] ?_
     intro k hk; simp -dsimp (maxSteps := 2000000) [go_sem, -decide_eq_true_eq, -decide_eq_false_iff_not, hx, hxA]
     repeat' first | apply And.intro | refine hk _ ?_ | intro hg | (refine CallK.intro (dc_spec_l3Two _) ?_; simp -dsimp (maxSteps := 2000000) [go_sem, -decide_eq_true_eq, -decide_eq_false_iff_not, hx, hxA]) | omega | exact True.intro
     all_goals clear hk k
     refine AW.cond rfl ?_ ?_
     ·intro hc; try simp at hc
      all_goals try (exfalso; first | omega | (have hk9 := inR_iff.1 hc; omega); done)
      all_goals (
       have hk2 : isTwoB x.kind = true := by simpa using hc
       have hr := hq.2.1 hk2
       have hk3 := inR_iff.1 hk2
       obtain ⟨b, hb⟩ : ∃ b : Nat, x.right = b := ⟨_, (Int.toNat_of_nonneg hr.2.2.1).symm⟩
       have hrb : x.right.toNat = b := by omega
       refine AW.regN tiOk (fun i => if i = 7 then [2] else []) [1,2] (fun _ h => h) ?_
       intro k hk; simp -dsimp (maxSteps := 2000000) [go_sem, -decide_eq_true_eq, -decide_eq_false_iff_not, hx, hxA, hb]
       repeat' first | apply And.intro | refine hk _ ?_ | intro hg | ((first | refine CallK.intro (iho a (by omega) _ ho) ?_ | refine CallK.intro (iho b (by omega) _ hwa) ?_); simp -dsimp (maxSteps := 2000000) [go_sem, -decide_eq_true_eq, -decide_eq_false_iff_not, hx, hxA, hb]) | omega | exact True.intro
       all_goals clear hk k
       try (have hwb := wkF_len (e := e) (i := b) hwa (by omega))
       refine rg [6] ?_
       intro k hk; simp -dsimp [go_sem, -decide_eq_true_eq, -decide_eq_false_iff_not, hx, hxA]
       repeat' first | apply And.intro | refine hk _ ?_ | intro hg | omega | exact True.intro
       all_goals clear hk k
       refine rt ?_
       rw [wkF_eq hP hi]; (try (first | rw [if_neg (show ¬ 16 < out.length by omega)] | rw [if_pos (show 16 < out.length by omega)])); simp [go_sem, Try.results91, *] <;> first | (intro h9; omega) | (simp_all; done) | omega | grind)
     ·intro hc; try simp at hc
      all_goals try (exfalso; first | omega | (have hk9 := inR_iff.1 hc; omega); done)
      all_goals (
       refine AW.skipN (fun _ h => h) ?_
       try (have hwb := wkF_len (e := e) (i := b) hwa (by omega))
       refine rg [6] ?_
       intro k hk; simp -dsimp [go_sem, -decide_eq_true_eq, -decide_eq_false_iff_not, hx, hxA]
       repeat' first | apply And.intro | refine hk _ ?_ | intro hg | omega | exact True.intro
       all_goals clear hk k
       refine rt ?_
       rw [wkF_eq hP hi]; (try (first | rw [if_neg (show ¬ 16 < out.length by omega)] | rw [if_pos (show 16 < out.length by omega)])); simp [go_sem, Try.results91, *] <;> first | (intro h9; omega) | (simp_all; done) | omega | grind))
   ·intro hc; try simp at hc
    all_goals try (exfalso; first | omega | (have hk9 := inR_iff.1 hc; omega); done)
    all_goals (
     refine AW.skipN (fun _ h => h) ?_
     refine AW.seq ?_
     refine rg [0,1,2,30] ?_
     intro k hk; simp -dsimp (maxSteps := 2000000) [go_sem, -decide_eq_true_eq, -decide_eq_false_iff_not, hx, hxA]
     repeat' first | apply And.intro | refine hk _ ?_ | intro hg | (refine CallK.intro (dc_spec_l3Two _) ?_; simp -dsimp (maxSteps := 2000000) [go_sem, -decide_eq_true_eq, -decide_eq_false_iff_not, hx, hxA]) | omega | exact True.intro
     all_goals clear hk k
     refine AW.cond rfl ?_ ?_
     ·intro hc; try simp at hc
      all_goals try (exfalso; first | omega | (have hk9 := inR_iff.1 hc; omega); done)
      all_goals (
       have hk2 : isTwoB x.kind = true := by simpa using hc
       have hr := hq.2.1 hk2
       have hk3 := inR_iff.1 hk2
       obtain ⟨b, hb⟩ : ∃ b : Nat, x.right = b := ⟨_, (Int.toNat_of_nonneg hr.2.2.1).symm⟩
       have hrb : x.right.toNat = b := by omega
       refine AW.regN tiOk (fun i => if i = 7 then [2] else []) [1,2] (fun _ h => h) ?_
       intro k hk; simp -dsimp (maxSteps := 2000000) [go_sem, -decide_eq_true_eq, -decide_eq_false_iff_not, hx, hxA, hb]
       repeat' first | apply And.intro | refine hk _ ?_ | intro hg | ((first | refine CallK.intro (iho a (by omega) _ ho) ?_ | refine CallK.intro (iho b (by omega) _ hwa) ?_); simp -dsimp (maxSteps := 2000000) [go_sem, -decide_eq_true_eq, -decide_eq_false_iff_not, hx, hxA, hb]) | omega | exact True.intro
       all_goals clear hk k
       try (have hwb := wkF_len (e := e) (i := b) hwa (by omega))
       refine rg [6] ?_
       intro k hk; simp -dsimp [go_sem, -decide_eq_true_eq, -decide_eq_false_iff_not, hx, hxA]
       repeat' first | apply And.intro | refine hk _ ?_ | intro hg | omega | exact True.intro
       all_goals clear hk k
       refine rt ?_
       rw [wkF_eq hP hi]; (try (first | rw [if_neg (show ¬ 16 < out.length by omega)] | rw [if_pos (show 16 < out.length by omega)])); simp [go_sem, Try.results91, *] <;> first | (intro h9; omega) | (simp_all; done) | omega | grind)
     ·intro hc; try simp at hc
      all_goals try (exfalso; first | omega | (have hk9 := inR_iff.1 hc; omega); done)
      all_goals (
       refine AW.skipN (fun _ h => h) ?_
       try (have hwb := wkF_len (e := e) (i := b) hwa (by omega))
       refine rg [6] ?_
       intro k hk; simp -dsimp [go_sem, -decide_eq_true_eq, -decide_eq_false_iff_not, hx, hxA]
       repeat' first | apply And.intro | refine hk _ ?_ | intro hg | omega | exact True.intro
       all_goals clear hk k
       refine rt ?_
       rw [wkF_eq hP hi]; (try (first | rw [if_neg (show ¬ 16 < out.length by omega)] | rw [if_pos (show 16 < out.length by omega)])); simp [go_sem, Try.results91, *] <;> first | (intro h9; omega) | (simp_all; done) | omega | grind)))
theorem dc_spec_l3Walk (e : List TNode) (hP : PartsOk e e.length) (h16 : e.length ≤ 16) : ∀ (m i : Nat), i ≤ m → i < e.length → DC Try.prog 91 [.isl 4 (e.map TNode.ro), .int .i64 ((i : Nat) : Int), .nils] (.osl 1 ((wkF e i []).map N1)) [] ∧ ∀ out : List Nat, out.length ≤ 40 → DC Try.prog 91 [.isl 4 (e.map TNode.ro), .int .i64 ((i : Nat) : Int), .osl 1 (out.map N1)] (.osl 1 ((wkF e i out).map N1)) [] := by
  intro m
  induction m with
  | zero =>
    intro i hm hi
    have h1 : ∀ j : Nat, j < i → False := fun j hj => by omega
    exact ⟨dc_spec_l3Walk_n e hP h16 i hi (fun j hj => (h1 j hj).elim) (fun j hj => (h1 j hj).elim), fun out ho => dc_spec_l3Walk_o e hP h16 i hi out ho (fun j hj => (h1 j hj).elim) (fun j hj => (h1 j hj).elim)⟩
  | succ m ih =>
    intro i hm hi
    have h1 : ∀ j : Nat, j < i → _ := fun j hj => ih j (by omega) (by omega)
    exact ⟨dc_spec_l3Walk_n e hP h16 i hi (fun j hj => (h1 j hj).1) (fun j hj => (h1 j hj).2), fun out ho => dc_spec_l3Walk_o e hP h16 i hi out ho (fun j hj => (h1 j hj).1) (fun j hj => (h1 j hj).2)⟩
theorem dc_spec_l3Walk_nil (e : List TNode) (hP : PartsOk e e.length) (h16 : e.length ≤ 16) (i : Nat) (hi : i < e.length) : DC Try.prog 91 [.isl 4 (e.map TNode.ro), .int .i64 ((i : Nat) : Int), .nils] (.osl 1 ((wkF e i []).map N1)) [] := (dc_spec_l3Walk e hP h16 i i (Nat.le_refl _) hi).1
end Go.AM
namespace Go.AM
open Go.Proofs
theorem dc_spec_l3Fault (e : List TNode) (he : e.length ≤ 9223372036854775807) : DC Try.prog 66 [.isl 4 (e.map TNode.ro)] (.int .i64 (exprF e)) [] := by
 refine DC.intro tiOk Try.func66 rfl rfl rfl rfl rfl rfl rfl rfl [] ?_
 refine rgA [0] ?_
 refine AW.seq ?_
 refine AW.cut ⟨51, [(0, .isl 4 (e.map TNode.ro)), (14, .bool (decide (e.length < 1 ∨ 16 < e.length)))], []⟩ ?_ ?_
 ·skip
  refine rgK ?_
  intro k hk; simp +contextual -dsimp (maxSteps := 2000000) [go_sem, -decide_eq_true_eq, -decide_eq_false_iff_not]
  repeat' first | apply And.intro | refine hk _ ?_ | (intro hg; try simp only [decide_eq_true_eq, decide_eq_false_iff_not] at hg) | omega | exact True.intro
  all_goals clear hk k
  all_goals (show St.Less _ _; exact Less.of rfl (by simp [go_sem, -Nat.lt_one_iff, -List.length_eq_zero_iff] <;> first | omega | grind) (by simp [go_sem]))
 ·skip
  refine AW.cond rfl ?_ ?_
  ·intro hc; try simp at hc
   all_goals (
    refine rgA [2] ?_
    refine rt ?_
    first | (rw [exprF_len' (by simpa using hc)]; simp [go_sem, Try.results66]; done) | (rw [exprF_node hR hlt hall (by rw [hxn]; assumption), hxn]; simp [go_sem, Try.results66]; done) | (rw [exprF_wk hR hN, if_neg (wk_ne_len (by first | assumption | omega))]; simp [go_sem, Try.results66]; done) | (rw [exprF_wk hR hN, if_neg (wk_ne_at hy (by first | assumption | omega))]; simp [go_sem, Try.results66]; done) | (rw [exprF_wk hR hN, if_pos (wk_eq (by first | assumption | omega) (fun k hk => hal2 k (by omega)))]; simp [go_sem, Try.results66]))
  ·intro hc; try simp at hc
   all_goals (
    refine AW.skipN (fun _ h => h) ?_
    refine AW.seq ?_
    have hlen : 1 ≤ e.length ∧ e.length ≤ 16 := by obtain ⟨h8, h9⟩ := hc; have : e.length ≠ 0 := (fun h => h8 (List.length_eq_zero_iff.1 h)); omega
    have hR : inR e.length 1 16 = true := inR_iff.2 (by omega)
    refine rgA [0,3] ?_
    refine AW.block ?_
    refine AW.loopI (fun i : Nat => ⟨51, [(0, .isl 4 (e.map TNode.ro)), (3, .int .i64 i)], []⟩) (fun i => i ≤ e.length ∧ ∀ k, k < i → nodeAt e k = 0) (fun i => e.length - i) (0) (by simp) (Less.of rfl (by simp [go_sem]) (by simp [go_sem])) ?_
    rintro i ⟨hi, hall⟩
    refine AW.seq ?_
    refine rgA [0,3,18] ?_
    refine AW.cond rfl ?_ ?_
    ·intro hc; try simp at hc
     all_goals (
      have hlt : i < e.length := by assumption
      obtain ⟨x, hx⟩ := at_some hlt
      have hxn := nodeAt_at hx
      refine AW.skipN (fun _ h => h) ?_
      refine AW.seq ?_
      refine AW.block ?_
      refine rg [0,3,4] ?_
      intro k hk; simp -dsimp (maxSteps := 2000000) [go_sem, -decide_eq_true_eq, -decide_eq_false_iff_not, hx]
      repeat' first | apply And.intro | refine hk _ ?_ | intro hg | (refine CallK.intro (dc_spec_l3Node x i (by omega)) ?_; simp -dsimp (maxSteps := 2000000) [go_sem, -decide_eq_true_eq, -decide_eq_false_iff_not, hx]) | omega | exact True.intro
      all_goals clear hk k
      refine rg [0,3,4,27] ?_
      intro k hk; simp -dsimp [go_sem, -decide_eq_true_eq, -decide_eq_false_iff_not, hx]
      repeat' first | apply And.intro | refine hk _ ?_ | intro hg | omega | exact True.intro
      all_goals clear hk k
      refine AW.cond rfl ?_ ?_
      ·intro hc; try simp at hc
       all_goals (
        refine rg [2] ?_
        intro k hk; simp -dsimp [go_sem, -decide_eq_true_eq, -decide_eq_false_iff_not, hx]
        repeat' first | apply And.intro | refine hk _ ?_ | intro hg | omega | exact True.intro
        all_goals clear hk k
        refine rt ?_
        first | (rw [exprF_len' (by simpa using hc)]; simp [go_sem, Try.results66]; done) | (rw [exprF_node hR hlt hall (by rw [hxn]; assumption), hxn]; simp [go_sem, Try.results66]; done) | (rw [exprF_wk hR hN, if_neg (wk_ne_len (by first | assumption | omega))]; simp [go_sem, Try.results66]; done) | (rw [exprF_wk hR hN, if_neg (wk_ne_at hy (by first | assumption | omega))]; simp [go_sem, Try.results66]; done) | (rw [exprF_wk hR hN, if_pos (wk_eq (by first | assumption | omega) (fun k hk => hal2 k (by omega)))]; simp [go_sem, Try.results66]))
      ·intro hc; try simp at hc
       all_goals (
        refine AW.skipN (fun _ h => h) ?_
        refine rgK ?_
        intro k hk; simp -dsimp [go_sem, -decide_eq_true_eq, -decide_eq_false_iff_not, hx]
        repeat' first | apply And.intro | refine hk _ ?_ | intro hg | omega | exact True.intro
        all_goals clear hk k
        show ∃ _, _
        have hw := wrapi hlt (by omega)
        refine ⟨i + 1, ⟨by omega, upto hall (by rw [hxn]; first | assumption | simpa using hc)⟩, by omega, Less.of rfl (by simp [go_sem, hw]) (by simp [go_sem])⟩))
    ·intro hc; try simp at hc
     all_goals (
      refine AW.exitN (fun _ h => h) ?_
      have hN : ∀ k, k < e.length → nodeAt e k = 0 := fun k hk => hall k (by omega)
      have hP : PartsOk e e.length := hN
      have hwl : IntKind.wrap .i64 ((e.length : Int) - 1) = ((e.length - 1 : Nat) : Int) := by rw [wrap64 (by omega) (by omega)]; omega
      have hwk := wkF_len (e := e) (i := e.length - 1) (out := []) (by simp) (by omega)
      refine rg [0,5] ?_
      intro k hk; simp -dsimp (maxSteps := 2000000) [go_sem, -decide_eq_true_eq, -decide_eq_false_iff_not, hwl]
      repeat' first | apply And.intro | refine hk _ ?_ | intro hg | (refine CallK.intro (dc_spec_l3Walk_nil e hP (by omega) (e.length - 1) (by omega)) ?_; simp -dsimp (maxSteps := 2000000) [go_sem, -decide_eq_true_eq, -decide_eq_false_iff_not, hwl]) | omega | exact True.intro
      all_goals clear hk k
      refine AW.seq ?_
      refine rgA [5,38] ?_
      refine AW.cond rfl ?_ ?_
      ·intro hc; try simp at hc
       all_goals (
        refine rgA [2] ?_
        refine rt ?_
        first | (rw [exprF_len' (by simpa using hc)]; simp [go_sem, Try.results66]; done) | (rw [exprF_node hR hlt hall (by rw [hxn]; assumption), hxn]; simp [go_sem, Try.results66]; done) | (rw [exprF_wk hR hN, if_neg (wk_ne_len (by first | assumption | omega))]; simp [go_sem, Try.results66]; done) | (rw [exprF_wk hR hN, if_neg (wk_ne_at hy (by first | assumption | omega))]; simp [go_sem, Try.results66]; done) | (rw [exprF_wk hR hN, if_pos (wk_eq (by first | assumption | omega) (fun k hk => hal2 k (by omega)))]; simp [go_sem, Try.results66]))
      ·intro hc; try simp at hc
       all_goals (
        refine AW.skipN (fun _ h => h) ?_
        refine AW.seq ?_
        refine rgA [5,6] ?_
        refine AW.block ?_
        refine AW.loopI (fun i : Nat => ⟨51, [(5, .sl 1033 1 0 (wkF e (e.length - 1) []).length), (6, .int .i64 i)], [(1033, some ⟨1, (wkF e (e.length - 1) []).map N1⟩)]⟩) (fun i => i ≤ (wkF e (e.length - 1) []).length ∧ ∀ k, k < i → (wkF e (e.length - 1) [])[k]? = some k) (fun i => (wkF e (e.length - 1) []).length - i) (0) (by simp) (Less.of rfl (by simp [go_sem]) (by simp [go_sem])) ?_
        rintro i ⟨hi2, hal2⟩
        refine AW.seq ?_
        refine rgA [5,6,42] ?_
        refine AW.cond rfl ?_ ?_
        ·intro hc; try simp at hc
         all_goals (
          have hlt2 : i < (wkF e (e.length - 1) []).length := by assumption
          obtain ⟨y, hy⟩ := at_some hlt2
          refine AW.skipN (fun _ h => h) ?_
          refine AW.seq ?_
          refine AW.block ?_
          refine rg [5,6,50] ?_
          intro k hk; simp -dsimp [go_sem, -decide_eq_true_eq, -decide_eq_false_iff_not, hy]
          repeat' first | apply And.intro | refine hk _ ?_ | intro hg | omega | exact True.intro
          all_goals clear hk k
          refine AW.cond rfl ?_ ?_
          ·intro hc; try simp at hc
           all_goals (
            refine rg [2] ?_
            intro k hk; simp -dsimp [go_sem, -decide_eq_true_eq, -decide_eq_false_iff_not, hy]
            repeat' first | apply And.intro | refine hk _ ?_ | intro hg | omega | exact True.intro
            all_goals clear hk k
            refine rt ?_
            first | (rw [exprF_len' (by simpa using hc)]; simp [go_sem, Try.results66]; done) | (rw [exprF_node hR hlt hall (by rw [hxn]; assumption), hxn]; simp [go_sem, Try.results66]; done) | (rw [exprF_wk hR hN, if_neg (wk_ne_len (by first | assumption | omega))]; simp [go_sem, Try.results66]; done) | (rw [exprF_wk hR hN, if_neg (wk_ne_at hy (by first | assumption | omega))]; simp [go_sem, Try.results66]; done) | (rw [exprF_wk hR hN, if_pos (wk_eq (by first | assumption | omega) (fun k hk => hal2 k (by omega)))]; simp [go_sem, Try.results66]))
          ·intro hc; try simp at hc
           all_goals (
            refine AW.skipN (fun _ h => h) ?_
            refine rgK ?_
            intro k hk; simp -dsimp [go_sem, -decide_eq_true_eq, -decide_eq_false_iff_not, hy]
            repeat' first | apply And.intro | refine hk _ ?_ | intro hg | omega | exact True.intro
            all_goals clear hk k
            show ∃ _, _
            have hw := wrapi hlt2 (by omega)
            refine ⟨i + 1, ⟨by omega, upto_at hal2 hy (by first | assumption | omega)⟩, by omega, Less.of rfl (by simp [go_sem, hw]) (by simp [go_sem])⟩))
        ·intro hc; try simp at hc
         all_goals (
          refine AW.exitN (fun _ h => h) ?_
          refine rgA [2] ?_
          refine rt ?_
          first | (rw [exprF_len' (by simpa using hc)]; simp [go_sem, Try.results66]; done) | (rw [exprF_node hR hlt hall (by rw [hxn]; assumption), hxn]; simp [go_sem, Try.results66]; done) | (rw [exprF_wk hR hN, if_neg (wk_ne_len (by first | assumption | omega))]; simp [go_sem, Try.results66]; done) | (rw [exprF_wk hR hN, if_neg (wk_ne_at hy (by first | assumption | omega))]; simp [go_sem, Try.results66]; done) | (rw [exprF_wk hR hN, if_pos (wk_eq (by first | assumption | omega) (fun k hk => hal2 k (by omega)))]; simp [go_sem, Try.results66])))))
end Go.AM
namespace Go.AM
open Go.Proofs
theorem dc_spec_l3Types_b (e : List TNode) (hP : PartsOk e e.length) (hlen : e.length ≤ 16) (hub : typU e e.length = true) : DC Try.prog 92 [.isl 4 (e.map TNode.ro)] (.tup [.nils, .bool false]) [] := by
 refine DC.intro tiOk Try.func92 rfl rfl rfl rfl rfl rfl rfl rfl [1001] ?_
 refine rg [0] ?_
 intro k hk; simp -dsimp [go_sem, -decide_eq_true_eq, -decide_eq_false_iff_not]
 repeat' first | apply And.intro | refine hk _ ?_ | intro hg | omega | exact True.intro | (have h9 := hr (by assumption); omega) | fail
 all_goals clear hk k
 refine rg [0,4] ?_
 intro k hk; simp -dsimp [go_sem, -decide_eq_true_eq, -decide_eq_false_iff_not]
 repeat' first | apply And.intro | refine hk _ ?_ | intro hg | omega | exact True.intro | (have h9 := hr (by assumption); omega) | fail
 all_goals clear hk k
 refine AW.seq ?_
 refine rg [0,4,5] ?_
 intro k hk; simp -dsimp [go_sem, -decide_eq_true_eq, -decide_eq_false_iff_not]
 repeat' first | apply And.intro | refine hk _ ?_ | intro hg | omega | exact True.intro | (have h9 := hr (by assumption); omega) | fail
 all_goals clear hk k
 refine AW.block ?_
 refine AW.rename (nd := ?nd_1) 9 60 ?h1_1 ?h2_1 ?h4_1 ?kk_1
 (case h1_1 => exact rfl)
 (case h2_1 => simp [go_sem])
 (case h4_1 => simp [go_sem])
 refine AW.loopI (fun i : Nat => ⟨62, [(0, .isl 4 (e.map TNode.ro)), (4, .sl 60 1 0 i), (5, .int .i64 i)], [(60, some ⟨1, (typesL e i).map I1⟩)]⟩) (fun i => i ≤ e.length ∧ typU e i = false) (fun i => e.length - i) (0) (by simp [typU]) (Less.of rfl (by simp [go_sem]) (by simp [go_sem, typesL])) ?_
 rintro i ⟨hi, hu⟩
 refine AW.rename (nd := ?nd_2) 60 9 ?h1_2 ?h2_2 ?h4_2 ?kk_2
 (case h1_2 => exact rfl)
 (case h2_2 => simp [go_sem])
 (case h4_2 => simp [go_sem])
 refine AW.seq ?_
 refine rg [0,4,5,13] ?_
 intro k hk; simp -dsimp [go_sem, -decide_eq_true_eq, -decide_eq_false_iff_not]
 repeat' first | apply And.intro | refine hk _ ?_ | intro hg | omega | exact True.intro | (have h9 := hr (by assumption); omega) | fail
 all_goals clear hk k
 refine AW.cond rfl ?_ ?_
 ·intro hc; try simp at hc
  all_goals try (exfalso; omega; done)
  all_goals (
   have hlt : i < e.length := by assumption
   obtain ⟨x, hx⟩ := at_some hlt
   have hxA := nA_at hx
   have hpx := hP i hlt
   rw [nodeAt_at hx] at hpx
   have hq := nodeF_parts hpx
   have hl : 2 < x.kind → 0 ≤ x.left ∧ x.left.toNat < i := left_of hpx
   have hr := hq.2.1
   have htl := typesL_len e i
   have htk : List.take i ((typesL e i).map I1) = (typesL e i).map I1 := List.take_of_length_le (by simp [htl])
   have hsA : decide (2 < x.kind) = true → (typesL e i)[x.left.toNat]? = some (ownT (nA e x.left.toNat).kind) := fun h => typesL_at (hl (by simpa using h)).2
   have hsB : isTwoB x.kind = true → (typesL e i)[x.right.toNat]? = some (ownT (nA e x.right.toNat).kind) := fun h => typesL_at (hr h).2.2.2
   refine AW.skipN (fun _ h => h) ?_
   refine AW.seq ?_
   refine AW.block ?_
   refine rg [0,4,5,6] ?_
   intro k hk; simp -dsimp [go_sem, -decide_eq_true_eq, -decide_eq_false_iff_not, hx, htl, hsA, hsB]
   repeat' first | apply And.intro | refine hk _ ?_ | intro hg | omega | exact True.intro | (have h9 := hr (by assumption); omega) | fail
   all_goals clear hk k
   refine rg [0,4,5,6,7] ?_
   intro k hk; simp -dsimp [go_sem, -decide_eq_true_eq, -decide_eq_false_iff_not, hx, htl, hsA, hsB]
   repeat' first | apply And.intro | refine hk _ ?_ | intro hg | omega | exact True.intro | (have h9 := hr (by assumption); omega) | fail
   all_goals clear hk k
   refine rg [0,4,5,6,7,8] ?_
   intro k hk; simp -dsimp [go_sem, -decide_eq_true_eq, -decide_eq_false_iff_not, hx, htl, hsA, hsB]
   repeat' first | apply And.intro | refine hk _ ?_ | intro hg | omega | exact True.intro | (have h9 := hr (by assumption); omega) | fail
   all_goals clear hk k
   refine AW.seq ?_
   refine AW.cut ⟨62, [(0, .isl 4 (e.map TNode.ro)), (4, .sl 9 1 0 i), (5, .int .i64 i), (6, .ptr 6 4 0 0), (7, .int .i64 1), (8, .int .i64 1), (27, .bool (decide (x.kind = 9 ∨ x.kind = 10)))], [(6, some ⟨4, [x.ro]⟩), (9, some ⟨1, (typesL e i).map I1⟩)]⟩ ?_ ?_
   ·skip
    refine rgK ?_
    intro k hk; simp +contextual -dsimp (maxSteps := 2000000) [go_sem, -decide_eq_true_eq, -decide_eq_false_iff_not, hx, htl, hsA, hsB]
    repeat' first | apply And.intro | refine hk _ ?_ | (intro hg; try simp only [decide_eq_true_eq, decide_eq_false_iff_not] at hg) | omega | exact True.intro | (have h9 := hr (by assumption); omega) | fail
    all_goals clear hk k
    all_goals (show St.Less _ _; exact Less.of rfl (by simp [go_sem] <;> first | omega | grind) (by simp [go_sem]))
   ·skip
    refine AW.cond rfl ?_ ?_
    ·intro hc; try simp at hc
     all_goals try (exfalso; omega; done)
     all_goals (
      have hk9 : x.kind = 9 ∨ x.kind = 10 := by simpa using hc
      refine rgN [0,4,5,6,7,8] (fun _ h => h) ?_
      intro k hk; simp -dsimp [go_sem, -decide_eq_true_eq, -decide_eq_false_iff_not, hx, htl, hsA, hsB]
      repeat' first | apply And.intro | refine hk _ ?_ | intro hg | omega | exact True.intro | (have h9 := hr (by assumption); omega) | fail
      all_goals clear hk k
      refine AW.seq ?_
      refine rg [0,4,5,6,7,8,30] ?_
      intro k hk; simp -dsimp [go_sem, -decide_eq_true_eq, -decide_eq_false_iff_not, hx, htl, hsA, hsB]
      repeat' first | apply And.intro | refine hk _ ?_ | intro hg | omega | exact True.intro | (have h9 := hr (by assumption); omega) | fail
      all_goals clear hk k
      refine AW.cond rfl ?_ ?_
      ·intro hc; try simp at hc
       all_goals try (exfalso; omega; done)
       all_goals (
        refine rgN [0,4,5,6,7,8] (fun _ h => h) ?_
        intro k hk; simp -dsimp [go_sem, -decide_eq_true_eq, -decide_eq_false_iff_not, hx, htl, hsA, hsB]
        repeat' first | apply And.intro | refine hk _ ?_ | intro hg | omega | exact True.intro | (have h9 := hr (by assumption); omega) | fail
        all_goals clear hk k
        refine AW.seq ?_
        have hpt : partT x.kind = _ := rfl
        refine AW.cut ⟨62, [(0, .isl 4 (e.map TNode.ro)), (4, .sl 9 1 0 i), (5, .int .i64 i), (8, .int .i64 (ownT x.kind)), (56, .bool (typBad e i))], [(9, some ⟨1, (typesL e i).map I1⟩)]⟩ ?_ ?_
        ·skip
         refine rgK ?_
         intro k hk; simp +contextual -dsimp (maxSteps := 2000000) [go_sem, -decide_eq_true_eq, -decide_eq_false_iff_not, hx, htl, hsA, hsB]
         repeat' first | apply And.intro | refine hk _ ?_ | (intro hg; try simp only [decide_eq_true_eq, decide_eq_false_iff_not] at hg) | (refine CallK.intro (dc_spec_l3Two _) ?_; simp +contextual -dsimp (maxSteps := 2000000) [go_sem, -decide_eq_true_eq, -decide_eq_false_iff_not, hx, htl, hsA, hsB]) | omega | exact True.intro | (have h9 := hr (by assumption); omega) | fail
         all_goals clear hk k
         all_goals (show St.Less _ _; exact Less.of rfl (by simp [go_sem, typBad, hxA] <;> grind [ownT, partT]) (by simp [go_sem]))
        ·skip
         refine AW.cond rfl ?_ ?_
         ·intro hc; try simp at hc
          all_goals try (exfalso; omega; done)
          all_goals (
           refine rg [2,3] ?_
           intro k hk; simp -dsimp [go_sem, -decide_eq_true_eq, -decide_eq_false_iff_not, hx, htl, hsA, hsB]
           repeat' first | apply And.intro | refine hk _ ?_ | intro hg | omega | exact True.intro | (have h9 := hr (by assumption); omega) | fail
           all_goals clear hk k
           refine rt ?_
           first | (simp [go_sem, Try.results92]; done) | (exfalso; have hie : i = e.length := (by omega); rw [hie, hub] at hu; cases hu))
         ·intro hc; try simp at hc
          all_goals try (exfalso; omega; done)
          all_goals (
           refine AW.skipN (fun _ h => h) ?_
           refine rgN [0,4,5] (fun _ h => h) ?_
           intro k hk; simp -dsimp [go_sem, -decide_eq_true_eq, -decide_eq_false_iff_not, hx, htl, hsA, hsB]
           repeat' first | apply And.intro | refine hk _ ?_ | intro hg | omega | exact True.intro | (have h9 := hr (by assumption); omega) | fail
           all_goals clear hk k
           refine rgK ?_
           intro k hk; simp -dsimp [go_sem, -decide_eq_true_eq, -decide_eq_false_iff_not, hx, htl, hsA, hsB]
           repeat' first | apply And.intro | refine hk _ ?_ | intro hg | omega | exact True.intro | (have h9 := hr (by assumption); omega) | fail
           all_goals clear hk k
           show ∃ _, _
           have hw := wrapi hlt (by omega)
           have hub : typBad e i = false := by simpa using hc
           refine ⟨i + 1, ⟨by omega, typU_go hu hub⟩, by omega, Less.of rfl (by simp [go_sem, hw]) (by simp [go_sem, typesL_succ, hxA, htk] <;> (unfold ownT; first | omega | (split <;> omega)))⟩))
      ·intro hc; try simp at hc
       all_goals try (exfalso; omega; done)
       all_goals (
        refine AW.skipN (fun _ h => h) ?_
        refine AW.seq ?_
        have hpt : partT x.kind = _ := rfl
        refine AW.cut ⟨62, [(0, .isl 4 (e.map TNode.ro)), (4, .sl 9 1 0 i), (5, .int .i64 i), (8, .int .i64 (ownT x.kind)), (56, .bool (typBad e i))], [(9, some ⟨1, (typesL e i).map I1⟩)]⟩ ?_ ?_
        ·skip
         refine rgK ?_
         intro k hk; simp +contextual -dsimp (maxSteps := 2000000) [go_sem, -decide_eq_true_eq, -decide_eq_false_iff_not, hx, htl, hsA, hsB]
         repeat' first | apply And.intro | refine hk _ ?_ | (intro hg; try simp only [decide_eq_true_eq, decide_eq_false_iff_not] at hg) | (refine CallK.intro (dc_spec_l3Two _) ?_; simp +contextual -dsimp (maxSteps := 2000000) [go_sem, -decide_eq_true_eq, -decide_eq_false_iff_not, hx, htl, hsA, hsB]) | omega | exact True.intro | (have h9 := hr (by assumption); omega) | fail
         all_goals clear hk k
         all_goals (show St.Less _ _; exact Less.of rfl (by simp [go_sem, typBad, hxA] <;> grind [ownT, partT]) (by simp [go_sem]))
        ·skip
         refine AW.cond rfl ?_ ?_
         ·intro hc; try simp at hc
          all_goals try (exfalso; omega; done)
          all_goals (
           refine rg [2,3] ?_
           intro k hk; simp -dsimp [go_sem, -decide_eq_true_eq, -decide_eq_false_iff_not, hx, htl, hsA, hsB]
           repeat' first | apply And.intro | refine hk _ ?_ | intro hg | omega | exact True.intro | (have h9 := hr (by assumption); omega) | fail
           all_goals clear hk k
           refine rt ?_
           first | (simp [go_sem, Try.results92]; done) | (exfalso; have hie : i = e.length := (by omega); rw [hie, hub] at hu; cases hu))
         ·intro hc; try simp at hc
          all_goals try (exfalso; omega; done)
          all_goals (
           refine AW.skipN (fun _ h => h) ?_
           refine rgN [0,4,5] (fun _ h => h) ?_
           intro k hk; simp -dsimp [go_sem, -decide_eq_true_eq, -decide_eq_false_iff_not, hx, htl, hsA, hsB]
           repeat' first | apply And.intro | refine hk _ ?_ | intro hg | omega | exact True.intro | (have h9 := hr (by assumption); omega) | fail
           all_goals clear hk k
           refine rgK ?_
           intro k hk; simp -dsimp [go_sem, -decide_eq_true_eq, -decide_eq_false_iff_not, hx, htl, hsA, hsB]
           repeat' first | apply And.intro | refine hk _ ?_ | intro hg | omega | exact True.intro | (have h9 := hr (by assumption); omega) | fail
           all_goals clear hk k
           show ∃ _, _
           have hw := wrapi hlt (by omega)
           have hub : typBad e i = false := by simpa using hc
           refine ⟨i + 1, ⟨by omega, typU_go hu hub⟩, by omega, Less.of rfl (by simp [go_sem, hw]) (by simp [go_sem, typesL_succ, hxA, htk] <;> (unfold ownT; first | omega | (split <;> omega)))⟩)))
    ·intro hc; try simp at hc
     all_goals try (exfalso; omega; done)
     all_goals (
      refine AW.skipN (fun _ h => h) ?_
      refine AW.seq ?_
      refine rg [0,4,5,6,7,8,30] ?_
      intro k hk; simp -dsimp [go_sem, -decide_eq_true_eq, -decide_eq_false_iff_not, hx, htl, hsA, hsB]
      repeat' first | apply And.intro | refine hk _ ?_ | intro hg | omega | exact True.intro | (have h9 := hr (by assumption); omega) | fail
      all_goals clear hk k
      refine AW.cond rfl ?_ ?_
      ·intro hc; try simp at hc
       all_goals try (exfalso; omega; done)
       all_goals (
        refine rgN [0,4,5,6,7,8] (fun _ h => h) ?_
        intro k hk; simp -dsimp [go_sem, -decide_eq_true_eq, -decide_eq_false_iff_not, hx, htl, hsA, hsB]
        repeat' first | apply And.intro | refine hk _ ?_ | intro hg | omega | exact True.intro | (have h9 := hr (by assumption); omega) | fail
        all_goals clear hk k
        refine AW.seq ?_
        have hpt : partT x.kind = _ := rfl
        refine AW.cut ⟨62, [(0, .isl 4 (e.map TNode.ro)), (4, .sl 9 1 0 i), (5, .int .i64 i), (8, .int .i64 (ownT x.kind)), (56, .bool (typBad e i))], [(9, some ⟨1, (typesL e i).map I1⟩)]⟩ ?_ ?_
        ·skip
         refine rgK ?_
         intro k hk; simp +contextual -dsimp (maxSteps := 2000000) [go_sem, -decide_eq_true_eq, -decide_eq_false_iff_not, hx, htl, hsA, hsB]
         repeat' first | apply And.intro | refine hk _ ?_ | (intro hg; try simp only [decide_eq_true_eq, decide_eq_false_iff_not] at hg) | (refine CallK.intro (dc_spec_l3Two _) ?_; simp +contextual -dsimp (maxSteps := 2000000) [go_sem, -decide_eq_true_eq, -decide_eq_false_iff_not, hx, htl, hsA, hsB]) | omega | exact True.intro | (have h9 := hr (by assumption); omega) | fail
         all_goals clear hk k
         all_goals (show St.Less _ _; exact Less.of rfl (by simp [go_sem, typBad, hxA] <;> grind [ownT, partT]) (by simp [go_sem]))
        ·skip
         refine AW.cond rfl ?_ ?_
         ·intro hc; try simp at hc
          all_goals try (exfalso; omega; done)
          all_goals (
           refine rg [2,3] ?_
           intro k hk; simp -dsimp [go_sem, -decide_eq_true_eq, -decide_eq_false_iff_not, hx, htl, hsA, hsB]
           repeat' first | apply And.intro | refine hk _ ?_ | intro hg | omega | exact True.intro | (have h9 := hr (by assumption); omega) | fail
           all_goals clear hk k
           refine rt ?_
           first | (simp [go_sem, Try.results92]; done) | (exfalso; have hie : i = e.length := (by omega); rw [hie, hub] at hu; cases hu))
         ·intro hc; try simp at hc
          all_goals try (exfalso; omega; done)
          all_goals (
           refine AW.skipN (fun _ h => h) ?_
           refine rgN [0,4,5] (fun _ h => h) ?_
           intro k hk; simp -dsimp [go_sem, -decide_eq_true_eq, -decide_eq_false_iff_not, hx, htl, hsA, hsB]
           repeat' first | apply And.intro | refine hk _ ?_ | intro hg | omega | exact True.intro | (have h9 := hr (by assumption); omega) | fail
           all_goals clear hk k
           refine rgK ?_
           intro k hk; simp -dsimp [go_sem, -decide_eq_true_eq, -decide_eq_false_iff_not, hx, htl, hsA, hsB]
           repeat' first | apply And.intro | refine hk _ ?_ | intro hg | omega | exact True.intro | (have h9 := hr (by assumption); omega) | fail
           all_goals clear hk k
           show ∃ _, _
           have hw := wrapi hlt (by omega)
           have hub : typBad e i = false := by simpa using hc
           refine ⟨i + 1, ⟨by omega, typU_go hu hub⟩, by omega, Less.of rfl (by simp [go_sem, hw]) (by simp [go_sem, typesL_succ, hxA, htk] <;> (unfold ownT; first | omega | (split <;> omega)))⟩))
      ·intro hc; try simp at hc
       all_goals try (exfalso; omega; done)
       all_goals (
        refine AW.skipN (fun _ h => h) ?_
        refine AW.seq ?_
        have hpt : partT x.kind = _ := rfl
        refine AW.cut ⟨62, [(0, .isl 4 (e.map TNode.ro)), (4, .sl 9 1 0 i), (5, .int .i64 i), (8, .int .i64 (ownT x.kind)), (56, .bool (typBad e i))], [(9, some ⟨1, (typesL e i).map I1⟩)]⟩ ?_ ?_
        ·skip
         refine rgK ?_
         intro k hk; simp +contextual -dsimp (maxSteps := 2000000) [go_sem, -decide_eq_true_eq, -decide_eq_false_iff_not, hx, htl, hsA, hsB]
         repeat' first | apply And.intro | refine hk _ ?_ | (intro hg; try simp only [decide_eq_true_eq, decide_eq_false_iff_not] at hg) | (refine CallK.intro (dc_spec_l3Two _) ?_; simp +contextual -dsimp (maxSteps := 2000000) [go_sem, -decide_eq_true_eq, -decide_eq_false_iff_not, hx, htl, hsA, hsB]) | omega | exact True.intro | (have h9 := hr (by assumption); omega) | fail
         all_goals clear hk k
         all_goals (show St.Less _ _; exact Less.of rfl (by simp [go_sem, typBad, hxA] <;> grind [ownT, partT]) (by simp [go_sem]))
        ·skip
         refine AW.cond rfl ?_ ?_
         ·intro hc; try simp at hc
          all_goals try (exfalso; omega; done)
          all_goals (
           refine rg [2,3] ?_
           intro k hk; simp -dsimp [go_sem, -decide_eq_true_eq, -decide_eq_false_iff_not, hx, htl, hsA, hsB]
           repeat' first | apply And.intro | refine hk _ ?_ | intro hg | omega | exact True.intro | (have h9 := hr (by assumption); omega) | fail
           all_goals clear hk k
           refine rt ?_
           first | (simp [go_sem, Try.results92]; done) | (exfalso; have hie : i = e.length := (by omega); rw [hie, hub] at hu; cases hu))
         ·intro hc; try simp at hc
          all_goals try (exfalso; omega; done)
          all_goals (
           refine AW.skipN (fun _ h => h) ?_
           refine rgN [0,4,5] (fun _ h => h) ?_
           intro k hk; simp -dsimp [go_sem, -decide_eq_true_eq, -decide_eq_false_iff_not, hx, htl, hsA, hsB]
           repeat' first | apply And.intro | refine hk _ ?_ | intro hg | omega | exact True.intro | (have h9 := hr (by assumption); omega) | fail
           all_goals clear hk k
           refine rgK ?_
           intro k hk; simp -dsimp [go_sem, -decide_eq_true_eq, -decide_eq_false_iff_not, hx, htl, hsA, hsB]
           repeat' first | apply And.intro | refine hk _ ?_ | intro hg | omega | exact True.intro | (have h9 := hr (by assumption); omega) | fail
           all_goals clear hk k
           show ∃ _, _
           have hw := wrapi hlt (by omega)
           have hub : typBad e i = false := by simpa using hc
           refine ⟨i + 1, ⟨by omega, typU_go hu hub⟩, by omega, Less.of rfl (by simp [go_sem, hw]) (by simp [go_sem, typesL_succ, hxA, htk] <;> (unfold ownT; first | omega | (split <;> omega)))⟩))))
 ·intro hc; try simp at hc
  all_goals try (exfalso; omega; done)
  all_goals (
   refine AW.exitN (fun _ h => h) ?_
   refine rg [2,3] ?_
   intro k hk; simp -dsimp [go_sem, -decide_eq_true_eq, -decide_eq_false_iff_not]
   repeat' first | apply And.intro | refine hk _ ?_ | intro hg | omega | exact True.intro | (have h9 := hr (by assumption); omega) | fail
   all_goals clear hk k
   refine rt ?_
   first | (simp [go_sem, Try.results92]; done) | (exfalso; have hie : i = e.length := (by omega); rw [hie, hub] at hu; cases hu))
theorem dc_spec_l3Types_k (e : List TNode) (hP : PartsOk e e.length) (hlen : e.length ≤ 16) (huk : typU e e.length = false) : DC Try.prog 92 [.isl 4 (e.map TNode.ro)] (.tup [.osl 1 ((typesL e e.length).map I1), .bool true]) [] := by
 refine DC.intro tiOk Try.func92 rfl rfl rfl rfl rfl rfl rfl rfl [1001] ?_
 refine rg [0] ?_
 intro k hk; simp -dsimp [go_sem, -decide_eq_true_eq, -decide_eq_false_iff_not]
 repeat' first | apply And.intro | refine hk _ ?_ | intro hg | omega | exact True.intro | (have h9 := hr (by assumption); omega) | fail
 all_goals clear hk k
 refine rg [0,4] ?_
 intro k hk; simp -dsimp [go_sem, -decide_eq_true_eq, -decide_eq_false_iff_not]
 repeat' first | apply And.intro | refine hk _ ?_ | intro hg | omega | exact True.intro | (have h9 := hr (by assumption); omega) | fail
 all_goals clear hk k
 refine AW.seq ?_
 refine rg [0,4,5] ?_
 intro k hk; simp -dsimp [go_sem, -decide_eq_true_eq, -decide_eq_false_iff_not]
 repeat' first | apply And.intro | refine hk _ ?_ | intro hg | omega | exact True.intro | (have h9 := hr (by assumption); omega) | fail
 all_goals clear hk k
 refine AW.block ?_
 refine AW.rename (nd := ?nd_1) 9 60 ?h1_1 ?h2_1 ?h4_1 ?kk_1
 (case h1_1 => exact rfl)
 (case h2_1 => simp [go_sem])
 (case h4_1 => simp [go_sem])
 refine AW.loopI (fun i : Nat => ⟨62, [(0, .isl 4 (e.map TNode.ro)), (4, .sl 60 1 0 i), (5, .int .i64 i)], [(60, some ⟨1, (typesL e i).map I1⟩)]⟩) (fun i => i ≤ e.length ∧ typU e i = false) (fun i => e.length - i) (0) (by simp [typU]) (Less.of rfl (by simp [go_sem]) (by simp [go_sem, typesL])) ?_
 rintro i ⟨hi, hu⟩
 refine AW.rename (nd := ?nd_2) 60 9 ?h1_2 ?h2_2 ?h4_2 ?kk_2
 (case h1_2 => exact rfl)
 (case h2_2 => simp [go_sem])
 (case h4_2 => simp [go_sem])
 refine AW.seq ?_
 refine rg [0,4,5,13] ?_
 intro k hk; simp -dsimp [go_sem, -decide_eq_true_eq, -decide_eq_false_iff_not]
 repeat' first | apply And.intro | refine hk _ ?_ | intro hg | omega | exact True.intro | (have h9 := hr (by assumption); omega) | fail
 all_goals clear hk k
 refine AW.cond rfl ?_ ?_
 ·intro hc; try simp at hc
  all_goals try (exfalso; omega; done)
  all_goals (
   have hlt : i < e.length := by assumption
   obtain ⟨x, hx⟩ := at_some hlt
   have hxA := nA_at hx
   have hpx := hP i hlt
   rw [nodeAt_at hx] at hpx
   have hq := nodeF_parts hpx
   have hl : 2 < x.kind → 0 ≤ x.left ∧ x.left.toNat < i := left_of hpx
   have hr := hq.2.1
   have htl := typesL_len e i
   have htk : List.take i ((typesL e i).map I1) = (typesL e i).map I1 := List.take_of_length_le (by simp [htl])
   have hsA : decide (2 < x.kind) = true → (typesL e i)[x.left.toNat]? = some (ownT (nA e x.left.toNat).kind) := fun h => typesL_at (hl (by simpa using h)).2
   have hsB : isTwoB x.kind = true → (typesL e i)[x.right.toNat]? = some (ownT (nA e x.right.toNat).kind) := fun h => typesL_at (hr h).2.2.2
   refine AW.skipN (fun _ h => h) ?_
   refine AW.seq ?_
   refine AW.block ?_
   refine rg [0,4,5,6] ?_
   intro k hk; simp -dsimp [go_sem, -decide_eq_true_eq, -decide_eq_false_iff_not, hx, htl, hsA, hsB]
   repeat' first | apply And.intro | refine hk _ ?_ | intro hg | omega | exact True.intro | (have h9 := hr (by assumption); omega) | fail
   all_goals clear hk k
   refine rg [0,4,5,6,7] ?_
   intro k hk; simp -dsimp [go_sem, -decide_eq_true_eq, -decide_eq_false_iff_not, hx, htl, hsA, hsB]
   repeat' first | apply And.intro | refine hk _ ?_ | intro hg | omega | exact True.intro | (have h9 := hr (by assumption); omega) | fail
   all_goals clear hk k
   refine rg [0,4,5,6,7,8] ?_
   intro k hk; simp -dsimp [go_sem, -decide_eq_true_eq, -decide_eq_false_iff_not, hx, htl, hsA, hsB]
   repeat' first | apply And.intro | refine hk _ ?_ | intro hg | omega | exact True.intro | (have h9 := hr (by assumption); omega) | fail
   all_goals clear hk k
   refine AW.seq ?_
   refine AW.cut ⟨62, [(0, .isl 4 (e.map TNode.ro)), (4, .sl 9 1 0 i), (5, .int .i64 i), (6, .ptr 6 4 0 0), (7, .int .i64 1), (8, .int .i64 1), (27, .bool (decide (x.kind = 9 ∨ x.kind = 10)))], [(6, some ⟨4, [x.ro]⟩), (9, some ⟨1, (typesL e i).map I1⟩)]⟩ ?_ ?_
   ·skip
    refine rgK ?_
    intro k hk; simp +contextual -dsimp (maxSteps := 2000000) [go_sem, -decide_eq_true_eq, -decide_eq_false_iff_not, hx, htl, hsA, hsB]
    repeat' first | apply And.intro | refine hk _ ?_ | (intro hg; try simp only [decide_eq_true_eq, decide_eq_false_iff_not] at hg) | omega | exact True.intro | (have h9 := hr (by assumption); omega) | fail
    all_goals clear hk k
    all_goals (show St.Less _ _; exact Less.of rfl (by simp [go_sem] <;> first | omega | grind) (by simp [go_sem]))
   ·skip
    refine AW.cond rfl ?_ ?_
    ·intro hc; try simp at hc
     all_goals try (exfalso; omega; done)
     all_goals (
      have hk9 : x.kind = 9 ∨ x.kind = 10 := by simpa using hc
      refine rgN [0,4,5,6,7,8] (fun _ h => h) ?_
      intro k hk; simp -dsimp [go_sem, -decide_eq_true_eq, -decide_eq_false_iff_not, hx, htl, hsA, hsB]
      repeat' first | apply And.intro | refine hk _ ?_ | intro hg | omega | exact True.intro | (have h9 := hr (by assumption); omega) | fail
      all_goals clear hk k
      refine AW.seq ?_
      refine rg [0,4,5,6,7,8,30] ?_
      intro k hk; simp -dsimp [go_sem, -decide_eq_true_eq, -decide_eq_false_iff_not, hx, htl, hsA, hsB]
      repeat' first | apply And.intro | refine hk _ ?_ | intro hg | omega | exact True.intro | (have h9 := hr (by assumption); omega) | fail
      all_goals clear hk k
      refine AW.cond rfl ?_ ?_
      ·intro hc; try simp at hc
       all_goals try (exfalso; omega; done)
       all_goals (
        refine rgN [0,4,5,6,7,8] (fun _ h => h) ?_
        intro k hk; simp -dsimp [go_sem, -decide_eq_true_eq, -decide_eq_false_iff_not, hx, htl, hsA, hsB]
        repeat' first | apply And.intro | refine hk _ ?_ | intro hg | omega | exact True.intro | (have h9 := hr (by assumption); omega) | fail
        all_goals clear hk k
        refine AW.seq ?_
        have hpt : partT x.kind = _ := rfl
        refine AW.cut ⟨62, [(0, .isl 4 (e.map TNode.ro)), (4, .sl 9 1 0 i), (5, .int .i64 i), (8, .int .i64 (ownT x.kind)), (56, .bool (typBad e i))], [(9, some ⟨1, (typesL e i).map I1⟩)]⟩ ?_ ?_
        ·skip
         refine rgK ?_
         intro k hk; simp +contextual -dsimp (maxSteps := 2000000) [go_sem, -decide_eq_true_eq, -decide_eq_false_iff_not, hx, htl, hsA, hsB]
         repeat' first | apply And.intro | refine hk _ ?_ | (intro hg; try simp only [decide_eq_true_eq, decide_eq_false_iff_not] at hg) | (refine CallK.intro (dc_spec_l3Two _) ?_; simp +contextual -dsimp (maxSteps := 2000000) [go_sem, -decide_eq_true_eq, -decide_eq_false_iff_not, hx, htl, hsA, hsB]) | omega | exact True.intro | (have h9 := hr (by assumption); omega) | fail
         all_goals clear hk k
         all_goals (show St.Less _ _; exact Less.of rfl (by simp [go_sem, typBad, hxA] <;> grind [ownT, partT]) (by simp [go_sem]))
        ·skip
         refine AW.cond rfl ?_ ?_
         ·intro hc; try simp at hc
          all_goals try (exfalso; omega; done)
          all_goals (
           refine rg [2,3] ?_
           intro k hk; simp -dsimp [go_sem, -decide_eq_true_eq, -decide_eq_false_iff_not, hx, htl, hsA, hsB]
           repeat' first | apply And.intro | refine hk _ ?_ | intro hg | omega | exact True.intro | (have h9 := hr (by assumption); omega) | fail
           all_goals clear hk k
           refine rt ?_
           first | (exfalso; have h8 := typU_hit hlt (by first | assumption | simpa using hc); rw [huk] at h8; cases h8) | (have hie : i = e.length := (by omega); simp [go_sem, Try.results92, hie, typesL_len]))
         ·intro hc; try simp at hc
          all_goals try (exfalso; omega; done)
          all_goals (
           refine AW.skipN (fun _ h => h) ?_
           refine rgN [0,4,5] (fun _ h => h) ?_
           intro k hk; simp -dsimp [go_sem, -decide_eq_true_eq, -decide_eq_false_iff_not, hx, htl, hsA, hsB]
           repeat' first | apply And.intro | refine hk _ ?_ | intro hg | omega | exact True.intro | (have h9 := hr (by assumption); omega) | fail
           all_goals clear hk k
           refine rgK ?_
           intro k hk; simp -dsimp [go_sem, -decide_eq_true_eq, -decide_eq_false_iff_not, hx, htl, hsA, hsB]
           repeat' first | apply And.intro | refine hk _ ?_ | intro hg | omega | exact True.intro | (have h9 := hr (by assumption); omega) | fail
           all_goals clear hk k
           show ∃ _, _
           have hw := wrapi hlt (by omega)
           have hub : typBad e i = false := by simpa using hc
           refine ⟨i + 1, ⟨by omega, typU_go hu hub⟩, by omega, Less.of rfl (by simp [go_sem, hw]) (by simp [go_sem, typesL_succ, hxA, htk] <;> (unfold ownT; first | omega | (split <;> omega)))⟩))
      ·intro hc; try simp at hc
       all_goals try (exfalso; omega; done)
       all_goals (
        refine AW.skipN (fun _ h => h) ?_
        refine AW.seq ?_
        have hpt : partT x.kind = _ := rfl
        refine AW.cut ⟨62, [(0, .isl 4 (e.map TNode.ro)), (4, .sl 9 1 0 i), (5, .int .i64 i), (8, .int .i64 (ownT x.kind)), (56, .bool (typBad e i))], [(9, some ⟨1, (typesL e i).map I1⟩)]⟩ ?_ ?_
        ·skip
         refine rgK ?_
         intro k hk; simp +contextual -dsimp (maxSteps := 2000000) [go_sem, -decide_eq_true_eq, -decide_eq_false_iff_not, hx, htl, hsA, hsB]
         repeat' first | apply And.intro | refine hk _ ?_ | (intro hg; try simp only [decide_eq_true_eq, decide_eq_false_iff_not] at hg) | (refine CallK.intro (dc_spec_l3Two _) ?_; simp +contextual -dsimp (maxSteps := 2000000) [go_sem, -decide_eq_true_eq, -decide_eq_false_iff_not, hx, htl, hsA, hsB]) | omega | exact True.intro | (have h9 := hr (by assumption); omega) | fail
         all_goals clear hk k
         all_goals (show St.Less _ _; exact Less.of rfl (by simp [go_sem, typBad, hxA] <;> grind [ownT, partT]) (by simp [go_sem]))
        ·skip
         refine AW.cond rfl ?_ ?_
         ·intro hc; try simp at hc
          all_goals try (exfalso; omega; done)
          all_goals (
           refine rg [2,3] ?_
           intro k hk; simp -dsimp [go_sem, -decide_eq_true_eq, -decide_eq_false_iff_not, hx, htl, hsA, hsB]
           repeat' first | apply And.intro | refine hk _ ?_ | intro hg | omega | exact True.intro | (have h9 := hr (by assumption); omega) | fail
           all_goals clear hk k
           refine rt ?_
           first | (exfalso; have h8 := typU_hit hlt (by first | assumption | simpa using hc); rw [huk] at h8; cases h8) | (have hie : i = e.length := (by omega); simp [go_sem, Try.results92, hie, typesL_len]))
         ·intro hc; try simp at hc
          all_goals try (exfalso; omega; done)
          all_goals (
           refine AW.skipN (fun _ h => h) ?_
           refine rgN [0,4,5] (fun _ h => h) ?_
           intro k hk; simp -dsimp [go_sem, -decide_eq_true_eq, -decide_eq_false_iff_not, hx, htl, hsA, hsB]
           repeat' first | apply And.intro | refine hk _ ?_ | intro hg | omega | exact True.intro | (have h9 := hr (by assumption); omega) | fail
           all_goals clear hk k
           refine rgK ?_
           intro k hk; simp -dsimp [go_sem, -decide_eq_true_eq, -decide_eq_false_iff_not, hx, htl, hsA, hsB]
           repeat' first | apply And.intro | refine hk _ ?_ | intro hg | omega | exact True.intro | (have h9 := hr (by assumption); omega) | fail
           all_goals clear hk k
           show ∃ _, _
           have hw := wrapi hlt (by omega)
           have hub : typBad e i = false := by simpa using hc
           refine ⟨i + 1, ⟨by omega, typU_go hu hub⟩, by omega, Less.of rfl (by simp [go_sem, hw]) (by simp [go_sem, typesL_succ, hxA, htk] <;> (unfold ownT; first | omega | (split <;> omega)))⟩)))
    ·intro hc; try simp at hc
     all_goals try (exfalso; omega; done)
     all_goals (
      refine AW.skipN (fun _ h => h) ?_
      refine AW.seq ?_
      refine rg [0,4,5,6,7,8,30] ?_
      intro k hk; simp -dsimp [go_sem, -decide_eq_true_eq, -decide_eq_false_iff_not, hx, htl, hsA, hsB]
      repeat' first | apply And.intro | refine hk _ ?_ | intro hg | omega | exact True.intro | (have h9 := hr (by assumption); omega) | fail
      all_goals clear hk k
      refine AW.cond rfl ?_ ?_
      ·intro hc; try simp at hc
       all_goals try (exfalso; omega; done)
       all_goals (
        refine rgN [0,4,5,6,7,8] (fun _ h => h) ?_
        intro k hk; simp -dsimp [go_sem, -decide_eq_true_eq, -decide_eq_false_iff_not, hx, htl, hsA, hsB]
        repeat' first | apply And.intro | refine hk _ ?_ | intro hg | omega | exact True.intro | (have h9 := hr (by assumption); omega) | fail
        all_goals clear hk k
        refine AW.seq ?_
        have hpt : partT x.kind = _ := rfl
        refine AW.cut ⟨62, [(0, .isl 4 (e.map TNode.ro)), (4, .sl 9 1 0 i), (5, .int .i64 i), (8, .int .i64 (ownT x.kind)), (56, .bool (typBad e i))], [(9, some ⟨1, (typesL e i).map I1⟩)]⟩ ?_ ?_
        ·skip
         refine rgK ?_
         intro k hk; simp +contextual -dsimp (maxSteps := 2000000) [go_sem, -decide_eq_true_eq, -decide_eq_false_iff_not, hx, htl, hsA, hsB]
         repeat' first | apply And.intro | refine hk _ ?_ | (intro hg; try simp only [decide_eq_true_eq, decide_eq_false_iff_not] at hg) | (refine CallK.intro (dc_spec_l3Two _) ?_; simp +contextual -dsimp (maxSteps := 2000000) [go_sem, -decide_eq_true_eq, -decide_eq_false_iff_not, hx, htl, hsA, hsB]) | omega | exact True.intro | (have h9 := hr (by assumption); omega) | fail
         all_goals clear hk k
         all_goals (show St.Less _ _; exact Less.of rfl (by simp [go_sem, typBad, hxA] <;> grind [ownT, partT]) (by simp [go_sem]))
        ·skip
         refine AW.cond rfl ?_ ?_
         ·intro hc; try simp at hc
          all_goals try (exfalso; omega; done)
          all_goals (
           refine rg [2,3] ?_
           intro k hk; simp -dsimp [go_sem, -decide_eq_true_eq, -decide_eq_false_iff_not, hx, htl, hsA, hsB]
           repeat' first | apply And.intro | refine hk _ ?_ | intro hg | omega | exact True.intro | (have h9 := hr (by assumption); omega) | fail
           all_goals clear hk k
           refine rt ?_
           first | (exfalso; have h8 := typU_hit hlt (by first | assumption | simpa using hc); rw [huk] at h8; cases h8) | (have hie : i = e.length := (by omega); simp [go_sem, Try.results92, hie, typesL_len]))
         ·intro hc; try simp at hc
          all_goals try (exfalso; omega; done)
          all_goals (
           refine AW.skipN (fun _ h => h) ?_
           refine rgN [0,4,5] (fun _ h => h) ?_
           intro k hk; simp -dsimp [go_sem, -decide_eq_true_eq, -decide_eq_false_iff_not, hx, htl, hsA, hsB]
           repeat' first | apply And.intro | refine hk _ ?_ | intro hg | omega | exact True.intro | (have h9 := hr (by assumption); omega) | fail
           all_goals clear hk k
           refine rgK ?_
           intro k hk; simp -dsimp [go_sem, -decide_eq_true_eq, -decide_eq_false_iff_not, hx, htl, hsA, hsB]
           repeat' first | apply And.intro | refine hk _ ?_ | intro hg | omega | exact True.intro | (have h9 := hr (by assumption); omega) | fail
           all_goals clear hk k
           show ∃ _, _
           have hw := wrapi hlt (by omega)
           have hub : typBad e i = false := by simpa using hc
           refine ⟨i + 1, ⟨by omega, typU_go hu hub⟩, by omega, Less.of rfl (by simp [go_sem, hw]) (by simp [go_sem, typesL_succ, hxA, htk] <;> (unfold ownT; first | omega | (split <;> omega)))⟩))
      ·intro hc; try simp at hc
       all_goals try (exfalso; omega; done)
       all_goals (
        refine AW.skipN (fun _ h => h) ?_
        refine AW.seq ?_
        have hpt : partT x.kind = _ := rfl
        refine AW.cut ⟨62, [(0, .isl 4 (e.map TNode.ro)), (4, .sl 9 1 0 i), (5, .int .i64 i), (8, .int .i64 (ownT x.kind)), (56, .bool (typBad e i))], [(9, some ⟨1, (typesL e i).map I1⟩)]⟩ ?_ ?_
        ·skip
         refine rgK ?_
         intro k hk; simp +contextual -dsimp (maxSteps := 2000000) [go_sem, -decide_eq_true_eq, -decide_eq_false_iff_not, hx, htl, hsA, hsB]
         repeat' first | apply And.intro | refine hk _ ?_ | (intro hg; try simp only [decide_eq_true_eq, decide_eq_false_iff_not] at hg) | (refine CallK.intro (dc_spec_l3Two _) ?_; simp +contextual -dsimp (maxSteps := 2000000) [go_sem, -decide_eq_true_eq, -decide_eq_false_iff_not, hx, htl, hsA, hsB]) | omega | exact True.intro | (have h9 := hr (by assumption); omega) | fail
         all_goals clear hk k
         all_goals (show St.Less _ _; exact Less.of rfl (by simp [go_sem, typBad, hxA] <;> grind [ownT, partT]) (by simp [go_sem]))
        ·skip
         refine AW.cond rfl ?_ ?_
         ·intro hc; try simp at hc
          all_goals try (exfalso; omega; done)
          all_goals (
           refine rg [2,3] ?_
           intro k hk; simp -dsimp [go_sem, -decide_eq_true_eq, -decide_eq_false_iff_not, hx, htl, hsA, hsB]
           repeat' first | apply And.intro | refine hk _ ?_ | intro hg | omega | exact True.intro | (have h9 := hr (by assumption); omega) | fail
           all_goals clear hk k
           refine rt ?_
           first | (exfalso; have h8 := typU_hit hlt (by first | assumption | simpa using hc); rw [huk] at h8; cases h8) | (have hie : i = e.length := (by omega); simp [go_sem, Try.results92, hie, typesL_len]))
         ·intro hc; try simp at hc
          all_goals try (exfalso; omega; done)
          all_goals (
           refine AW.skipN (fun _ h => h) ?_
           refine rgN [0,4,5] (fun _ h => h) ?_
           intro k hk; simp -dsimp [go_sem, -decide_eq_true_eq, -decide_eq_false_iff_not, hx, htl, hsA, hsB]
           repeat' first | apply And.intro | refine hk _ ?_ | intro hg | omega | exact True.intro | (have h9 := hr (by assumption); omega) | fail
           all_goals clear hk k
           refine rgK ?_
           intro k hk; simp -dsimp [go_sem, -decide_eq_true_eq, -decide_eq_false_iff_not, hx, htl, hsA, hsB]
           repeat' first | apply And.intro | refine hk _ ?_ | intro hg | omega | exact True.intro | (have h9 := hr (by assumption); omega) | fail
           all_goals clear hk k
           show ∃ _, _
           have hw := wrapi hlt (by omega)
           have hub : typBad e i = false := by simpa using hc
           refine ⟨i + 1, ⟨by omega, typU_go hu hub⟩, by omega, Less.of rfl (by simp [go_sem, hw]) (by simp [go_sem, typesL_succ, hxA, htk] <;> (unfold ownT; first | omega | (split <;> omega)))⟩))))
 ·intro hc; try simp at hc
  all_goals try (exfalso; omega; done)
  all_goals (
   refine AW.exitN (fun _ h => h) ?_
   refine rg [2,3] ?_
   intro k hk; simp -dsimp [go_sem, -decide_eq_true_eq, -decide_eq_false_iff_not]
   repeat' first | apply And.intro | refine hk _ ?_ | intro hg | omega | exact True.intro | (have h9 := hr (by assumption); omega) | fail
   all_goals clear hk k
   refine rt ?_
   first | (exfalso; have h8 := typU_hit hlt (by first | assumption | simpa using hc); rw [huk] at h8; cases h8) | (have hie : i = e.length := (by omega); simp [go_sem, Try.results92, hie, typesL_len]))
end Go.AM
