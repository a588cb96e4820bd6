/- Joined texts: T4 Ps Pq L25. -/
import Derived.Test.YtajbihmllfodoaaB1
import Derived.Test.YtajbihmllfodoaaB2
import Derived.Test.YtajbihmllfodoaaB3
import Derived.Test.YtajbihmllfodoaaB4
import Derived.Test.YtajbihmllfodoaaB5
import Derived.Test.YtajbihmllfodoaaB6
set_option linter.unusedVariables false
set_option linter.unusedSimpArgs false
set_option maxHeartbeats 600000
set_option maxRecDepth 100000
namespace Go.AM
open Go.Proofs

/-- laws.toStep -/
theorem dc_laws_toStep (x : TStep) (hs : x.sz ≤ 1048576) : DC Try.prog 26 [.agg x.ro] (.agg [.int .i64 x.kind, .int .i64 x.par, .str x.name, .int .i64 x.arg, .osl 4 (x.cond.map TNode.ro), .osl 4 (x.expr.map TNode.ro)]) [] := by
 unfold TStep.sz at hs
 have h4 : x.cond.length ≤ 1048576 := by omega
 have h5 : x.expr.length ≤ 1048576 := by omega
 refine DC.intro tiOk Try.func26 rfl rfl rfl rfl rfl rfl rfl rfl [1000] ?_
 refine rgA [1,2] ?_
 refine rgA [1,2,3] ?_
 refine rgA [1,2,3] ?_
 refine rgA [1,2,3] ?_
 refine rgA [1,2,3] ?_
 refine rgA [1,2,3] ?_
 refine rg [1,2,3] ?_
 intro k hk; simp -dsimp (maxSteps := 2000000) [go_sem, -decide_eq_true_eq, -decide_eq_false_iff_not]
 repeat' first | apply And.intro | refine hk _ ?_ | intro hg | (refine CallK.intro (dc_laws_toNodeS _ (by assumption)) ?_; simp -dsimp (maxSteps := 2000000) [go_sem, -decide_eq_true_eq, -decide_eq_false_iff_not]) | omega | exact True.intro
 all_goals clear hk k
 refine rg [2,3] ?_
 intro k hk; simp -dsimp (maxSteps := 2000000) [go_sem, -decide_eq_true_eq, -decide_eq_false_iff_not]
 repeat' first | apply And.intro | refine hk _ ?_ | intro hg | (refine CallK.intro (dc_laws_toNodeS _ (by assumption)) ?_; simp -dsimp (maxSteps := 2000000) [go_sem, -decide_eq_true_eq, -decide_eq_false_iff_not]) | omega | exact True.intro
 all_goals clear hk k
 refine rgA [2] ?_
 refine rt ?_
 simp [go_sem, Try.results26]

/-- laws.toStepS -/
theorem dc_laws_toStepS (l : List TStep) (hl : l.length ≤ 1048576 ∧ ∀ e ∈ l, e.sz ≤ 1048576) : DC Try.prog 8 [.isl 6 (l.map TStep.ro)] (.osl 6 (l.map TStep.oc)) [] := by
 obtain ⟨hl, hg⟩ := hl
 have idz : ∀ i, (fill TStep.oc [.int .i64 0, .int .i64 0, .str [], .int .i64 0, .nils, .nils] l i).flatMap idsL = [] := fun i => fill_ids (by intro x; simp [go_sem]) (by simp [go_sem])
 refine DC.intro tiOk Try.func8 rfl rfl rfl rfl rfl rfl rfl rfl [1000] ?_
 refine rg [0] ?_
 intro k hk; simp -dsimp [go_sem, -decide_eq_true_eq, -decide_eq_false_iff_not]
 repeat' first | apply And.intro | refine hk _ ?_ | intro hg | omega | exact True.intro | (show (_ : Nat) < _; simp [go_sem]; omega) | (show (_ : Nat) ≤ _; simp [go_sem]; done) | (show _ = _; simp [go_sem]; done) | (show _ ∧ _ ; simp [go_sem]; done)
 all_goals clear hk k
 refine rg [0,3] ?_
 intro k hk; simp -dsimp [go_sem, -decide_eq_true_eq, -decide_eq_false_iff_not]
 repeat' first | apply And.intro | refine hk _ ?_ | intro hg | omega | exact True.intro | (show (_ : Nat) < _; simp [go_sem]; omega) | (show (_ : Nat) ≤ _; simp [go_sem]; done) | (show _ = _; simp [go_sem]; done) | (show _ ∧ _ ; simp [go_sem]; done)
 all_goals clear hk k
 refine AW.seq ?_
 refine rg [0,3,4] ?_
 intro k hk; simp -dsimp [go_sem, -decide_eq_true_eq, -decide_eq_false_iff_not]
 repeat' first | apply And.intro | refine hk _ ?_ | intro hg | omega | exact True.intro | (show (_ : Nat) < _; simp [go_sem]; omega) | (show (_ : Nat) ≤ _; simp [go_sem]; done) | (show _ = _; simp [go_sem]; done) | (show _ ∧ _ ; simp [go_sem]; done)
 all_goals clear hk k
 refine AW.block ?_
 refine AW.loopI (fun i : Nat => ⟨23, [(0, .isl 6 (l.map TStep.ro)), (3, .sl 7 6 0 l.length), (4, .int .i64 i)], [(7, some ⟨6, fill TStep.oc [.int .i64 0, .int .i64 0, .str [], .int .i64 0, .nils, .nils] l i⟩)]⟩) (fun i => i ≤ l.length) (fun i => l.length - i) (0) (by simp) (Less.of rfl (by simp [go_sem]) (by simp [go_sem, fill_zero])) ?_
 rintro i hi
 refine AW.seq ?_
 refine rg [0,3,4,11] ?_
 intro k hk; simp -dsimp [go_sem, -decide_eq_true_eq, -decide_eq_false_iff_not]
 repeat' first | apply And.intro | refine hk _ ?_ | intro hg | omega | exact True.intro | (show (_ : Nat) < _; simp [go_sem]; omega) | (show (_ : Nat) ≤ _; simp [go_sem]; done) | (show _ = _; simp [go_sem]; done) | (show _ ∧ _ ; simp [go_sem]; done)
 all_goals clear hk k
 refine AW.cond rfl ?_ ?_
 ·intro hc; try simp at hc
  all_goals (
   have hlt : i < l.length := by assumption
   obtain ⟨x, hx⟩ := at_some hlt
   have hf := fill_len (f := TStep.oc) (z := [.int .i64 0, .int .i64 0, .str [], .int .i64 0, .nils, .nils]) hi
   have hf2 := fill_at (f := TStep.oc) (z := [.int .i64 0, .int .i64 0, .str [], .int .i64 0, .nils, .nils]) hlt
   refine AW.skipN (fun _ h => h) ?_
   refine AW.seq ?_
   refine AW.block ?_
   refine rgN0 [0,3,4] (fun _ h => h) ?_
   intro k hk; simp -dsimp (maxSteps := 2000000) [go_sem, -decide_eq_true_eq, -decide_eq_false_iff_not, hx, hf, hf2, idz]
   repeat' first | apply And.intro | refine hk _ ?_ | intro hg | (refine CallK.intro (dc_laws_toStep x (hg x (List.mem_of_getElem? hx))) ?_; simp -dsimp (maxSteps := 2000000) [go_sem, -decide_eq_true_eq, -decide_eq_false_iff_not, hx, hf, hf2, idz]) | omega | exact True.intro | (show (_ : Nat) < _; simp [go_sem, hx, hf, hf2, idz]; omega) | (show (_ : Nat) ≤ _; simp [go_sem, hx, hf, hf2, idz]; done) | (show _ = _; simp [go_sem, hx, hf, hf2, idz]; done) | (show _ ∧ _ ; simp [go_sem, hx, hf, hf2, idz]; done)
   all_goals clear hk k
   refine AW.fold (nd := ?nd_1) (c := ?c_1) (l := ?l_1) (es := ?es_1) (n := ?n_1) 7 i 4 1020 ?h1_1 ?h2_1 ?h4_1 ?h3_1 ?hn_1 (by decide) ?h6_1 ?kk_1
   (case h1_1 => exact rfl)
   (case h2_1 => refine node_here ?_; (repeat rw [List.length_set]); omega)
   (case h4_1 => exact rfl)
   (case h3_1 => exact rfl)
   (case hn_1 => simp)
   (case h6_1 => simp [go_sem])
   refine AW.cellLe (nd := ?nd_2) (c := ?c_2) (x := ?x_2) 7 i 4 (owc 4 (x.cond.map TNode.ro)) ?h1_2 ?h2_2 ?h3_2 ?h4_2 ?kk_2
   (case h1_2 => exact rfl)
   (case h2_2 => refine node_here ?_; (repeat rw [List.length_set]); omega)
   (case h3_2 => exact rfl)
   (case h4_2 => simp [go_sem])
   refine AW.fold (nd := ?nd_3) (c := ?c_3) (l := ?l_3) (es := ?es_3) (n := ?n_3) 7 i 5 2020 ?h1_3 ?h2_3 ?h4_3 ?h3_3 ?hn_3 (by decide) ?h6_3 ?kk_3
   (case h1_3 => exact rfl)
   (case h2_3 => refine node_here ?_; (repeat rw [List.length_set]); omega)
   (case h4_3 => exact rfl)
   (case h3_3 => exact rfl)
   (case hn_3 => simp)
   (case h6_3 => simp [go_sem])
   refine AW.cellLe (nd := ?nd_4) (c := ?c_4) (x := ?x_4) 7 i 5 (owc 4 (x.expr.map TNode.ro)) ?h1_4 ?h2_4 ?h3_4 ?h4_4 ?kk_4
   (case h1_4 => exact rfl)
   (case h2_4 => refine node_here ?_; (repeat rw [List.length_set]); omega)
   (case h3_4 => exact rfl)
   (case h4_4 => simp [go_sem])
   refine AW.tidy (st' := ?stt_5)  [0, 3, 4] ?e_5 ?kk_5
   (case e_5 => simp -dsimp [go_sem, List.set_set, hx, hf, hf2, idz]; exact rfl)
   refine rgK ?_
   intro k hk; simp -dsimp [go_sem, -decide_eq_true_eq, -decide_eq_false_iff_not, hx, hf, hf2, idz]
   repeat' first | apply And.intro | refine hk _ ?_ | intro hg | omega | exact True.intro | (show (_ : Nat) < _; simp [go_sem, hx, hf, hf2, idz]; omega) | (show (_ : Nat) ≤ _; simp [go_sem, hx, hf, hf2, idz]; done) | (show _ = _; simp [go_sem, hx, hf, hf2, idz]; done) | (show _ ∧ _ ; simp [go_sem, hx, hf, hf2, idz]; done)
   all_goals clear hk k
   show ∃ _, _
   have hw := wrapi hlt (by omega)
   have hs := fill_set (f := TStep.oc) (z := [.int .i64 0, .int .i64 0, .str [], .int .i64 0, .nils, .nils]) hx
   simp [go_sem] at hs
   refine ⟨i + 1, by omega, by omega, Less.of rfl (by simp [go_sem, hw]) (by simp [go_sem, List.set_set, ← hs])⟩)
 ·intro hc; try simp at hc
  all_goals (
   refine AW.exitN (fun _ h => h) ?_
   refine rg [2] ?_
   intro k hk; simp -dsimp [go_sem, -decide_eq_true_eq, -decide_eq_false_iff_not]
   repeat' first | apply And.intro | refine hk _ ?_ | intro hg | omega | exact True.intro | (show (_ : Nat) < _; simp [go_sem]; omega) | (show (_ : Nat) ≤ _; simp [go_sem]; done) | (show _ = _; simp [go_sem]; done) | (show _ ∧ _ ; simp [go_sem]; done)
   all_goals clear hk k
   refine rt ?_
   have he := fill_end (f := TStep.oc) (z := [.int .i64 0, .int .i64 0, .str [], .int .i64 0, .nils, .nils]) (show l.length ≤ i by omega); simp [go_sem, Try.results8, he])

end Go.AM
namespace Go.AM
@[go_sem ↓ high] theorem TNode_cells (x y : TNode) : ([x.kind, x.val, x.left, x.right] = ([y.kind, y.val, y.left, y.right] : List Int)) ↔ x = y := by
  cases x; cases y; simp
@[go_sem ↓ high] theorem TClaim_cells (x y : TClaim) : ([x.inst, x.step, x.user] = ([y.inst, y.step, y.user] : List Int)) ↔ x = y := by
  cases x; cases y; simp
end Go.AM
namespace Go.AM
@[go_sem high] theorem TStep_unC (l : List TStep) : List.map ((fun x => List.map unown x) ∘ TStep.oc) l = l.map TStep.ro := by rw [← TStep_oc_unM, List.map_map]
@[go_sem high] theorem TProc_unC (l : List TProc) : List.map ((fun x => List.map unown x) ∘ TProc.oc) l = l.map TProc.ro := by rw [← TProc_oc_unM, List.map_map]
@[go_sem high] theorem TInst_unC (l : List TInst) : List.map ((fun x => List.map unown x) ∘ TInst.oc) l = l.map TInst.ro := by rw [← TInst_oc_unM, List.map_map]
end Go.AM
namespace Go.AM
open Go.Proofs

/-- laws.eqIntResult -/
theorem dc_laws_eqIntResult (a b : TIntResult) : DC Try.prog 17 [.agg a.ro, .agg b.ro] (.bool (decide (a = b))) [] := by
 refine DC.intro tiOk Try.func17 rfl rfl rfl rfl rfl rfl rfl rfl [] ?_
 refine rgA [2,3] ?_
 refine AW.seq ?_
 refine rgA [2,3,9] ?_
 refine AW.cond rfl ?_ ?_
 ·intro hc; try simp at hc
  all_goals (
   refine rgA [4] ?_
   refine rt ?_
   cases a; cases b; simp [go_sem, Try.results17] at *; simp [*])
 ·intro hc; try simp at hc
  all_goals (
   refine AW.skipN (fun _ h => h) ?_
   refine AW.seq ?_
   refine rgA [14] ?_
   refine AW.cond rfl ?_ ?_
   ·intro hc; try simp at hc
    all_goals (
     refine rgA [4] ?_
     refine rt ?_
     cases a; cases b; simp [go_sem, Try.results17] at *; simp [*])
   ·intro hc; try simp at hc
    all_goals (
     refine AW.skipN (fun _ h => h) ?_
     refine rgA [4] ?_
     refine rt ?_
     cases a; cases b; simp [go_sem, Try.results17] at *; simp [*]))

set_option maxHeartbeats 20000000 in
/-- laws.FnExactNodeFor -/
theorem dc_laws_FnExactNodeFor (p : List TStep) (gp : p.length ≤ 9223372036854775807 ∧ ∀ e ∈ p, e.gok) (st : Int) (gst : -9223372036854775808 ≤ st ∧ st ≤ 9223372036854775807) : DC Try.prog 4 [.isl 6 (p.map TStep.ro), .int .i64 st] (.bool true) [] := by
 refine DC.intro tiOk Try.func4 rfl rfl rfl rfl rfl rfl rfl rfl [] ?_
 refine rgA [0,1] ?_
 refine rgA [0,1,5] ?_
 refine rg [0,1,5] ?_
 intro k hk; simp -dsimp (maxSteps := 2000000) [go_sem, -decide_eq_true_eq, -decide_eq_false_iff_not]
 repeat' first | apply And.intro | refine hk _ ?_ | intro hg | (refine CallK.intro (dc_laws_szStepS _ _ (by first | assumption | (constructor <;> first | assumption | omega | grind [subz])) (by assumption)) ?_; simp -dsimp (maxSteps := 2000000) [go_sem, -decide_eq_true_eq, -decide_eq_false_iff_not]) | omega | exact True.intro
 all_goals clear hk k
 refine AW.seq ?_
 refine rgA [0,1,13] ?_
 refine AW.cond rfl ?_ ?_
 ·intro hc; try simp [subz_neg, subz_nn] at hc
  all_goals (
   refine rgA [4] ?_
   refine rt ?_
   simp [go_sem, Try.results4])
 ·intro hc; try simp [subz_neg, subz_nn] at hc
  all_goals (
   refine AW.skipN (fun _ h => h) ?_
   have bp : p.length ≤ 1048576 ∧ ∀ e ∈ p, e.sz ≤ 1048576 := ⟨by grind [subz], fun e he => by have := sum_mem (f := TStep.sz) he; grind [subz]⟩
   refine rg [0,1,6] ?_
   intro k hk; simp -dsimp (maxSteps := 2000000) [go_sem, -decide_eq_true_eq, -decide_eq_false_iff_not]
   repeat' first | apply And.intro | refine hk _ ?_ | intro hg | ((first | refine CallK.intro (dc_laws_toStepS p bp) ?_ | refine CallK.intro (dc_spec_NodeFor p gp st) ?_); simp -dsimp (maxSteps := 2000000) [go_sem, -decide_eq_true_eq, -decide_eq_false_iff_not]) | omega | exact True.intro
   all_goals clear hk k
   refine rg [0,1,6,7] ?_
   intro k hk; simp -dsimp (maxSteps := 2000000) [go_sem, -decide_eq_true_eq, -decide_eq_false_iff_not]
   repeat' first | apply And.intro | refine hk _ ?_ | intro hg | (refine CallK.intro (dc_laws_toStepS p bp) ?_; simp -dsimp (maxSteps := 2000000) [go_sem, -decide_eq_true_eq, -decide_eq_false_iff_not]) | omega | exact True.intro
   all_goals clear hk k
   refine rg [0,6,7,8] ?_
   intro k hk; simp -dsimp (maxSteps := 2000000) [go_sem, -decide_eq_true_eq, -decide_eq_false_iff_not]
   repeat' first | apply And.intro | refine hk _ ?_ | intro hg | (refine CallK.intro (dc_impl_NodeFor p gp st) ?_; simp -dsimp (maxSteps := 2000000) [go_sem, -decide_eq_true_eq, -decide_eq_false_iff_not]) | omega | exact True.intro
   all_goals clear hk k
   refine AW.seq ?_
   refine rg [0,7,26] ?_
   intro k hk; simp -dsimp (maxSteps := 2000000) [go_sem, -decide_eq_true_eq, -decide_eq_false_iff_not]
   repeat' first | apply And.intro | refine hk _ ?_ | intro hg | (refine CallK.intro (dc_laws_eqIntResult ⟨nfC p st, nfV p st⟩ ⟨nfC p st, nfV p st⟩) ?_; simp -dsimp (maxSteps := 2000000) [go_sem, -decide_eq_true_eq, -decide_eq_false_iff_not]) | omega | exact True.intro
   all_goals clear hk k
   refine AW.cond rfl ?_ ?_
   ·intro hc; try simp [subz_neg, subz_nn] at hc
    all_goals (
     refine rgA [4] ?_
     refine rt ?_
     simp [go_sem, Try.results4])
   ·intro hc; try simp [subz_neg, subz_nn] at hc
    all_goals (
     refine AW.skipN (fun _ h => h) ?_
     refine AW.seq ?_
     refine rg [31] ?_
     intro k hk; simp -dsimp (maxSteps := 2000000) [go_sem, -decide_eq_true_eq, -decide_eq_false_iff_not]
     repeat' first | apply And.intro | refine hk _ ?_ | intro hg | ((first | refine CallK.intro (dc_laws_toStepS p bp) ?_ | refine CallK.intro (dc_laws_eqStepS p p gp) ?_); simp -dsimp (maxSteps := 2000000) [go_sem, -decide_eq_true_eq, -decide_eq_false_iff_not]) | omega | exact True.intro
     all_goals clear hk k
     refine AW.cond rfl ?_ ?_
     ·intro hc; try simp [subz_neg, subz_nn] at hc
      all_goals (
       refine rgA [4] ?_
       refine rt ?_
       simp [go_sem, Try.results4])
     ·intro hc; try simp [subz_neg, subz_nn] at hc
      all_goals (
       refine AW.skipN (fun _ h => h) ?_
       refine rgA [4] ?_
       refine rt ?_
       simp [go_sem, Try.results4])))

end Go.AM
